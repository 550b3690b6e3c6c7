/- 'FnExactNodeTiming' returns true for all arguments. Nothing is asked of them but what every row asks. -/
import Derived.Test.YtechodbafnmddaaGreatDoorCards
import Derived.Test.YtechodbafnmddaaGreatDoorTie
import Derived.Test.YtechodbafnmddaaGreatDoorXF
import Derived.Test.YtechodbafnmddaaGreatDoorWB
import Derived.ProofKit
import Derived.Lay
import Derived.LaidMore
import Derived.Stop.Joined
import Derived.SevenTiedAt
import Derived.Stop.LaidErr
section
namespace Go.Proofs.YtechodbafnmddaaGreatDoor
open Go.ChangeShapes Go.WideShapes Go.ChangeAt Go.RowKit Go.Proofs.Sv Go.Proofs.Xv
open Go.ChangeMaps (open_string shut_string)
namespace fnExactNodeTiming
theorem own:ownKnob Tryz.prog.godebug=none:=by kernel_rfl
theorem B0r:laidOutB Tryz.prog=true:=by kernel_rfl
set_option maxRecDepth 100000 in
theorem z0L(os:Os)(b:os.Started)(H:Type)(enc:TypeId×Value->H) :
  ReturnsInHanded {} Tryz.checked os 4 .any (fun w args=>(Rows.fnExactNodeTimingSpec.pre enc Tryz.prog Tryz.f4 [] false w args/\laidMetH Tryz.prog Rows.fnExactNodeTimingRow.laid w)/\sizedMet enc Tryz.prog Tryz.f4 (OpenSpec.ofChange Rows.fnExactNodeTimingSpec) false w args)
   (Rows.fnExactNodeTimingSpec.post enc Tryz.prog Tryz.f4 false true false false):=by
 refine returnsInHanded_of_change_and (C:=Tryz.checked) (X:=fun w _=>laidMetH Tryz.prog Rows.fnExactNodeTimingRow.laid w) (fun _ _ _ hh h=>h.of_heap hh) own b (by kernel_rfl) Tryz.func4
  (ChangeSpec.witness_shaped (enc:=enc) (C:=Tryz.checked) (os:=os) (X:=fun w _=>laidMetH Tryz.prog Rows.fnExactNodeTimingRow.laid w) false (World.laidAll Tryz.prog os Rows.fnExactNodeTimingRow.laid) #[.agg #[.slice none 0 0,.slice none 0 0,.slice none 0 0,.slice none 0 0,.slice none 0 0],.agg #[.string ⟨#[]⟩,.int .i64 0,.int .i64 0,.int .i64 0,.int .i64 0],.slice none 0 0,.slice none 0 0,.agg #[.slice none 0 0,.slice none 0 0,.slice none 0 0],.int .i64 0] 8 (World.laidAll_os _ _ _)
    (World.shaped_of_ZipB (by kernel_rfl) (by kernel_rfl)) (by kernel_rfl) (by kernel_rfl) (by kernel_rfl)
    (by rw[MakeChecks.laidMetH_plain _ _ _ (by kernel_rfl)]; exact laidMet_laidAll _ (by kernel_rfl) (by kernel_rfl))) ?_
 intro W f args ds gs g c hW _ _ hL _;have a:∀(j:Nat) t v,Tryz.f4.params[j]?=some t->args[j]?=some v->Value.okWide Tryz.prog W .any f t v:=c;have d:=hW;obtain⟨p,q,r,hV,rfl,_,_⟩:=hW;have z:DataW.TrodAll enc Tryz.prog W 0 (fun _=>true) true Tryz.f4.params.toList args.toList ds p:=r;rw[Tryz.params4] at z a;obtain⟨v0,aH,d0,aD,p0,q0,Q,rfl,rfl,h0,P⟩:=trodAll_cons z;obtain⟨v1,aG,d1,aB,p1,q1,rfl,rfl,rfl,h1,l⟩:=trodAll_cons P;obtain⟨v2,aF,d2,aC,p2,q2,rfl,rfl,rfl,h2,k⟩:=trodAll_cons l;obtain⟨v3,aL,d3,aJ,p3,q3,rfl,rfl,rfl,h3,F⟩:=trodAll_cons k;obtain⟨v4,aK,d4,aA,p4,q4,rfl,rfl,rfl,h4,i⟩:=trodAll_cons F;obtain⟨v5,aM,d5,aI,p5,q5,rfl,rfl,rfl,h5,s⟩:=trodAll_cons i;obtain⟨rfl,rfl,rfl⟩:=trodAll_nil s;obtain rfl:args=#[v0,v1,v2,v3,v4,v5]:=by cases args; simp_all
 obtain⟨rfl,rfl⟩:=trodVars_none hV;simp only[List.append_nil] at d;obtain⟨G,n0,rfl,a0⟩:=RQ (y:=T7) (n:=30) (by kernel_rfl) Tryz.underlying32 (a 0 32 v0 rfl rfl) h0;obtain⟨u,V,rfl,a1⟩:=RQ (y:=V5) (n:=30) (by kernel_rfl) Tryz.underlying34 (a 1 34 v1 rfl rfl) h1;obtain⟨n2,a2⟩:=K0R (y:=.sl (.int .i64)) (n:=30) (by kernel_rfl) Tryz.underlying35 (a 2 35 v2 rfl rfl) h2;obtain⟨n3,a3⟩:=K0R (y:=.sl (y106)) (n:=30) (by kernel_rfl) Tryz.underlying36 (a 3 36 v3 rfl rfl) h3;obtain⟨o,Y,rfl,a4⟩:=RQ (y:=Y3) (n:=30) (by kernel_rfl) Tryz.underlying40 (a 4 40 v4 rfl rfl) h4;obtain⟨E,rfl,_,_,m⟩:=open_int Tryz.underlying2 (a 5 2 v5 rfl rfl) h5;have a5:J9 E:=by simpa [J9,Lit.wf,IntKind.min,IntKind.max,IntKind.signed,IntKind.bits] using m
 refine(w0f o4 (x:=(n0,V,n2,n3,Y,E,())) ⟨G,_,rfl,a0,⟨u,_,rfl,a1,⟨_,_,rfl,a2,⟨_,_,rfl,a3,⟨o,_,rfl,a4,⟨_,_,rfl,⟨rfl,a5⟩,⟨rfl,rfl⟩⟩⟩⟩⟩⟩⟩ (r4 n0 V n2 n3 Y E (RT.wf a0) (RT.wf a1) (RT.wf a2) (RT.wf a3) (RT.wf a4) a5)).mono fun e W' ⟨he,T⟩=>?_;subst he;exact⟨_,rfl,_,_,_,[],_,[],d,trodAll_mk1 (shut_bool Tryz.underlying4 _),e0X B0r T (by kernel_rfl) z,rfl,T.frame _,fun h=>by cases h⟩
theorem F0Z{a b:Bool}(d:a=true)(c:b=true):(a&&b)=true:=by rw[d,c]; rfl
set_option maxHeartbeats 0 in
theorem F0Y:joinedFacts Tryz.pinned.checked.prog 4 Tryz.f4 Rows.fnExactNodeTimingSpec Rows.fnExactNodeTimingRow=true:=by
 unfold joinedFacts
 iterate 31 refine F0Z ?_ (by as_aux_lemma=>kernel_rfl)
 as_aux_lemma=>kernel_rfl
theorem RR:Rows.FnExactNodeTimingSaid :=
 OpenClaim.holds_of_wide 4 Tryz.f4 rfl rfl rfl rfl rfl rfl rfl ⟨rfl,rfl,rfl,rfl,rfl⟩ rfl rfl rfl rfl rfl (by kernel_rfl) Tryz.func4 F0Y
  (of_decide_eq_true (by kernel_rfl)) (by unfold Func.isWrapper; first | (rw[if_pos (by decide +kernel)]; kernel_rfl) | (rw[if_neg (by decide +kernel)]; exact⟨rfl,rfl⟩))
  (fun c a H b _=>z0L c a H b)
theorem card_holds:Rows.FnExactNodeTimingCardSaid :=
 Claim7.holds_tied_plain_at .later [] [.data, .pinned] true (true, "f2f4f8de5dbeb64e60454a600e3868368a72182744cc6beefad0de7f2a0b072f") false RR (fun _ h => by cases h) (by kernel_rfl) (fun _ h => by cases h) fnExactNodeTiming_row_tie rfl ⟨rfl, rfl⟩ (by kernel_rfl) rfl
  (fun f e g b=>by
    obtain rfl : f = 4 := Option.some.inj ((show Tryz.prog.funcNamed "loop.example/g00861/laws.FnExactNodeTiming" = some 4 by kernel_rfl).symm.trans g) |>.symm
    obtain rfl:e=Tryz.f4:=(Option.some.inj (Tryz.func4.symm.trans b)).symm;exact⟨by kernel_rfl,fun j t c=>by
     rw[Tryz.params4] at c;have d:t∈[32,34,35,36,40,2]:=by simpa using Array.mem_of_getElem? c
     have a:([32,34,35,36,40,2].all fun u=>!Tryz.prog.wantsStandIn u)=true:=by kernel_rfl
     exact(show Tryz.prog.wantsStandIn t=false by simpa using List.all_eq_true.1 a t d)⟩)
  (by kernel_rfl)
#print axioms card_holds
end fnExactNodeTiming
end Go.Proofs.YtechodbafnmddaaGreatDoor
end

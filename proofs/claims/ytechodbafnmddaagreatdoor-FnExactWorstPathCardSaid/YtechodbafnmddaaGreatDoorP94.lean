/- 'FnExactWorstPath' returns true for all arguments. Nothing is asked of them but what every row asks. -/
import Derived.Test.YtechodbafnmddaaGreatDoorCards
import Derived.Test.YtechodbafnmddaaGreatDoorTie
import Derived.Test.YtechodbafnmddaaGreatDoorXF
import Derived.Test.YtechodbafnmddaaGreatDoorWC
import Derived.ProofKit
import Derived.Lay
import Derived.LaidMore
import Derived.Stop.Joined
import Derived.SevenTiedAt
import Derived.Stop.LaidErr
section
namespace Go.Proofs.YtechodbafnmddaaGreatDoor
open Go.ChangeShapes Go.WideShapes Go.ChangeAt Go.RowKit Go.Proofs.Sv Go.Proofs.Xv
open Go.ChangeMaps (open_string shut_string)
namespace fnExactWorstPath
theorem own:ownKnob Tryz.prog.godebug=none:=by kernel_rfl
theorem D0b:laidOutB Tryz.prog=true:=by kernel_rfl
set_option maxRecDepth 100000 in
theorem B0q(os:Os)(b:os.Started)(H:Type)(enc:TypeId×Value->H) :
  ReturnsInHanded {} Tryz.checked os 6 .any (fun w args=>(Rows.fnExactWorstPathSpec.pre enc Tryz.prog Tryz.f6 [] false w args/\laidMetH Tryz.prog Rows.fnExactWorstPathRow.laid w)/\sizedMet enc Tryz.prog Tryz.f6 (OpenSpec.ofChange Rows.fnExactWorstPathSpec) false w args)
   (Rows.fnExactWorstPathSpec.post enc Tryz.prog Tryz.f6 false true false false):=by
 refine returnsInHanded_of_change_and (C:=Tryz.checked) (X:=fun w _=>laidMetH Tryz.prog Rows.fnExactWorstPathRow.laid w) (fun _ _ _ hh h=>h.of_heap hh) own b (by kernel_rfl) Tryz.func6
  (ChangeSpec.witness_shaped (enc:=enc) (C:=Tryz.checked) (os:=os) (X:=fun w _=>laidMetH Tryz.prog Rows.fnExactWorstPathRow.laid w) false (World.laidAll Tryz.prog os Rows.fnExactWorstPathRow.laid) #[.agg #[.slice none 0 0,.slice none 0 0,.slice none 0 0,.slice none 0 0,.slice none 0 0],.agg #[.string ⟨#[]⟩,.int .i64 0,.int .i64 0,.int .i64 0,.int .i64 0],.slice none 0 0,.slice none 0 0,.agg #[.slice none 0 0,.slice none 0 0,.slice none 0 0],.int .i64 0,.int .i64 0] 8 (World.laidAll_os _ _ _)
    (World.shaped_of_ZipB (by kernel_rfl) (by kernel_rfl)) (by kernel_rfl) (by kernel_rfl) (by kernel_rfl)
    (by rw[MakeChecks.laidMetH_plain _ _ _ (by kernel_rfl)]; exact laidMet_laidAll _ (by kernel_rfl) (by kernel_rfl))) ?_
 intro W d args ds gs g c Q _ _ hL _;have a:∀(j:Nat) t v,Tryz.f6.params[j]?=some t->args[j]?=some v->Value.okWide Tryz.prog W .any d t v:=c;have f:=Q;obtain⟨p,q,s,hV,rfl,_,_⟩:=Q;have F:DataW.TrodAll enc Tryz.prog W 0 (fun _=>true) true Tryz.f6.params.toList args.toList ds p:=s;rw[Tryz.params6] at F a;obtain⟨v0,aN,d0,aM,p0,q0,l,rfl,rfl,h0,i⟩:=trodAll_cons F;obtain⟨G,aA,d1,aO,p1,q1,rfl,rfl,rfl,h1,z⟩:=trodAll_cons i;obtain⟨v2,aB,d2,aP,p2,q2,rfl,rfl,rfl,h2,u⟩:=trodAll_cons z;obtain⟨v3,aL,d3,aK,p3,q3,rfl,rfl,rfl,h3,x⟩:=trodAll_cons u;obtain⟨P,aI,d4,aF,p4,q4,rfl,rfl,rfl,h4,o⟩:=trodAll_cons x;obtain⟨v5,aC,d5,aQ,p5,q5,rfl,rfl,rfl,h5,E⟩:=trodAll_cons o;obtain⟨v6,aR,d6,aH,p6,q6,rfl,rfl,rfl,h6,k⟩:=trodAll_cons E;obtain⟨rfl,rfl,rfl⟩:=trodAll_nil k;obtain rfl:args=#[v0,G,v2,v3,P,v5,v6]:=by cases args; simp_all
 obtain⟨rfl,rfl⟩:=trodVars_none hV;simp only[List.append_nil] at f;obtain⟨aJ,n0,rfl,a0⟩:=TQ (y:=Z7) (n:=30) (by kernel_rfl) Tryz.underlying32 (a 0 32 v0 rfl rfl) h0;obtain⟨aD,n1,rfl,a1⟩:=TQ (y:=Z8) (n:=30) (by kernel_rfl) Tryz.underlying34 (a 1 34 G rfl rfl) h1;obtain⟨n2,a2⟩:=M0H (y:=.sl (.int .i64)) (n:=30) (by kernel_rfl) Tryz.underlying35 (a 2 35 v2 rfl rfl) h2;obtain⟨n3,a3⟩:=M0H (y:=.sl (y106)) (n:=30) (by kernel_rfl) Tryz.underlying36 (a 3 36 v3 rfl rfl) h3;obtain⟨aG,n4,rfl,a4⟩:=TQ (y:=AY) (n:=30) (by kernel_rfl) Tryz.underlying40 (a 4 40 P rfl rfl) h4;obtain⟨n5,rfl,_,_,m⟩:=open_int Tryz.underlying2 (a 5 2 v5 rfl rfl) h5;have T:K1 n5:=by simpa [K1,Lit.wf,IntKind.min,IntKind.max,IntKind.signed,IntKind.bits] using m
 obtain⟨V,rfl,_,_,r⟩:=open_int Tryz.underlying2 (a 6 2 v6 rfl rfl) h6;have a6:K1 V:=by simpa [K1,Lit.wf,IntKind.min,IntKind.max,IntKind.signed,IntKind.bits] using r
 refine(P0R a0 a1 a2 a3 a4 T a6 (r6 n0 n1 n2 n3 n4 n5 V (RT.wf a0) (RT.wf a1) (RT.wf a2) (RT.wf a3) (RT.wf a4) T a6)).mono fun e W' ⟨he,Y⟩=>?_;subst he;exact⟨_,rfl,_,_,_,[],_,[],f,trodAll_mk1 (shut_bool Tryz.underlying4 _),f0W D0b Y (by kernel_rfl) F,rfl,Y.frame _,fun h=>by cases h⟩
theorem H0Q{a b:Bool}(c:a=true)(d:b=true):(a&&b)=true:=by rw[c,d]; rfl
set_option maxHeartbeats 0 in
theorem H0P:joinedFacts Tryz.pinned.checked.prog 6 Tryz.f6 Rows.fnExactWorstPathSpec Rows.fnExactWorstPathRow=true:=by
 unfold joinedFacts
 iterate 31 refine H0Q ?_ (by as_aux_lemma=>kernel_rfl)
 as_aux_lemma=>kernel_rfl
theorem TR:Rows.FnExactWorstPathSaid :=
 OpenClaim.holds_of_wide 6 Tryz.f6 rfl rfl rfl rfl rfl rfl rfl ⟨rfl,rfl,rfl,rfl,rfl⟩ rfl rfl rfl rfl rfl (by kernel_rfl) Tryz.func6 H0P
  (of_decide_eq_true (by kernel_rfl)) (by unfold Func.isWrapper; first | (rw[if_pos (by decide +kernel)]; kernel_rfl) | (rw[if_neg (by decide +kernel)]; exact⟨rfl,rfl⟩))
  (fun c a H b _=>B0q c a H b)
theorem card_holds:Rows.FnExactWorstPathCardSaid :=
 Claim7.holds_tied_plain_at .later [] [.data, .pinned] true (true, "f2f4f8de5dbeb64e60454a600e3868368a72182744cc6beefad0de7f2a0b072f") false TR (fun _ h => by cases h) (by kernel_rfl) (fun _ h => by cases h) fnExactWorstPath_row_tie rfl ⟨rfl, rfl⟩ (by kernel_rfl) rfl
  (fun f g e b=>by
    obtain rfl : f = 6 := Option.some.inj ((show Tryz.prog.funcNamed "loop.example/g00861/laws.FnExactWorstPath" = some 6 by kernel_rfl).symm.trans e) |>.symm
    obtain rfl:g=Tryz.f6:=(Option.some.inj (Tryz.func6.symm.trans b)).symm;exact⟨by kernel_rfl,fun j t c=>by
     rw[Tryz.params6] at c;have d:t∈[32,34,35,36,40,2,2]:=by simpa using Array.mem_of_getElem? c
     have a:([32,34,35,36,40,2,2].all fun u=>!Tryz.prog.wantsStandIn u)=true:=by kernel_rfl
     exact(show Tryz.prog.wantsStandIn t=false by simpa using List.all_eq_true.1 a t d)⟩)
  (by kernel_rfl)
#print axioms card_holds
end fnExactWorstPath
end Go.Proofs.YtechodbafnmddaaGreatDoor
end

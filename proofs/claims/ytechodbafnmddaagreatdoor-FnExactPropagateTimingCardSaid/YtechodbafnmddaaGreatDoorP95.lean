/- 'FnExactPropagateTiming' returns true for all arguments. Nothing is asked of them but what every row asks. -/
import Derived.Test.YtechodbafnmddaaGreatDoorCards
import Derived.Test.YtechodbafnmddaaGreatDoorTie
import Derived.Test.YtechodbafnmddaaGreatDoorXF
import Derived.Test.YtechodbafnmddaaGreatDoorWC
import Derived.ProofKit
import Derived.Lay
import Derived.LaidMore
import Derived.Stop.Joined
import Derived.SevenTiedAt
import Derived.Stop.LaidErr
section
namespace Go.Proofs.YtechodbafnmddaaGreatDoor
open Go.ChangeShapes Go.WideShapes Go.ChangeAt Go.RowKit Go.Proofs.Sv Go.Proofs.Xv
open Go.ChangeMaps (open_string shut_string)
namespace fnExactPropagateTiming
theorem own:ownKnob Tryz.prog.godebug=none:=by kernel_rfl
theorem E0q:laidOutB Tryz.prog=true:=by kernel_rfl
set_option maxRecDepth 100000 in
theorem C0p(os:Os)(b:os.Started)(H:Type)(enc:TypeId×Value->H) :
  ReturnsInHanded {} Tryz.checked os 5 .any (fun w args=>(Rows.fnExactPropagateTimingSpec.pre enc Tryz.prog Tryz.f5 [] false w args/\laidMetH Tryz.prog Rows.fnExactPropagateTimingRow.laid w)/\sizedMet enc Tryz.prog Tryz.f5 (OpenSpec.ofChange Rows.fnExactPropagateTimingSpec) false w args)
   (Rows.fnExactPropagateTimingSpec.post enc Tryz.prog Tryz.f5 false true false false):=by
 refine returnsInHanded_of_change_and (C:=Tryz.checked) (X:=fun w _=>laidMetH Tryz.prog Rows.fnExactPropagateTimingRow.laid w) (fun _ _ _ hh h=>h.of_heap hh) own b (by kernel_rfl) Tryz.func5
  (ChangeSpec.witness_shaped (enc:=enc) (C:=Tryz.checked) (os:=os) (X:=fun w _=>laidMetH Tryz.prog Rows.fnExactPropagateTimingRow.laid w) false (World.laidAll Tryz.prog os Rows.fnExactPropagateTimingRow.laid) #[.agg #[.slice none 0 0,.slice none 0 0,.slice none 0 0,.slice none 0 0,.slice none 0 0],.agg #[.string ⟨#[]⟩,.int .i64 0,.int .i64 0,.int .i64 0,.int .i64 0],.slice none 0 0,.slice none 0 0] 8 (World.laidAll_os _ _ _)
    (World.shaped_of_ZipB (by kernel_rfl) (by kernel_rfl)) (by kernel_rfl) (by kernel_rfl) (by kernel_rfl)
    (by rw[MakeChecks.laidMetH_plain _ _ _ (by kernel_rfl)]; exact laidMet_laidAll _ (by kernel_rfl) (by kernel_rfl))) ?_
 intro W f args ds gs g c V _ _ hL _;have a:∀(j:Nat) t v,Tryz.f5.params[j]?=some t->args[j]?=some v->Value.okWide Tryz.prog W .any f t v:=c;have d:=V;obtain⟨p,q,m,hV,rfl,_,_⟩:=V;have o:DataW.TrodAll enc Tryz.prog W 0 (fun _=>true) true Tryz.f5.params.toList args.toList ds p:=m;rw[Tryz.params5] at o a;obtain⟨T,aD,d0,aH,p0,q0,l,rfl,rfl,h0,k⟩:=trodAll_cons o;obtain⟨Q,Y,d1,aB,p1,q1,rfl,rfl,rfl,h1,i⟩:=trodAll_cons k;obtain⟨F,aJ,d2,aC,p2,q2,rfl,rfl,rfl,h2,r⟩:=trodAll_cons i;obtain⟨z,aF,d3,aG,p3,q3,rfl,rfl,rfl,h3,s⟩:=trodAll_cons r;obtain⟨rfl,rfl,rfl⟩:=trodAll_nil s;obtain rfl:args=#[T,Q,F,z]:=by cases args; simp_all
 obtain⟨rfl,rfl⟩:=trodVars_none hV;simp only[List.append_nil] at d;obtain⟨aA,n0,rfl,x⟩:=O0m (y:=T3) (n:=30) (by kernel_rfl) Tryz.underlying32 (a 0 32 T rfl rfl) h0;obtain⟨aI,n1,rfl,G⟩:=O0m (y:=T4) (n:=30) (by kernel_rfl) Tryz.underlying34 (a 1 34 Q rfl rfl) h1;obtain⟨n2,E⟩:=O0n (y:=.sl (.int .i64)) (n:=30) (by kernel_rfl) Tryz.underlying35 (a 2 35 F rfl rfl) h2;obtain⟨n3,P⟩:=O0n (y:=.sl (y106)) (n:=30) (by kernel_rfl) Tryz.underlying36 (a 3 36 z rfl rfl) h3;refine(R0l x G E P (r5 n0 n1 n2 n3 (RT.wf x) (RT.wf G) (RT.wf E) (RT.wf P))).mono fun e W' ⟨he,u⟩=>?_;subst he;exact⟨_,rfl,_,_,_,[],_,[],d,trodAll_mk1 (shut_bool Tryz.underlying4 _),g0s E0q u (by kernel_rfl) o,rfl,u.frame _,fun h=>by cases h⟩
theorem J0f{a b:Bool}(d:a=true)(c:b=true):(a&&b)=true:=by rw[d,c]; rfl
set_option maxHeartbeats 0 in
theorem J0e:joinedFacts Tryz.pinned.checked.prog 5 Tryz.f5 Rows.fnExactPropagateTimingSpec Rows.fnExactPropagateTimingRow=true:=by
 unfold joinedFacts
 iterate 31 refine J0f ?_ (by as_aux_lemma=>kernel_rfl)
 as_aux_lemma=>kernel_rfl
theorem Vz:Rows.FnExactPropagateTimingSaid :=
 OpenClaim.holds_of_wide 5 Tryz.f5 rfl rfl rfl rfl rfl rfl rfl ⟨rfl,rfl,rfl,rfl,rfl⟩ rfl rfl rfl rfl rfl (by kernel_rfl) Tryz.func5 J0e
  (of_decide_eq_true (by kernel_rfl)) (by unfold Func.isWrapper; first | (rw[if_pos (by decide +kernel)]; kernel_rfl) | (rw[if_neg (by decide +kernel)]; exact⟨rfl,rfl⟩))
  (fun c a H b _=>C0p c a H b)
theorem card_holds:Rows.FnExactPropagateTimingCardSaid :=
 Claim7.holds_tied_plain_at .later [] [.data, .pinned] true (true, "f2f4f8de5dbeb64e60454a600e3868368a72182744cc6beefad0de7f2a0b072f") false Vz (fun _ h => by cases h) (by kernel_rfl) (fun _ h => by cases h) fnExactPropagateTiming_row_tie rfl ⟨rfl, rfl⟩ (by kernel_rfl) rfl
  (fun f e g b=>by
    obtain rfl : f = 5 := Option.some.inj ((show Tryz.prog.funcNamed "loop.example/g00861/laws.FnExactPropagateTiming" = some 5 by kernel_rfl).symm.trans g) |>.symm
    obtain rfl:e=Tryz.f5:=(Option.some.inj (Tryz.func5.symm.trans b)).symm;exact⟨by kernel_rfl,fun j t c=>by
     rw[Tryz.params5] at c;have d:t∈[32,34,35,36]:=by simpa using Array.mem_of_getElem? c
     have a:([32,34,35,36].all fun u=>!Tryz.prog.wantsStandIn u)=true:=by kernel_rfl
     exact(show Tryz.prog.wantsStandIn t=false by simpa using List.all_eq_true.1 a t d)⟩)
  (by kernel_rfl)
#print axioms card_holds
end fnExactPropagateTiming
end Go.Proofs.YtechodbafnmddaaGreatDoor
end

/- 'FnExactWorstLink' returns true for all arguments. Nothing is asked of them but what every row asks. -/
import Derived.Test.YtechodbafnmddaaGreatDoorCards
import Derived.Test.YtechodbafnmddaaGreatDoorTie
import Derived.Test.YtechodbafnmddaaGreatDoorXF
import Derived.Test.YtechodbafnmddaaGreatDoorWB
import Derived.ProofKit
import Derived.Lay
import Derived.LaidMore
import Derived.Stop.Joined
import Derived.SevenTiedAt
import Derived.Stop.LaidErr
section
namespace Go.Proofs.YtechodbafnmddaaGreatDoor
open Go.ChangeShapes Go.WideShapes Go.ChangeAt Go.RowKit Go.Proofs.Sv Go.Proofs.Xv
open Go.ChangeMaps (open_string shut_string)
namespace fnExactWorstLink
theorem own:ownKnob Tryz.prog.godebug=none:=by kernel_rfl
theorem A0N:laidOutB Tryz.prog=true:=by kernel_rfl
set_option maxRecDepth 100000 in
theorem ZH(os:Os)(b:os.Started)(H:Type)(enc:TypeId×Value->H) :
  ReturnsInHanded {} Tryz.checked os 3 .any (fun w args=>(Rows.fnExactWorstLinkSpec.pre enc Tryz.prog Tryz.f3 [] false w args/\laidMetH Tryz.prog Rows.fnExactWorstLinkRow.laid w)/\sizedMet enc Tryz.prog Tryz.f3 (OpenSpec.ofChange Rows.fnExactWorstLinkSpec) false w args)
   (Rows.fnExactWorstLinkSpec.post enc Tryz.prog Tryz.f3 false true false false):=by
 refine returnsInHanded_of_change_and (C:=Tryz.checked) (X:=fun w _=>laidMetH Tryz.prog Rows.fnExactWorstLinkRow.laid w) (fun _ _ _ hh h=>h.of_heap hh) own b (by kernel_rfl) Tryz.func3
  (ChangeSpec.witness_shaped (enc:=enc) (C:=Tryz.checked) (os:=os) (X:=fun w _=>laidMetH Tryz.prog Rows.fnExactWorstLinkRow.laid w) false (World.laidAll Tryz.prog os Rows.fnExactWorstLinkRow.laid) #[.agg #[.slice none 0 0,.slice none 0 0,.slice none 0 0,.slice none 0 0,.slice none 0 0],.agg #[.string ⟨#[]⟩,.int .i64 0,.int .i64 0,.int .i64 0,.int .i64 0],.slice none 0 0,.slice none 0 0,.agg #[.slice none 0 0,.slice none 0 0,.slice none 0 0],.int .i64 0,.int .i64 0] 8 (World.laidAll_os _ _ _)
    (World.shaped_of_ZipB (by kernel_rfl) (by kernel_rfl)) (by kernel_rfl) (by kernel_rfl) (by kernel_rfl)
    (by rw[MakeChecks.laidMetH_plain _ _ _ (by kernel_rfl)]; exact laidMet_laidAll _ (by kernel_rfl) (by kernel_rfl))) ?_
 intro W d args ds gs g c hW _ _ hL _;have a:∀(j:Nat) t v,Tryz.f3.params[j]?=some t->args[j]?=some v->Value.okWide Tryz.prog W .any d t v:=c;have f:=hW;obtain⟨p,q,r,hV,rfl,_,_⟩:=hW;have T:DataW.TrodAll enc Tryz.prog W 0 (fun _=>true) true Tryz.f3.params.toList args.toList ds p:=r;rw[Tryz.params3] at T a;obtain⟨v0,aD,d0,aM,p0,q0,G,rfl,rfl,h0,P⟩:=trodAll_cons T;obtain⟨v1,aF,d1,aJ,p1,q1,rfl,rfl,rfl,h1,m⟩:=trodAll_cons P;obtain⟨v2,aB,d2,aO,p2,q2,rfl,rfl,rfl,h2,s⟩:=trodAll_cons m;obtain⟨v3,aC,d3,aH,p3,q3,rfl,rfl,rfl,h3,Y⟩:=trodAll_cons s;obtain⟨v4,aI,d4,aN,p4,q4,rfl,rfl,rfl,h4,k⟩:=trodAll_cons Y;obtain⟨v5,aK,d5,aA,p5,q5,rfl,rfl,rfl,h5,u⟩:=trodAll_cons k;obtain⟨v6,aL,d6,aG,p6,q6,rfl,rfl,rfl,h6,V⟩:=trodAll_cons u;obtain⟨rfl,rfl,rfl⟩:=trodAll_nil V;obtain rfl:args=#[v0,v1,v2,v3,v4,v5,v6]:=by cases args; simp_all
 obtain⟨rfl,rfl⟩:=trodVars_none hV;simp only[List.append_nil] at f;obtain⟨z,n0,rfl,a0⟩:=Rh (y:=R6) (n:=30) (by kernel_rfl) Tryz.underlying32 (a 0 32 v0 rfl rfl) h0;obtain⟨l,n1,rfl,a1⟩:=Rh (y:=U1) (n:=30) (by kernel_rfl) Tryz.underlying34 (a 1 34 v1 rfl rfl) h1;obtain⟨n2,a2⟩:=ZI (y:=.sl (.int .i64)) (n:=30) (by kernel_rfl) Tryz.underlying35 (a 2 35 v2 rfl rfl) h2;obtain⟨n3,a3⟩:=ZI (y:=.sl (y106)) (n:=30) (by kernel_rfl) Tryz.underlying36 (a 3 36 v3 rfl rfl) h3;obtain⟨o,n4,rfl,a4⟩:=Rh (y:=X0) (n:=30) (by kernel_rfl) Tryz.underlying40 (a 4 40 v4 rfl rfl) h4;obtain⟨i,rfl,_,_,E⟩:=open_int Tryz.underlying2 (a 5 2 v5 rfl rfl) h5;have a5:H3 i:=by simpa [H3,Lit.wf,IntKind.min,IntKind.max,IntKind.signed,IntKind.bits] using E
 obtain⟨F,rfl,_,_,Q⟩:=open_int Tryz.underlying2 (a 6 2 v6 rfl rfl) h6;have a6:H3 F:=by simpa [H3,Lit.wf,IntKind.min,IntKind.max,IntKind.signed,IntKind.bits] using Q
 refine(v0I o3 (x:=(n0,n1,n2,n3,n4,i,F,())) ⟨z,_,rfl,a0,⟨l,_,rfl,a1,⟨_,_,rfl,a2,⟨_,_,rfl,a3,⟨o,_,rfl,a4,⟨_,_,rfl,⟨rfl,a5⟩,⟨_,_,rfl,⟨rfl,a6⟩,⟨rfl,rfl⟩⟩⟩⟩⟩⟩⟩⟩ (r3 n0 n1 n2 n3 n4 i F (RT.wf a0) (RT.wf a1) (RT.wf a2) (RT.wf a3) (RT.wf a4) a5 a6)).mono fun e W' ⟨he,hb⟩=>?_;subst he;exact⟨_,rfl,_,_,_,[],_,[],f,trodAll_mk1 (shut_bool Tryz.underlying4 _),ZJ A0N hb (by kernel_rfl) T,rfl,hb.frame _,fun h=>by cases h⟩
theorem F0t{a b:Bool}(d:a=true)(c:b=true):(a&&b)=true:=by rw[d,c]; rfl
set_option maxHeartbeats 0 in
theorem F0s:joinedFacts Tryz.pinned.checked.prog 3 Tryz.f3 Rows.fnExactWorstLinkSpec Rows.fnExactWorstLinkRow=true:=by
 unfold joinedFacts
 iterate 31 refine F0t ?_ (by as_aux_lemma=>kernel_rfl)
 as_aux_lemma=>kernel_rfl
theorem Ri:Rows.FnExactWorstLinkSaid :=
 OpenClaim.holds_of_wide 3 Tryz.f3 rfl rfl rfl rfl rfl rfl rfl ⟨rfl,rfl,rfl,rfl,rfl⟩ rfl rfl rfl rfl rfl (by kernel_rfl) Tryz.func3 F0s
  (of_decide_eq_true (by kernel_rfl)) (by unfold Func.isWrapper; first | (rw[if_pos (by decide +kernel)]; kernel_rfl) | (rw[if_neg (by decide +kernel)]; exact⟨rfl,rfl⟩))
  (fun c a H b _=>ZH c a H b)
theorem card_holds:Rows.FnExactWorstLinkCardSaid :=
 Claim7.holds_tied_plain_at .later [] [.data, .pinned] true (true, "f2f4f8de5dbeb64e60454a600e3868368a72182744cc6beefad0de7f2a0b072f") false Ri (fun _ h => by cases h) (by kernel_rfl) (fun _ h => by cases h) fnExactWorstLink_row_tie rfl ⟨rfl, rfl⟩ (by kernel_rfl) rfl
  (fun f d g b=>by
    obtain rfl : f = 3 := Option.some.inj ((show Tryz.prog.funcNamed "loop.example/g00861/laws.FnExactWorstLink" = some 3 by kernel_rfl).symm.trans g) |>.symm
    obtain rfl:d=Tryz.f3:=(Option.some.inj (Tryz.func3.symm.trans b)).symm;exact⟨by kernel_rfl,fun j t c=>by
     rw[Tryz.params3] at c;have e:t∈[32,34,35,36,40,2,2]:=by simpa using Array.mem_of_getElem? c
     have a:([32,34,35,36,40,2,2].all fun u=>!Tryz.prog.wantsStandIn u)=true:=by kernel_rfl
     exact(show Tryz.prog.wantsStandIn t=false by simpa using List.all_eq_true.1 a t e)⟩)
  (by kernel_rfl)
#print axioms card_holds
end fnExactWorstLink
end Go.Proofs.YtechodbafnmddaaGreatDoor
end

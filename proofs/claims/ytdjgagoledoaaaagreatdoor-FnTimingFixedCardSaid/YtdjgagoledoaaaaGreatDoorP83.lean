/- 'FnTimingFixed' returns true for all arguments. Nothing is asked of them but what every row asks. -/
import Derived.Test.YtdjgagoledoaaaaGreatDoorCards
import Derived.Test.YtdjgagoledoaaaaGreatDoorTie
import Derived.Test.YtdjgagoledoaaaaGreatDoorXF
import Derived.Test.YtdjgagoledoaaaaGreatDoorWC
import Derived.ProofKit
import Derived.Lay
import Derived.LaidMore
import Derived.Stop.Joined
import Derived.SevenTiedAt
import Derived.Stop.LaidErr
section
namespace Go.Proofs.YtdjgagoledoaaaaGreatDoor
open Go.ChangeShapes Go.WideShapes Go.ChangeAt Go.RowKit Go.Proofs.Sv Go.Proofs.Xv
open Go.ChangeMaps (open_string shut_string)
namespace fnTimingFixed
theorem own:ownKnob Tryz.prog.godebug=none:=by kernel_rfl
theorem D0W:laidOutB Tryz.prog=true:=by kernel_rfl
set_option maxRecDepth 100000 in
theorem B0R(os:Os)(a:os.Started)(H:Type)(enc:TypeId×Value->H) :
  ReturnsInHanded {} Tryz.checked os 3 .any (fun w args=>(Rows.fnTimingFixedSpec.pre enc Tryz.prog Tryz.f3 [] false w args/\laidMetH Tryz.prog Rows.fnTimingFixedRow.laid w)/\sizedMet enc Tryz.prog Tryz.f3 (OpenSpec.ofChange Rows.fnTimingFixedSpec) false w args)
   (Rows.fnTimingFixedSpec.post enc Tryz.prog Tryz.f3 false true false false):=by
 refine returnsInHanded_of_change_and (C:=Tryz.checked) (X:=fun w _=>laidMetH Tryz.prog Rows.fnTimingFixedRow.laid w) (fun _ _ _ P h=>h.of_heap P) own a (by kernel_rfl) Tryz.func3
  (ChangeSpec.witness_shaped (enc:=enc) (C:=Tryz.checked) (os:=os) (X:=fun w _=>laidMetH Tryz.prog Rows.fnTimingFixedRow.laid w) false (World.laidAll Tryz.prog os Rows.fnTimingFixedRow.laid) #[.slice none 0 0] 8 (World.laidAll_os _ _ _)
    (World.shaped_of_ZipB (by kernel_rfl) (by kernel_rfl)) (by kernel_rfl) (by kernel_rfl) (by kernel_rfl)
    (by rw[MakeChecks.laidMetH_plain _ _ _ (by kernel_rfl)]; exact laidMet_laidAll _ (by kernel_rfl) (by kernel_rfl))) ?_
 intro W d args ds gs g c s _ _ hL _;have b:∀(j:Nat) t v,Tryz.f3.params[j]?=some t->args[j]?=some v->Value.okWide Tryz.prog W .any d t v:=c;have f:=s;obtain⟨p,q,m,Q,rfl,_,_⟩:=s;have l:DataW.TrodAll enc Tryz.prog W 0 (fun _=>true) true Tryz.f3.params.toList args.toList ds p:=m;rw[Tryz.params3] at l b;obtain⟨o,V,d0,G,p0,q0,k,rfl,rfl,T,i⟩:=trodAll_cons l;obtain⟨rfl,rfl,rfl⟩:=trodAll_nil i;obtain rfl:args=#[o]:=by cases args; simp_all
 obtain⟨rfl,rfl⟩:=trodVars_none Q;simp only[List.append_nil] at f;obtain⟨z,u⟩:=R0x (y:=.sl (.int .u8)) (n:=30) (by kernel_rfl) Tryz.underlying22 (b 0 22 o rfl rfl) T;obtain⟨E⟩:=Go.Proofs.Xl.alw;refine(y0Q (o3 kw8) (x:=(z,())) ⟨_,_,rfl,u,⟨rfl,rfl⟩⟩ (lw3 z (RT.wf u))).mono fun e Y ⟨F,r⟩=>?_;subst F;exact⟨_,rfl,_,_,_,[],_,[],f,trodAll_mk1 (shut_bool Tryz.underlying4 _),f0C D0W r (by kernel_rfl) l,rfl,r.frame _,fun h=>by cases h⟩
theorem I0v{a b:Bool}(c:a=true)(d:b=true):(a&&b)=true:=by rw[c,d]; rfl
set_option maxHeartbeats 0 in
theorem I0u:joinedFacts Tryz.pinned.checked.prog 3 Tryz.f3 Rows.fnTimingFixedSpec Rows.fnTimingFixedRow=true:=by
 unfold joinedFacts
 iterate 31 refine I0v ?_ (by as_aux_lemma=>kernel_rfl)
 as_aux_lemma=>kernel_rfl
theorem VJ:Rows.FnTimingFixedSaid :=
 OpenClaim.holds_of_wide 3 Tryz.f3 rfl rfl rfl rfl rfl rfl rfl ⟨rfl,rfl,rfl,rfl,rfl⟩ rfl rfl rfl rfl rfl (by kernel_rfl) Tryz.func3 I0u
  (of_decide_eq_true (by kernel_rfl)) (by unfold Func.isWrapper; first | (rw[if_pos (by decide +kernel)]; kernel_rfl) | (rw[if_neg (by decide +kernel)]; exact⟨rfl,rfl⟩))
  (fun c a H b _=>B0R c a H b)
theorem card_holds:Rows.FnTimingFixedCardSaid :=
 Claim7.holds_tied_plain_at .later [] [.data, .pinned] true (true, "ac5561677e1e153ed403969269164d516c8123105742a4de5e9e1e2003713165") false VJ (fun _ h => by cases h) (by kernel_rfl) (fun _ h => by cases h) fnTimingFixed_row_tie rfl ⟨rfl, rfl⟩ (by kernel_rfl) rfl
  (fun f d e b=>by
    obtain rfl : f = 3 := Option.some.inj ((show Tryz.prog.funcNamed "loop.example/g00861/laws.FnTimingFixed" = some 3 by kernel_rfl).symm.trans e) |>.symm
    obtain rfl:d=Tryz.f3:=(Option.some.inj (Tryz.func3.symm.trans b)).symm;exact⟨by kernel_rfl,fun j t c=>by
     rw[Tryz.params3] at c;have g:t∈[22]:=by simpa using Array.mem_of_getElem? c
     have a:([22].all fun u=>!Tryz.prog.wantsStandIn u)=true:=by kernel_rfl
     exact(show Tryz.prog.wantsStandIn t=false by simpa using List.all_eq_true.1 a t g)⟩)
  (by kernel_rfl)
#print axioms card_holds
end fnTimingFixed
end Go.Proofs.YtdjgagoledoaaaaGreatDoor
end

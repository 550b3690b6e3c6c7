/- 'FnArrivalPaths' returns true for all arguments. Nothing is asked of them but what every row asks. -/
import Derived.Test.YtdjgagoledoaaaaGreatDoorCards
import Derived.Test.YtdjgagoledoaaaaGreatDoorTie
import Derived.Test.YtdjgagoledoaaaaGreatDoorXF
import Derived.Test.YtdjgagoledoaaaaGreatDoorWC
import Derived.ProofKit
import Derived.Lay
import Derived.LaidMore
import Derived.Stop.Joined
import Derived.SevenTiedAt
import Derived.Stop.LaidErr
section
namespace Go.Proofs.YtdjgagoledoaaaaGreatDoor
open Go.ChangeShapes Go.WideShapes Go.ChangeAt Go.RowKit Go.Proofs.Sv Go.Proofs.Xv
open Go.ChangeMaps (open_string shut_string)
namespace fnArrivalPaths
theorem own:ownKnob Tryz.prog.godebug=none:=by kernel_rfl
theorem E0m:laidOutB Tryz.prog=true:=by kernel_rfl
set_option maxRecDepth 100000 in
theorem C0f(os:Os)(a:os.Started)(H:Type)(enc:TypeId×Value->H) :
  ReturnsInHanded {} Tryz.checked os 6 .any (fun w args=>(Rows.fnArrivalPathsSpec.pre enc Tryz.prog Tryz.f6 [] false w args/\laidMetH Tryz.prog Rows.fnArrivalPathsRow.laid w)/\sizedMet enc Tryz.prog Tryz.f6 (OpenSpec.ofChange Rows.fnArrivalPathsSpec) false w args)
   (Rows.fnArrivalPathsSpec.post enc Tryz.prog Tryz.f6 false true false false):=by
 refine returnsInHanded_of_change_and (C:=Tryz.checked) (X:=fun w _=>laidMetH Tryz.prog Rows.fnArrivalPathsRow.laid w) (fun _ _ _ P h=>h.of_heap P) own a (by kernel_rfl) Tryz.func6
  (ChangeSpec.witness_shaped (enc:=enc) (C:=Tryz.checked) (os:=os) (X:=fun w _=>laidMetH Tryz.prog Rows.fnArrivalPathsRow.laid w) false (World.laidAll Tryz.prog os Rows.fnArrivalPathsRow.laid) #[.slice none 0 0] 8 (World.laidAll_os _ _ _)
    (World.shaped_of_ZipB (by kernel_rfl) (by kernel_rfl)) (by kernel_rfl) (by kernel_rfl) (by kernel_rfl)
    (by rw[MakeChecks.laidMetH_plain _ _ _ (by kernel_rfl)]; exact laidMet_laidAll _ (by kernel_rfl) (by kernel_rfl))) ?_
 intro W f args ds Y g c s _ _ hL _;have b:∀(j:Nat) t v,Tryz.f6.params[j]?=some t->args[j]?=some v->Value.okWide Tryz.prog W .any f t v:=c;have d:=s;obtain⟨p,q,i,V,rfl,_,_⟩:=s;have k:DataW.TrodAll enc Tryz.prog W 0 (fun _=>true) true Tryz.f6.params.toList args.toList ds p:=i;rw[Tryz.params6] at k b;obtain⟨u,G,d0,T,p0,q0,l,rfl,rfl,F,m⟩:=trodAll_cons k;obtain⟨rfl,rfl,rfl⟩:=trodAll_nil m;obtain rfl:args=#[u]:=by cases args; simp_all
 obtain⟨rfl,rfl⟩:=trodVars_none V;simp only[List.append_nil] at d;obtain⟨r,z⟩:=S0g (y:=.sl (.int .u8)) (n:=30) (by kernel_rfl) Tryz.underlying22 (b 0 22 u rfl rfl) F;obtain⟨E⟩:=Go.Proofs.Xl.alw;refine(y0W (o6 P0G) (x:=(r,())) ⟨_,_,rfl,z,⟨rfl,rfl⟩⟩ (lw6 r (RT.wf z))).mono fun e W' ⟨Q,o⟩=>?_;subst Q;exact⟨_,rfl,_,_,_,[],_,[],d,trodAll_mk1 (shut_bool Tryz.underlying4 _),f0B E0m o (by kernel_rfl) k,rfl,o.frame _,fun h=>by cases h⟩
theorem I0P{a b:Bool}(c:a=true)(d:b=true):(a&&b)=true:=by rw[c,d]; rfl
set_option maxHeartbeats 0 in
theorem I0O:joinedFacts Tryz.pinned.checked.prog 6 Tryz.f6 Rows.fnArrivalPathsSpec Rows.fnArrivalPathsRow=true:=by
 unfold joinedFacts
 iterate 31 refine I0P ?_ (by as_aux_lemma=>kernel_rfl)
 as_aux_lemma=>kernel_rfl
theorem Wg:Rows.FnArrivalPathsSaid :=
 OpenClaim.holds_of_wide 6 Tryz.f6 rfl rfl rfl rfl rfl rfl rfl ⟨rfl,rfl,rfl,rfl,rfl⟩ rfl rfl rfl rfl rfl (by kernel_rfl) Tryz.func6 I0O
  (of_decide_eq_true (by kernel_rfl)) (by unfold Func.isWrapper; first | (rw[if_pos (by decide +kernel)]; kernel_rfl) | (rw[if_neg (by decide +kernel)]; exact⟨rfl,rfl⟩))
  (fun c a H b _=>C0f c a H b)
theorem card_holds:Rows.FnArrivalPathsCardSaid :=
 Claim7.holds_tied_plain_at .later [] [.data, .pinned] true (true, "ac5561677e1e153ed403969269164d516c8123105742a4de5e9e1e2003713165") false Wg (fun _ h => by cases h) (by kernel_rfl) (fun _ h => by cases h) fnArrivalPaths_row_tie rfl ⟨rfl, rfl⟩ (by kernel_rfl) rfl
  (fun f g e b=>by
    obtain rfl : f = 6 := Option.some.inj ((show Tryz.prog.funcNamed "loop.example/g00861/laws.FnArrivalPaths" = some 6 by kernel_rfl).symm.trans e) |>.symm
    obtain rfl:g=Tryz.f6:=(Option.some.inj (Tryz.func6.symm.trans b)).symm;exact⟨by kernel_rfl,fun j t c=>by
     rw[Tryz.params6] at c;have d:t∈[22]:=by simpa using Array.mem_of_getElem? c
     have a:([22].all fun u=>!Tryz.prog.wantsStandIn u)=true:=by kernel_rfl
     exact(show Tryz.prog.wantsStandIn t=false by simpa using List.all_eq_true.1 a t d)⟩)
  (by kernel_rfl)
#print axioms card_holds
end fnArrivalPaths
end Go.Proofs.YtdjgagoledoaaaaGreatDoor
end

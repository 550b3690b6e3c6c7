/- 'FnShiftedSources' returns true for all arguments. Nothing is asked of them but what every row asks. -/
import Derived.Test.YtdjgagoledoaaaaGreatDoorCards
import Derived.Test.YtdjgagoledoaaaaGreatDoorTie
import Derived.Test.YtdjgagoledoaaaaGreatDoorXF
import Derived.Test.YtdjgagoledoaaaaGreatDoorWC
import Derived.ProofKit
import Derived.Lay
import Derived.LaidMore
import Derived.Stop.Joined
import Derived.SevenTiedAt
import Derived.Stop.LaidErr
section
namespace Go.Proofs.YtdjgagoledoaaaaGreatDoor
open Go.ChangeShapes Go.WideShapes Go.ChangeAt Go.RowKit Go.Proofs.Sv Go.Proofs.Xv
open Go.ChangeMaps (open_string shut_string)
namespace fnShiftedSources
theorem own:ownKnob Tryz.prog.godebug=none:=by kernel_rfl
theorem E0f:laidOutB Tryz.prog=true:=by kernel_rfl
set_option maxRecDepth 100000 in
theorem B0W(os:Os)(a:os.Started)(H:Type)(enc:TypeId×Value->H) :
  ReturnsInHanded {} Tryz.checked os 4 .any (fun w args=>(Rows.fnShiftedSourcesSpec.pre enc Tryz.prog Tryz.f4 [] false w args/\laidMetH Tryz.prog Rows.fnShiftedSourcesRow.laid w)/\sizedMet enc Tryz.prog Tryz.f4 (OpenSpec.ofChange Rows.fnShiftedSourcesSpec) false w args)
   (Rows.fnShiftedSourcesSpec.post enc Tryz.prog Tryz.f4 false true false false):=by
 refine returnsInHanded_of_change_and (C:=Tryz.checked) (X:=fun w _=>laidMetH Tryz.prog Rows.fnShiftedSourcesRow.laid w) (fun _ _ _ P h=>h.of_heap P) own a (by kernel_rfl) Tryz.func4
  (ChangeSpec.witness_shaped (enc:=enc) (C:=Tryz.checked) (os:=os) (X:=fun w _=>laidMetH Tryz.prog Rows.fnShiftedSourcesRow.laid w) false (World.laidAll Tryz.prog os Rows.fnShiftedSourcesRow.laid) #[.slice none 0 0] 8 (World.laidAll_os _ _ _)
    (World.shaped_of_ZipB (by kernel_rfl) (by kernel_rfl)) (by kernel_rfl) (by kernel_rfl) (by kernel_rfl)
    (by rw[MakeChecks.laidMetH_plain _ _ _ (by kernel_rfl)]; exact laidMet_laidAll _ (by kernel_rfl) (by kernel_rfl))) ?_
 intro W f args ds gs g c E _ _ hL _;have b:∀(j:Nat) t v,Tryz.f4.params[j]?=some t->args[j]?=some v->Value.okWide Tryz.prog W .any f t v:=c;have d:=E;obtain⟨p,q,k,Q,rfl,_,_⟩:=E;have l:DataW.TrodAll enc Tryz.prog W 0 (fun _=>true) true Tryz.f4.params.toList args.toList ds p:=k;rw[Tryz.params4] at l b;obtain⟨s,T,d0,V,Y,q0,m,rfl,rfl,G,i⟩:=trodAll_cons l;obtain⟨rfl,rfl,rfl⟩:=trodAll_nil i;obtain rfl:args=#[s]:=by cases args; simp_all
 obtain⟨rfl,rfl⟩:=trodVars_none Q;simp only[List.append_nil] at d;obtain⟨z,u⟩:=R0E (y:=.sl (.int .u8)) (n:=30) (by kernel_rfl) Tryz.underlying22 (b 0 22 s rfl rfl) G;obtain⟨r⟩:=Go.Proofs.Xl.alw;refine(y0R (o4 kw8) (x:=(z,())) ⟨_,_,rfl,u,⟨rfl,rfl⟩⟩ (lw4 z (RT.wf u))).mono fun e W' ⟨F,o⟩=>?_;subst F;exact⟨_,rfl,_,_,_,[],_,[],d,trodAll_mk1 (shut_bool Tryz.underlying4 _),f0F E0f o (by kernel_rfl) l,rfl,o.frame _,fun h=>by cases h⟩
theorem I0H{a b:Bool}(d:a=true)(c:b=true):(a&&b)=true:=by rw[d,c]; rfl
set_option maxHeartbeats 0 in
theorem I0G:joinedFacts Tryz.pinned.checked.prog 4 Tryz.f4 Rows.fnShiftedSourcesSpec Rows.fnShiftedSourcesRow=true:=by
 unfold joinedFacts
 iterate 31 refine I0H ?_ (by as_aux_lemma=>kernel_rfl)
 as_aux_lemma=>kernel_rfl
theorem Vx:Rows.FnShiftedSourcesSaid :=
 OpenClaim.holds_of_wide 4 Tryz.f4 rfl rfl rfl rfl rfl rfl rfl ⟨rfl,rfl,rfl,rfl,rfl⟩ rfl rfl rfl rfl rfl (by kernel_rfl) Tryz.func4 I0G
  (of_decide_eq_true (by kernel_rfl)) (by unfold Func.isWrapper; first | (rw[if_pos (by decide +kernel)]; kernel_rfl) | (rw[if_neg (by decide +kernel)]; exact⟨rfl,rfl⟩))
  (fun c a H b _=>B0W c a H b)
theorem card_holds:Rows.FnShiftedSourcesCardSaid :=
 Claim7.holds_tied_plain_at .later [] [.data, .pinned] true (true, "ac5561677e1e153ed403969269164d516c8123105742a4de5e9e1e2003713165") false Vx (fun _ h => by cases h) (by kernel_rfl) (fun _ h => by cases h) fnShiftedSources_row_tie rfl ⟨rfl, rfl⟩ (by kernel_rfl) rfl
  (fun f d g b=>by
    obtain rfl : f = 4 := Option.some.inj ((show Tryz.prog.funcNamed "loop.example/g00861/laws.FnShiftedSources" = some 4 by kernel_rfl).symm.trans g) |>.symm
    obtain rfl:d=Tryz.f4:=(Option.some.inj (Tryz.func4.symm.trans b)).symm;exact⟨by kernel_rfl,fun j t c=>by
     rw[Tryz.params4] at c;have e:t∈[22]:=by simpa using Array.mem_of_getElem? c
     have a:([22].all fun u=>!Tryz.prog.wantsStandIn u)=true:=by kernel_rfl
     exact(show Tryz.prog.wantsStandIn t=false by simpa using List.all_eq_true.1 a t e)⟩)
  (by kernel_rfl)
#print axioms card_holds
end fnShiftedSources
end Go.Proofs.YtdjgagoledoaaaaGreatDoor
end

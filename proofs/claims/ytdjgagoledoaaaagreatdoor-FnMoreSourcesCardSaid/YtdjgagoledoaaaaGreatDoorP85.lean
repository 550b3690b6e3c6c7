/- 'FnMoreSources' returns true for all arguments. Nothing is asked of them but what every row asks. -/
import Derived.Test.YtdjgagoledoaaaaGreatDoorCards
import Derived.Test.YtdjgagoledoaaaaGreatDoorTie
import Derived.Test.YtdjgagoledoaaaaGreatDoorXF
import Derived.Test.YtdjgagoledoaaaaGreatDoorWC
import Derived.ProofKit
import Derived.Lay
import Derived.LaidMore
import Derived.Stop.Joined
import Derived.SevenTiedAt
import Derived.Stop.LaidErr
section
namespace Go.Proofs.YtdjgagoledoaaaaGreatDoor
open Go.ChangeShapes Go.WideShapes Go.ChangeAt Go.RowKit Go.Proofs.Sv Go.Proofs.Xv
open Go.ChangeMaps (open_string shut_string)
namespace fnMoreSources
theorem own:ownKnob Tryz.prog.godebug=none:=by kernel_rfl
theorem E0a:laidOutB Tryz.prog=true:=by kernel_rfl
set_option maxRecDepth 100000 in
theorem B0U(os:Os)(a:os.Started)(H:Type)(enc:TypeId×Value->H) :
  ReturnsInHanded {} Tryz.checked os 5 .any (fun w args=>(Rows.fnMoreSourcesSpec.pre enc Tryz.prog Tryz.f5 [] false w args/\laidMetH Tryz.prog Rows.fnMoreSourcesRow.laid w)/\sizedMet enc Tryz.prog Tryz.f5 (OpenSpec.ofChange Rows.fnMoreSourcesSpec) false w args)
   (Rows.fnMoreSourcesSpec.post enc Tryz.prog Tryz.f5 false true false false):=by
 refine returnsInHanded_of_change_and (C:=Tryz.checked) (X:=fun w _=>laidMetH Tryz.prog Rows.fnMoreSourcesRow.laid w) (fun _ _ _ P h=>h.of_heap P) own a (by kernel_rfl) Tryz.func5
  (ChangeSpec.witness_shaped (enc:=enc) (C:=Tryz.checked) (os:=os) (X:=fun w _=>laidMetH Tryz.prog Rows.fnMoreSourcesRow.laid w) false (World.laidAll Tryz.prog os Rows.fnMoreSourcesRow.laid) #[.slice none 0 0] 8 (World.laidAll_os _ _ _)
    (World.shaped_of_ZipB (by kernel_rfl) (by kernel_rfl)) (by kernel_rfl) (by kernel_rfl) (by kernel_rfl)
    (by rw[MakeChecks.laidMetH_plain _ _ _ (by kernel_rfl)]; exact laidMet_laidAll _ (by kernel_rfl) (by kernel_rfl))) ?_
 intro W d args ds gs g c u _ _ Y _;have b:∀(j:Nat) t v,Tryz.f5.params[j]?=some t->args[j]?=some v->Value.okWide Tryz.prog W .any d t v:=c;have f:=u;obtain⟨p,q,k,V,rfl,_,_⟩:=u;have l:DataW.TrodAll enc Tryz.prog W 0 (fun _=>true) true Tryz.f5.params.toList args.toList ds p:=k;rw[Tryz.params5] at l b;obtain⟨z,T,d0,Q,p0,q0,m,rfl,rfl,G,i⟩:=trodAll_cons l;obtain⟨rfl,rfl,rfl⟩:=trodAll_nil i;obtain rfl:args=#[z]:=by cases args; simp_all
 obtain⟨rfl,rfl⟩:=trodVars_none V;simp only[List.append_nil] at f;obtain⟨E,o⟩:=R0D (y:=.sl (.int .u8)) (n:=30) (by kernel_rfl) Tryz.underlying22 (b 0 22 z rfl rfl) G;obtain⟨s⟩:=Go.Proofs.Xl.alw;refine(y0R (o5 kw8) (x:=(E,())) ⟨_,_,rfl,o,⟨rfl,rfl⟩⟩ (lw5 E (RT.wf o))).mono fun e W' ⟨F,r⟩=>?_;subst F;exact⟨_,rfl,_,_,_,[],_,[],f,trodAll_mk1 (shut_bool Tryz.underlying4 _),f0D E0a r (by kernel_rfl) l,rfl,r.frame _,fun h=>by cases h⟩
theorem I0F{a b:Bool}(d:a=true)(c:b=true):(a&&b)=true:=by rw[d,c]; rfl
set_option maxHeartbeats 0 in
theorem I0E:joinedFacts Tryz.pinned.checked.prog 5 Tryz.f5 Rows.fnMoreSourcesSpec Rows.fnMoreSourcesRow=true:=by
 unfold joinedFacts
 iterate 31 refine I0F ?_ (by as_aux_lemma=>kernel_rfl)
 as_aux_lemma=>kernel_rfl
theorem Vu:Rows.FnMoreSourcesSaid :=
 OpenClaim.holds_of_wide 5 Tryz.f5 rfl rfl rfl rfl rfl rfl rfl ⟨rfl,rfl,rfl,rfl,rfl⟩ rfl rfl rfl rfl rfl (by kernel_rfl) Tryz.func5 I0E
  (of_decide_eq_true (by kernel_rfl)) (by unfold Func.isWrapper; first | (rw[if_pos (by decide +kernel)]; kernel_rfl) | (rw[if_neg (by decide +kernel)]; exact⟨rfl,rfl⟩))
  (fun c a H b _=>B0U c a H b)
theorem card_holds:Rows.FnMoreSourcesCardSaid :=
 Claim7.holds_tied_plain_at .later [] [.data, .pinned] true (true, "ac5561677e1e153ed403969269164d516c8123105742a4de5e9e1e2003713165") false Vu (fun _ h => by cases h) (by kernel_rfl) (fun _ h => by cases h) fnMoreSources_row_tie rfl ⟨rfl, rfl⟩ (by kernel_rfl) rfl
  (fun f d e b=>by
    obtain rfl : f = 5 := Option.some.inj ((show Tryz.prog.funcNamed "loop.example/g00861/laws.FnMoreSources" = some 5 by kernel_rfl).symm.trans e) |>.symm
    obtain rfl:d=Tryz.f5:=(Option.some.inj (Tryz.func5.symm.trans b)).symm;exact⟨by kernel_rfl,fun j t c=>by
     rw[Tryz.params5] at c;have g:t∈[22]:=by simpa using Array.mem_of_getElem? c
     have a:([22].all fun u=>!Tryz.prog.wantsStandIn u)=true:=by kernel_rfl
     exact(show Tryz.prog.wantsStandIn t=false by simpa using List.all_eq_true.1 a t g)⟩)
  (by kernel_rfl)
#print axioms card_holds
end fnMoreSources
end Go.Proofs.YtdjgagoledoaaaaGreatDoor
end

/- 'FnExactEditText' returns true for all arguments. Nothing is asked of them but what every row asks. -/
import Derived.Test.YtekfdfcnjlfgiaaGreatDoorCards
import Derived.Test.YtekfdfcnjlfgiaaGreatDoorTie
import Derived.Test.YtekfdfcnjlfgiaaGreatDoorXF
import Derived.Test.YtekfdfcnjlfgiaaGreatDoorWA
import Derived.ProofKit
import Derived.Lay
import Derived.LaidMore
import Derived.Stop.Joined
import Derived.SevenTiedAt
import Derived.Stop.LaidErr
section
namespace Go.Proofs.YtekfdfcnjlfgiaaGreatDoor
open Go.ChangeShapes Go.WideShapes Go.ChangeAt Go.RowKit Go.Proofs.Sv Go.Proofs.Xv
open Go.ChangeMaps (open_string shut_string)
namespace fnExactEditText
theorem own:ownKnob Tryz.prog.godebug=none:=by kernel_rfl
theorem laidOut:laidOutB Tryz.prog=true:=by kernel_rfl
set_option maxRecDepth 100000 in
theorem lifted(os:Os)(started:os.Started)(H:Type)(enc:TypeId×Value->H) :
  ReturnsInHanded {} Tryz.checked os 4 .any (fun w args=>(Rows.fnExactEditTextSpec.pre enc Tryz.prog Tryz.f4 [] false w args/\laidMetH Tryz.prog Rows.fnExactEditTextRow.laid w)/\sizedMet enc Tryz.prog Tryz.f4 (OpenSpec.ofChange Rows.fnExactEditTextSpec) false w args)
   (Rows.fnExactEditTextSpec.post enc Tryz.prog Tryz.f4 false true false false):=by
 refine returnsInHanded_of_change_and (C:=Tryz.checked) (X:=fun w _=>laidMetH Tryz.prog Rows.fnExactEditTextRow.laid w) (fun _ _ _ hh h=>h.of_heap hh) own started (by kernel_rfl) Tryz.func4
  (ChangeSpec.witness_shaped (enc:=enc) (C:=Tryz.checked) (os:=os) (X:=fun w _=>laidMetH Tryz.prog Rows.fnExactEditTextRow.laid w) false (World.laidAll Tryz.prog os Rows.fnExactEditTextRow.laid) #[.agg #[.slice none 0 0,.slice none 0 0,.slice none 0 0,.slice none 0 0,.slice none 0 0],.agg #[.int .i64 0,.int .i64 0,.int .i64 0,.int .i64 0,.int .i64 0,.string ⟨#[]⟩,.slice none 0 0,.slice none 0 0,.slice none 0 0,.slice none 0 0]] 8 (World.laidAll_os _ _ _)
    (World.shaped_of_ZipB (by kernel_rfl) (by kernel_rfl)) (by kernel_rfl) (by kernel_rfl) (by kernel_rfl)
    (by rw[MakeChecks.laidMetH_plain _ _ _ (by kernel_rfl)]; exact laidMet_laidAll _ (by kernel_rfl) (by kernel_rfl))) ?_
 intro W base args ds gs before hval0 hW _ _ hL _;have hval:∀(j:Nat) t v,Tryz.f4.params[j]?=some t->args[j]?=some v->Value.okWide Tryz.prog W .any base t v:=hval0;have hW':=hW;obtain⟨p,q,hA0,hV,rfl,_,_⟩:=hW;have hA:DataW.TrodAll enc Tryz.prog W 0 (fun _=>true) true Tryz.f4.params.toList args.toList ds p:=hA0;rw[Tryz.params4] at hA hval;obtain⟨v0,vs0,d0,ds0,p0,q0,hargs,rfl,rfl,h0,tr0⟩:=trodAll_cons hA;obtain⟨v1,vs1,d1,ds1,p1,q1,rfl,rfl,rfl,h1,tr1⟩:=trodAll_cons tr0;obtain⟨rfl,rfl,rfl⟩:=trodAll_nil tr1;obtain rfl:args=#[v0,v1]:=by cases args; simp_all
 obtain⟨rfl,rfl⟩:=trodVars_none hV;simp only[List.append_nil] at hW';obtain⟨cs0,n0,rfl,a0⟩:=argS (y:=y32) (n:=30) (by kernel_rfl) Tryz.underlying32 (hval 0 32 v0 rfl rfl) h0;obtain⟨cs1,n1,rfl,a1⟩:=argS (y:=y52) (n:=30) (by kernel_rfl) Tryz.underlying52 (hval 1 52 v1 rfl rfl) h1;have hL1:laidMet Tryz.prog Rows.fnExactEditTextRow.laid W:=by rw[<- MakeChecks.laidMetH_plain _ _ _ (by kernel_rfl)]; exact hL
 have hL2 : laidMet Tryz.prog (("internal/strconv.uint64pow10", Lib.tabData .u64 Lib.pow10Tab) :: _) W := hL1.tail.tail
 have hTab : Lib.TabIs Tryz.prog W "internal/strconv.uint64pow10" .u64 Lib.pow10Tab := Lib.tabIs_of_head (g := 0) (t := 236) (e := 211) (n := 20) (by kernel_rfl) (by kernel_rfl) Tryz.underlying236 Tryz.underlying211 (by kernel_rfl) (by kernel_rfl) hL2
 have hFac : Fac Tryz.prog W := ⟨fun _ _ => hTab, fun g e => (nomatch (show Tryz.prog.globalNamed "strconv.ErrSyntax" = none by kernel_rfl).symm.trans e), fun g e => (nomatch (show Tryz.prog.globalNamed "strconv.ErrRange" = none by kernel_rfl).symm.trans e), fun f g e _ => (nomatch (show Tryz.prog.funcNamed "strings.Split" = none by kernel_rfl).symm.trans e)⟩
 refine(law_call o4 (x:=(n0,n1,())) hFac ⟨cs0,_,rfl,a0,⟨cs1,_,rfl,a1,⟨rfl,rfl⟩⟩⟩ (r4 n0 n1 (RT.wf a0) (RT.wf a1))).mono fun e W' ⟨he,hb⟩=>?_;subst he;exact⟨_,rfl,_,_,_,[],_,[],hW',trodAll_mk1 (shut_bool Tryz.underlying4 _),trodAll_below laidOut hb (by kernel_rfl) hA,rfl,hb.frame _,fun h=>by cases h⟩
theorem cl_and{a b:Bool}(ha:a=true)(hb:b=true):(a&&b)=true:=by rw[ha,hb]; rfl
set_option maxHeartbeats 0 in
theorem closed:joinedFacts Tryz.pinned.checked.prog 4 Tryz.f4 Rows.fnExactEditTextSpec Rows.fnExactEditTextRow=true:=by
 unfold joinedFacts
 iterate 31 refine cl_and ?_ (by as_aux_lemma=>kernel_rfl)
 as_aux_lemma=>kernel_rfl
theorem holds:Rows.FnExactEditTextSaid :=
 OpenClaim.holds_of_wide 4 Tryz.f4 rfl rfl rfl rfl rfl rfl rfl ⟨rfl,rfl,rfl,rfl,rfl⟩ rfl rfl rfl rfl rfl (by kernel_rfl) Tryz.func4 closed
  (of_decide_eq_true (by kernel_rfl)) (by unfold Func.isWrapper; first | (rw[if_pos (by decide +kernel)]; kernel_rfl) | (rw[if_neg (by decide +kernel)]; exact⟨rfl,rfl⟩))
  (fun os started H enc _=>lifted os started H enc)
theorem card_holds:Rows.FnExactEditTextCardSaid :=
 Claim7.holds_tied_plain_at .later [] [.data, .data, .data, .data, .pinned] true (true, "9d959fe77dd8cdcc148fa0da385311ba6c00cb00aef04ace0f1a4015eaf08543") false holds (fun _ h => by cases h) (by kernel_rfl) (fun _ h => by cases h) fnExactEditText_row_tie rfl ⟨rfl, rfl⟩ (by kernel_rfl) rfl
  (fun f fn hf hfn=>by
    obtain rfl : f = 4 := Option.some.inj ((show Tryz.prog.funcNamed "loop.example/g00861/laws.FnExactEditText" = some 4 by kernel_rfl).symm.trans hf) |>.symm
    obtain rfl:fn=Tryz.f4:=(Option.some.inj (Tryz.func4.symm.trans hfn)).symm;exact⟨by kernel_rfl,fun j t ht=>by
     rw[Tryz.params4] at ht;have hm:t∈[32,52]:=by simpa using Array.mem_of_getElem? ht
     have hall:([32,52].all fun u=>!Tryz.prog.wantsStandIn u)=true:=by kernel_rfl
     exact(show Tryz.prog.wantsStandIn t=false by simpa using List.all_eq_true.1 hall t hm)⟩)
  (by kernel_rfl)
#print axioms card_holds
end fnExactEditText
end Go.Proofs.YtekfdfcnjlfgiaaGreatDoor
end

/- 'FnExactReadEdit' returns true for all arguments. Nothing is asked of them but what every row asks. -/
import Derived.Test.YtfggbbnnalflhaaGreatDoorCards
import Derived.Test.YtfggbbnnalflhaaGreatDoorTie
import Derived.Test.YtfggbbnnalflhaaGreatDoorXF
import Derived.Test.YtfggbbnnalflhaaGreatDoorWC
import Derived.Shelf.Vars
import Derived.ProofKit
import Derived.Lay
import Derived.LaidMore
import Derived.Stop.Joined
import Derived.SevenTiedAt
import Derived.Stop.LaidErr
section
namespace Go.Proofs.YtfggbbnnalflhaaGreatDoor
open Go.ChangeShapes Go.WideShapes Go.ChangeAt Go.RowKit Go.Proofs.Sv Go.Proofs.Xv
open Go.ChangeMaps (open_string shut_string)
namespace fnExactReadEdit
theorem own:ownKnob Tryz.prog.godebug=none:=by kernel_rfl
theorem laidOut:laidOutB Tryz.prog=true:=by kernel_rfl
set_option maxRecDepth 100000 in
theorem lifted(os:Os)(started:os.Started)(H:Type)(enc:TypeId×Value->H) :
  ReturnsInHanded {} Tryz.checked os 3 .any (fun w args=>(Rows.fnExactReadEditSpec.pre enc Tryz.prog Tryz.f3 [] false w args/\laidMetH Tryz.prog Rows.fnExactReadEditRow.laid w)/\sizedMet enc Tryz.prog Tryz.f3 (OpenSpec.ofChange Rows.fnExactReadEditSpec) false w args)
   (Rows.fnExactReadEditSpec.post enc Tryz.prog Tryz.f3 false true false false):=by
 refine Go.Proofs.Sv.returns_both (C:=Tryz.checked) (X:=fun w _=>laidMetH Tryz.prog Rows.fnExactReadEditRow.laid w) (fun _ _ _ hh h=>h.of_heap hh) own started (by kernel_rfl) Tryz.func3
  (ChangeSpec.witness_shaped (enc:=enc) (C:=Tryz.checked) (os:=os) (X:=fun w _=>laidMetH Tryz.prog Rows.fnExactReadEditRow.laid w) false (World.laidAll Tryz.prog os Rows.fnExactReadEditRow.laid) #[.agg #[.slice none 0 0,.slice none 0 0,.slice none 0 0,.slice none 0 0,.slice none 0 0],.string ⟨#[]⟩] 8 (World.laidAll_os _ _ _)
    (World.shaped_of_ZipB (by kernel_rfl) (by kernel_rfl)) (by kernel_rfl) (by kernel_rfl) (by kernel_rfl)
    (by rw[MakeChecks.laidMetH_plain _ _ _ (by kernel_rfl)]; exact laidMet_laidAll _ (by kernel_rfl) (by kernel_rfl))) ?_
 intro W base args ds gs before hval0 hW _ _ hL hSh;have hval:∀(j:Nat) t v,Tryz.f3.params[j]?=some t->args[j]?=some v->Value.okWide Tryz.prog W .any base t v:=hval0;have hW':=hW;obtain⟨p,q,hA0,hV,rfl,_,_⟩:=hW;have hA:DataW.TrodAll enc Tryz.prog W 0 (fun _=>true) true Tryz.f3.params.toList args.toList ds p:=hA0;rw[Tryz.params3] at hA hval;obtain⟨v0,vs0,d0,ds0,p0,q0,hargs,rfl,rfl,h0,tr0⟩:=trodAll_cons hA;obtain⟨v1,vs1,d1,ds1,p1,q1,rfl,rfl,rfl,h1,tr1⟩:=trodAll_cons tr0;obtain⟨rfl,rfl,rfl⟩:=trodAll_nil tr1;obtain rfl:args=#[v0,v1]:=by cases args; simp_all
 obtain⟨rfl,rfl⟩:=trodVars_none hV;simp only[List.append_nil] at hW';obtain⟨cs0,n0,rfl,a0⟩:=argS (y:=y32) (n:=30) (by kernel_rfl) Tryz.underlying32 (hval 0 32 v0 rfl rfl) h0;obtain⟨s1,rfl,_,_,hs1⟩:=open_string Tryz.underlying9 (hval 1 9 v1 rfl rfl) h1;have a1:s1.size<=9223372036854775807:=by unfold maxLen at hs1; omega
 have hL1:laidMet Tryz.prog Rows.fnExactReadEditRow.laid W:=by rw[<- MakeChecks.laidMetH_plain _ _ _ (by kernel_rfl)]; exact hL
 have hL2 : laidMet Tryz.prog (("internal/strconv.uint64pow10", Lib.tabData .u64 Lib.pow10Tab) :: _) W := hL1.tail.tail
 have hTab : Lib.TabIs Tryz.prog W "internal/strconv.uint64pow10" .u64 Lib.pow10Tab := Lib.tabIs_of_head (g := 5) (t := 320) (e := 269) (n := 20) (by kernel_rfl) (by kernel_rfl) Tryz.underlying320 Tryz.underlying269 (by kernel_rfl) (by kernel_rfl) hL2
 obtain⟨eutax,evtax,hevtax⟩:=laid_iface (g:=1) (t:=191) (by kernel_rfl) (by kernel_rfl) Tryz.underlying191 hL1.tail.tail.tail.tail.tail;obtain⟨eunge,evnge,hevnge⟩:=laid_iface (g:=2) (t:=191) (by kernel_rfl) (by kernel_rfl) Tryz.underlying191 hL1.tail.tail.tail.tail;have hMax:∃m,W.cell? ⟨0,0,none⟩=some (.int .i64 m):=Go.Proofs.cell_of_shapedOpen_int (g:=0) (t:=3) (zero:=#[.int .i64 0]) hSh (by decide +kernel) (by kernel_rfl) rfl (by kernel_rfl) (by kernel_rfl) Tryz.underlying3
 have hFac : Fac Tryz.prog W := ⟨fun _ _ => hTab, fun g e => by obtain rfl : 1 = g := Option.some.inj ((show Tryz.prog.globalNamed "strconv.ErrSyntax" = some 1 by kernel_rfl).symm.trans e); exact ⟨_, hevtax, .inr ⟨_, _, rfl⟩⟩, fun g e => by obtain rfl : 2 = g := Option.some.inj ((show Tryz.prog.globalNamed "strconv.ErrRange" = some 2 by kernel_rfl).symm.trans e); exact ⟨_, hevnge, .inr ⟨_, _, rfl⟩⟩, fun _ g _ e => by obtain rfl : 0 = g := Option.some.inj ((show Tryz.prog.globalNamed "internal/bytealg.MaxLen" = some 0 by kernel_rfl).symm.trans e); exact hMax⟩
 refine(law3 hFac a0 a1 (r3 n0 s1 (RT.wf a0) a1)).mono fun e W' ⟨he,hb⟩=>?_;subst he;exact⟨_,rfl,_,_,_,[],_,[],hW',trodAll_mk1 (shut_bool Tryz.underlying4 _),trodAll_below laidOut hb (by kernel_rfl) hA,rfl,hb.frame _,fun h=>by cases h⟩
theorem cl_and{a b:Bool}(ha:a=true)(hb:b=true):(a&&b)=true:=by rw[ha,hb]; rfl
set_option maxHeartbeats 0 in
theorem closed:joinedFacts Tryz.pinned.checked.prog 3 Tryz.f3 Rows.fnExactReadEditSpec Rows.fnExactReadEditRow=true:=by
 unfold joinedFacts
 iterate 31 refine cl_and ?_ (by as_aux_lemma=>kernel_rfl)
 as_aux_lemma=>kernel_rfl
theorem holds:Rows.FnExactReadEditSaid :=
 OpenClaim.holds_of_wide 3 Tryz.f3 rfl rfl rfl rfl rfl rfl rfl ⟨rfl,rfl,rfl,rfl,rfl⟩ rfl rfl rfl rfl rfl (by kernel_rfl) Tryz.func3 closed
  (of_decide_eq_true (by kernel_rfl)) (by unfold Func.isWrapper; first | (rw[if_pos (by decide +kernel)]; kernel_rfl) | (rw[if_neg (by decide +kernel)]; exact⟨rfl,rfl⟩))
  (fun os started H enc _=>lifted os started H enc)
theorem card_holds:Rows.FnExactReadEditCardSaid :=
 Claim7.holds_tied_plain_at .later [] [.data, .data, .data, .data, .sentinel, .sentinel, .pinned] true (true, "22ded6badc0ac5d8cd635347030977f30938409992d83f4f88df6d4b8ffc8e6e") true holds (fun _ h => by cases h) (by kernel_rfl) (fun _ h => by cases h) fnExactReadEdit_row_tie rfl ⟨rfl, rfl⟩ (by kernel_rfl) rfl
  (fun f fn hf hfn=>by
    obtain rfl : f = 3 := Option.some.inj ((show Tryz.prog.funcNamed "loop.example/g00861/laws.FnExactReadEdit" = some 3 by kernel_rfl).symm.trans hf) |>.symm
    obtain rfl:fn=Tryz.f3:=(Option.some.inj (Tryz.func3.symm.trans hfn)).symm;exact⟨by kernel_rfl,fun j t ht=>by
     rw[Tryz.params3] at ht;have hm:t∈[32,9]:=by simpa using Array.mem_of_getElem? ht
     have hall:([32,9].all fun u=>!Tryz.prog.wantsStandIn u)=true:=by kernel_rfl
     exact(show Tryz.prog.wantsStandIn t=false by simpa using List.all_eq_true.1 hall t hm)⟩)
  (by kernel_rfl)
#print axioms card_holds
end fnExactReadEdit
end Go.Proofs.YtfggbbnnalflhaaGreatDoor
end

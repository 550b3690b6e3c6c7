/- 'FnTableText' returns true for all arguments. Nothing is asked of them but what every row asks. -/
import Derived.Test.YtekfdfcnjlfgiaaDoorCards
import Derived.Test.YtekfdfcnjlfgiaaDoorTie
import Derived.Test.YtekfdfcnjlfgiaaDoorXF
import Derived.Test.YtekfdfcnjlfgiaaDoorWA
import Derived.Shelf.Vars
import Derived.ProofKit
import Derived.Lay
import Derived.LaidMore
import Derived.Stop.Joined
import Derived.SevenTiedAt
import Derived.Stop.LaidErr
section
namespace Go.Proofs.YtekfdfcnjlfgiaaDoor
open Go.ChangeShapes Go.WideShapes Go.ChangeAt Go.RowKit Go.Proofs.Sv Go.Proofs.Xv
open Go.ChangeMaps (open_string shut_string)
namespace fnTableText
theorem own:ownKnob Tryd.prog.godebug=none:=by kernel_rfl
theorem laidOut:laidOutB Tryd.prog=true:=by kernel_rfl
set_option maxRecDepth 100000 in
theorem lifted(os:Os)(started:os.Started)(H:Type)(enc:TypeId×Value->H) :
  ReturnsInHanded {} Tryd.checked os 3 .any (fun w args=>(Rows.fnTableTextSpec.pre enc Tryd.prog Tryd.f3 [] false w args/\laidMetH Tryd.prog Rows.fnTableTextRow.laid w)/\sizedMet enc Tryd.prog Tryd.f3 (OpenSpec.ofChange Rows.fnTableTextSpec) false w args)
   (Rows.fnTableTextSpec.post enc Tryd.prog Tryd.f3 false true false false):=by
 refine Go.Proofs.Sv.returns_both (C:=Tryd.checked) (X:=fun w _=>laidMetH Tryd.prog Rows.fnTableTextRow.laid w) (fun _ _ _ hh h=>h.of_heap hh) own started (by kernel_rfl) Tryd.func3
  (ChangeSpec.witness_shaped (enc:=enc) (C:=Tryd.checked) (os:=os) (X:=fun w _=>laidMetH Tryd.prog Rows.fnTableTextRow.laid w) false (World.laidAll Tryd.prog os Rows.fnTableTextRow.laid) #[.slice none 0 0] 8 (World.laidAll_os _ _ _)
    (World.shaped_of_ZipB (by kernel_rfl) (by kernel_rfl)) (by kernel_rfl) (by kernel_rfl) (by kernel_rfl)
    (by rw[MakeChecks.laidMetH_plain _ _ _ (by kernel_rfl)]; exact laidMet_laidAll _ (by kernel_rfl) (by kernel_rfl))) ?_
 intro W base args ds gs before hval0 hW _ _ hL hSh;have hval:∀(j:Nat) t v,Tryd.f3.params[j]?=some t->args[j]?=some v->Value.okWide Tryd.prog W .any base t v:=hval0;have hW':=hW;obtain⟨p,q,hA0,hV,rfl,_,_⟩:=hW;have hA:DataW.TrodAll enc Tryd.prog W 0 (fun _=>true) true Tryd.f3.params.toList args.toList ds p:=hA0;rw[Tryd.params3] at hA hval;obtain⟨v0,vs0,d0,ds0,p0,q0,hargs,rfl,rfl,h0,tr0⟩:=trodAll_cons hA;obtain⟨rfl,rfl,rfl⟩:=trodAll_nil tr0;obtain rfl:args=#[v0]:=by cases args; simp_all
 obtain⟨rfl,rfl⟩:=trodVars_none hV;simp only[List.append_nil] at hW';obtain⟨n0,a0⟩:=argL (y:=.sl (.int .u8)) (n:=30) (by kernel_rfl) Tryd.underlying22 (hval 0 22 v0 rfl rfl) h0;have hL1:laidMet Tryd.prog Rows.fnTableTextRow.laid W:=by rw[<- MakeChecks.laidMetH_plain _ _ _ (by kernel_rfl)]; exact hL
 have hL2 : laidMet Tryd.prog (("internal/strconv.uint64pow10", Lib.tabData .u64 Lib.pow10Tab) :: _) W := hL1.tail.tail
 have hTab : Lib.TabIs Tryd.prog W "internal/strconv.uint64pow10" .u64 Lib.pow10Tab := Lib.tabIs_of_head (g := 5) (t := 118) (e := 85) (n := 20) (by kernel_rfl) (by kernel_rfl) Tryd.underlying118 Tryd.underlying85 (by kernel_rfl) (by kernel_rfl) hL2
 obtain⟨eutax,evtax,hevtax⟩:=laid_iface (g:=3) (t:=63) (by kernel_rfl) (by kernel_rfl) Tryd.underlying63 hL1.tail.tail.tail.tail.tail;obtain⟨eunge,evnge,hevnge⟩:=laid_iface (g:=4) (t:=63) (by kernel_rfl) (by kernel_rfl) Tryd.underlying63 hL1.tail.tail.tail.tail;have hMax:∃m,W.cell? ⟨0,0,none⟩=some (.int .i64 m):=Go.Proofs.cell_of_shapedOpen_int (g:=0) (t:=3) (zero:=#[.int .i64 0]) hSh (by decide +kernel) (by kernel_rfl) rfl (by kernel_rfl) (by kernel_rfl) Tryd.underlying3
 have hFac : Fac Tryd.prog W := ⟨fun _ _ => hTab, fun g e => by obtain rfl : 3 = g := Option.some.inj ((show Tryd.prog.globalNamed "strconv.ErrSyntax" = some 3 by kernel_rfl).symm.trans e); exact ⟨_, hevtax, .inr ⟨_, _, rfl⟩⟩, fun g e => by obtain rfl : 4 = g := Option.some.inj ((show Tryd.prog.globalNamed "strconv.ErrRange" = some 4 by kernel_rfl).symm.trans e); exact ⟨_, hevnge, .inr ⟨_, _, rfl⟩⟩, fun _ g _ e => by obtain rfl : 0 = g := Option.some.inj ((show Tryd.prog.globalNamed "internal/bytealg.MaxLen" = some 0 by kernel_rfl).symm.trans e); exact hMax⟩
 refine(law_call o3 (x:=(n0,())) hFac ⟨_,_,rfl,a0,⟨rfl,rfl⟩⟩ (r3 n0 (RT.wf a0))).mono fun e W' ⟨he,hb⟩=>?_;subst he;exact⟨_,rfl,_,_,_,[],_,[],hW',trodAll_mk1 (shut_bool Tryd.underlying4 _),trodAll_below laidOut hb (by kernel_rfl) hA,rfl,hb.frame _,fun h=>by cases h⟩
theorem cl_and{a b:Bool}(ha:a=true)(hb:b=true):(a&&b)=true:=by rw[ha,hb]; rfl
set_option maxHeartbeats 0 in
theorem closed:joinedFacts Tryd.pinned.checked.prog 3 Tryd.f3 Rows.fnTableTextSpec Rows.fnTableTextRow=true:=by
 unfold joinedFacts
 iterate 31 refine cl_and ?_ (by as_aux_lemma=>kernel_rfl)
 as_aux_lemma=>kernel_rfl
theorem holds:Rows.FnTableTextSaid :=
 OpenClaim.holds_of_wide 3 Tryd.f3 rfl rfl rfl rfl rfl rfl rfl ⟨rfl,rfl,rfl,rfl,rfl⟩ rfl rfl rfl rfl rfl (by kernel_rfl) Tryd.func3 closed
  (of_decide_eq_true (by kernel_rfl)) (by unfold Func.isWrapper; first | (rw[if_pos (by decide +kernel)]; kernel_rfl) | (rw[if_neg (by decide +kernel)]; exact⟨rfl,rfl⟩))
  (fun os started H enc _=>lifted os started H enc)
theorem card_holds:Rows.FnTableTextCardSaid :=
 Claim7.holds_tied_plain_at .later [] [.data, .data, .data, .data, .sentinel, .sentinel, .pinned] true (true, "3d651bd22388980d376e6967dd95a4f289ca811a9a3fffdeeba17afd4ee9451f") true holds (fun _ h => by cases h) (by kernel_rfl) (fun _ h => by cases h) fnTableText_row_tie rfl ⟨rfl, rfl⟩ (by kernel_rfl) rfl
  (fun f fn hf hfn=>by
    obtain rfl : f = 3 := Option.some.inj ((show Tryd.prog.funcNamed "loop.example/g00861/laws.FnTableText" = some 3 by kernel_rfl).symm.trans hf) |>.symm
    obtain rfl:fn=Tryd.f3:=(Option.some.inj (Tryd.func3.symm.trans hfn)).symm;exact⟨by kernel_rfl,fun j t ht=>by
     rw[Tryd.params3] at ht;have hm:t∈[22]:=by simpa using Array.mem_of_getElem? ht
     have hall:([22].all fun u=>!Tryd.prog.wantsStandIn u)=true:=by kernel_rfl
     exact(show Tryd.prog.wantsStandIn t=false by simpa using List.all_eq_true.1 hall t hm)⟩)
  (by kernel_rfl)
#print axioms card_holds
end fnTableText
end Go.Proofs.YtekfdfcnjlfgiaaDoor
end

/- The order of the nodes of a graph: the other loop; whether there is a loop. -/
import Derived.Test.YticmgmebjmblgaaGreatDoorWE
import Derived.Test.YticmgmebjmblgaaGreatDoorGn14
section
/- The order of the nodes of a graph: the other loop; whether there is a loop. -/
namespace Go.Proofs.YticmgmebjmblgaaGreatDoor
open Go Go.Proofs Go.Proofs.Sv Go.Proofs.Xv Go.Proofs.Xl Go.Proofs.Xd
section
variable {b:Y45}
theorem r121 (hb:blockOk b=true) {lv:List Bool} (hlv:lv.length=(linksV b).length):u121 (nodN b:Int) (linksV b) lv=some (ordRes (ordB b lv [] (nodN b))):=by
  have hM:=links_len hb
  have hN:=nod_le b hb
  have ht:∀ i,i < (linksV b).length→toN b i < nodN b:=fun i hi=>(frto b hb hi).2.2.2
  have hN0:((nodN b:Int)).toNat=nodN b:=rfl
  unfold u121
  rw [hN0]
  refine (gd_pos ⟨⟨by omega,rfl,by omega,by omega⟩,trivial⟩).trans ?_
  exact lp_run (n:=nodN b) (by omega) (fun _ (out:List Nat)=>(listV (nodN b) out,out.map (fun v:Nat=>(v:Int))))
    (fun _ out=>(nextV (linksV b).length (nodN b) (frN b) (toN b) (fun i=>lv.getD i false) out).map fun v=>out++[v]) (fun _ _=>some ([],false))
    (fun i out=>out.length=i∧∀ v∈out,v < nodN b)
    (J:=fun out=>some (out.map (fun v:Nat=>(v:Int)),true)) (F:=u121L1 (linksV b) lv (nodN b:Int))
    (fun g i out hi ho=>by
      obtain ⟨h1,h2⟩:=ho
      have ls:=fun w=>listV_get h2 w
      refine (if_pos (decide_eq_true (by rw [List.length_map]; omega))).trans ?_
      rw [hN0]
      refine (gd_pos ⟨⟨by omega,rfl,by omega,by omega⟩,trivial⟩).trans ?_
      refine (lp_fold (n:=(linksV b).length) (by omega) (fun k (w:List Bool)=>((k:Int),w)) (waitS (frN b) (toN b) (fun i=>lv.getD i false) out) (fun _ w=>w.length=nodN b) (J:=fun w=>u121J2 (listV (nodN b) out) (out.map fun v:Nat=>(v:Int)) (nodN b:Int) g w) (F:=u121L3 (linksV b) lv (listV (nodN b) out) (out.map fun v:Nat=>(v:Int)) (nodN b:Int) g) (fun g3 k w hk hw=>?_) (fun k w _ hw=>?_) (fun g3 w _=>if_neg (by simp)) (List.replicate (nodN b) false) List.length_replicate).trans ?_
      · have e3:((k:Int)).toNat=k:=rfl
        obtain ⟨f1,f2,f3,f4⟩:=frto b hb hk
        have e4:Int.toNat ((frN b k:Nat):Int)=frN b k:=rfl
        have e5:Int.toNat ((toN b k:Nat):Int)=toN b k:=rfl
        have l1:=(ls (frN b k)).1
        refine (if_pos (decide_eq_true (by omega))).trans ?_
        rw [e3,f1,f2,e4,e5,(ls (frN b k)).2]
        refine (gd_pos ⟨⟨by omega,by omega⟩,(fun _=>⟨by omega,by omega⟩),(fun _=>⟨by omega,by omega⟩),(fun _=>by omega),trivial⟩).trans ?_
        unfold waitS
        by_cases hc:(lv.getD k false&&!out.contains (frN b k))=true
        · rw [if_pos hc,if_pos hc]
          refine (gd_pos ⟨⟨by omega,by omega⟩,⟨by omega,by omega⟩,by omega,trivial⟩).trans ?_
          exact gd_pos ⟨⟨by omega,by omega⟩,trivial⟩
        · rw [if_neg hc,if_neg hc]
          exact gd_pos ⟨⟨by omega,by omega⟩,trivial⟩
      · unfold waitS
        split
        · rw [List.length_set]; exact hw
        · exact hw
      · show u121J2 _ _ _ g _=_
        rw [u121J2,← wait_next (lv:=fun i=>lv.getD i false) (fr:=frN b) ht h2]
        have wl:=(wait_get (fr:=frN b) (lv:=fun i=>lv.getD i false) ht out 0 _ (Nat.le_refl _)).1
        generalize foldN (waitS (frN b) (toN b) (fun i=>lv.getD i false) out) (linksV b).length (List.replicate (nodN b) false)=w at wl
        have l1:=(ls 0).1
        have key:=lp_any (n:=nodN b) (by omega) (fun v=>!((listV (nodN b) out).getD v false||w.getD v false)) (fun v=>u121J5 (listV (nodN b) out) (out.map fun v:Nat=>(v:Int)) (nodN b:Int) g (v:Int)) (e:=some ([],false)) (F:=u121L6 (listV (nodN b) out) (out.map fun v:Nat=>(v:Int)) (nodN b:Int) w g) 0 (Nat.zero_le _) (fun g6 v _ hv=>by
          have e3:((v:Int)).toNat=v:=rfl
          have ed:decide ((v:Int) < (nodN b:Int))=true:=decide_eq_true (by omega)
          refine (gd_pos ⟨(fun _=>⟨by omega,by omega⟩),(fun _=>by omega),(fun _=>⟨by omega,by omega⟩),(fun _=>by omega),trivial⟩).trans ?_
          rw [e3,ed,Bool.true_and]
          by_cases hc:((listV (nodN b) out).getD v false||w.getD v false)=true
          · rw [if_pos hc,if_neg (by rw [hc]; decide)]
            exact gd_pos ⟨⟨by omega,by omega⟩,trivial⟩
          · rw [if_neg hc,if_pos (by rw [Bool.eq_false_iff.2 hc]; rfl)]) (fun g6=>by
          have ed:decide ((nodN b:Int) < (nodN b:Int))=false:=decide_eq_false (by omega)
          refine (gd_pos ⟨(fun h=>by rw [ed] at h; cases h.1),(fun h=>by rw [ed] at h; cases h.1),(fun h=>by rw [ed] at h; cases h.2.1),(fun h=>by rw [ed] at h; cases h.2.1),trivial⟩).trans ?_
          rw [ed,Bool.false_and]
          refine (if_neg (by decide)).trans ?_
          rw [u121J5]
          exact if_pos (beq_self_eq_true _))
        rw [Nat.sub_zero,← List.range_eq_range'] at key
        refine Eq.trans key ?_
        cases hn:(List.range (nodN b)).find? fun v=>!((listV (nodN b) out).getD v false||w.getD v false) with
        | none=>rfl
        | some v =>
          have hv:=List.mem_range.1 (List.mem_of_find?_eq_some hn)
          have e3:((v:Int)).toNat=v:=rfl
          show u121J5 (listV (nodN b) out) (out.map fun v:Nat=>(v:Int)) (nodN b:Int) g (v:Int)=g (listV (nodN b) (out++[v]),(out++[v]).map fun v:Nat=>(v:Int))
          rw [u121J5,listV_app,List.map_append]
          refine (if_neg (by rw [beq_iff_eq]; omega)).trans ?_
          refine (gd_pos ⟨⟨by omega,by omega⟩,by omega,trivial⟩).trans ?_
          exact gd_pos ⟨⟨by simp only [List.length_singleton,List.length_map]; omega,by simp only [List.length_singleton,List.length_map]; omega⟩,trivial⟩)
    (fun i out out' hi ho he=>by
      obtain ⟨h1,h2⟩:=ho
      cases hn:nextV (linksV b).length (nodN b) (frN b) (toN b) (fun i=>lv.getD i false) out with
      | none=>rw [hn] at he; cases he
      | some v =>
        rw [hn] at he
        cases he
        obtain ⟨n1,n2⟩:=next_ok hn
        refine ⟨by simp [h1],fun w hw=>?_⟩
        rcases List.mem_append.1 hw with hw | hw
        · exact h2 w hw
        · cases List.mem_singleton.1 hw; exact n1)
    (fun g out ho=>by
      refine (if_neg ?_).trans rfl
      simp [ho.1])
    (fun i out=>some (ordRes (ordB b lv out (nodN b - i)))) (fun out _=>by
      rw [Nat.sub_self]; rfl)
    (fun i out hi ho=>by
      have e:nodN b - i=(nodN b - (i+1))+1:=by omega
      show some (ordRes (ordGo _ _ _ _ _ (nodN b - i) out))=_
      rw [e,ordGo_succ]
      cases nextV (linksV b).length (nodN b) (frN b) (toN b) (fun i=>lv.getD i false) out <;> rfl)
    0 (Nat.zero_le _) [] ⟨rfl,fun v hv=>nomatch hv⟩
/-! ### Whether there is a loop -/
def loopB (b:Y45) (br:List Int):Bool:=!(ordRes (ordB b (liveV (linksV b).length br) [] (nodN b))).2
theorem live_len (M:Nat) (br:List Int):(liveV M br).length=M:=appF_len _ _
theorem r69 (hb:blockOk b=true) (br:List Int):u69 (viewV b,liveV (linksV b).length br)=some (loopB b br):=by
  unfold u69
  rw [r126 hb (live_len _ _),vl_some,gd_pos ⟨rfl,trivial⟩,lt_eq]
  rfl
theorem r67 (hw:wf y45 b) (hb:blockOk b=true) (br:List Int) (hl:br.length≤1048576):u67 b br=some (loopB b br):=by
  have hM:=links_len hb
  unfold u67
  rw [r39 b hw hb,vl_some,gd_pos ⟨rfl,trivial⟩,lt_eq,r122 b hw hb,vl_some,r123 _ _ (by omega) hl,vl_some,r121 hb (live_len _ _),vl_some]
  refine (gd_pos ⟨rfl,rfl,rfl,trivial⟩).trans ?_
  rfl
end
def codeG (b:Y45) (br:List Int):Int:=if blockOk b=true then (if brokB (linksV b).length br=true then 0 else 2) else 1
theorem r66 (b:Y45) (hw:wf y45 b) (hm:cnt y45 b≤1048576) (br:List Int) (hl:br.length≤1048576):u66 b br=some (codeG b br):=by
  unfold u66 codeG
  rw [r36 b hw hm,vl_some,gd_pos ⟨rfl,trivial⟩]
  cases hb:blockOk b with
  | false=>rfl
  | true =>
    have hM:=links_len hb
    refine (if_neg (by simp)).trans ?_
    rw [r39 b hw hb,vl_some,r120 _ br (by omega) hl,gd_pos ⟨rfl,rfl,trivial⟩,lt_eq,r120 _ br (by omega) hl,vl_some]
    cases brokB (linksV b).length br <;> rfl
theorem r68 (b:Y45) (hw:wf y45 b) (hm:cnt y45 b≤1048576) (br:List Int) (hl:br.length≤1048576):u68 b br=some (if codeG b br=0 then .inr ((viewV b,liveV (linksV b).length br),0) else .inl (codeG b br)):=by
  unfold u68 codeG
  rw [r43 b hw hm,vl_some,gd_pos ⟨rfl,trivial⟩]
  cases hb:blockOk b with
  | false=>rfl
  | true =>
    refine (if_neg (by simp)).trans ?_
    rw [r44 b hw hb,vl_some,gd_pos ⟨rfl,trivial⟩,lt_eq,r124 hb br hl,vl_some,gd_pos ⟨rfl,trivial⟩]
    cases hr:brokB (linksV b).length br with
    | false=>rfl
    | true =>
      refine (if_neg (by simp)).trans ?_
      rw [r125 hb hr hl,vl_some,gd_pos ⟨rfl,trivial⟩,lt_eq]
      rfl
end Go.Proofs.YticmgmebjmblgaaGreatDoor
end
section
/- Whether a graph has a loop: the law as a plain function gives true for all data. -/
namespace Go.Proofs.YticmgmebjmblgaaGreatDoor
open Go Go.Proofs Go.Proofs.Sv Go.Proofs.Xv Go.Proofs.Xl Go.Proofs.Xd
def hlF (b:Y45) (br:List Int):Bool×Int:=if codeG b br=0 then (loopB b br,0) else (false,codeG b br)
theorem codeG_ok {b:Y45} {br:List Int} (h:codeG b br=0):blockOk b=true∧brokB (linksV b).length br=true:=by
  unfold codeG at h
  split at h
  · rename_i hb
    split at h
    · rename_i hr; exact ⟨hb,hr⟩
    · cases h
  · cases h
theorem r30 (b:Y45) (hw:wf y45 b) (hm:cnt y45 b≤1048576) (br:List Int) (hl:br.length≤1048576):u30 b br=some (hlF b br):=by
  unfold u30 hlF
  rw [r68 b hw hm br hl]
  by_cases h:codeG b br=0
  · obtain ⟨hb,hr⟩:=codeG_ok h
    rw [if_pos h,if_pos h]
    refine (if_neg (by simp [isL])).trans ((gd_pos ⟨rfl,trivial⟩).trans ?_)
    refine (if_neg (by simp [vR])).trans ?_
    show gd ((u69 (viewV b,liveV (linksV b).length br)).isSome=true∧True) (some (vl (u69 (viewV b,liveV (linksV b).length br)),(0:Int)))=_
    rw [r69 hb,vl_some,gd_pos ⟨rfl,trivial⟩]
  · rw [if_neg h,if_neg h]
    refine (if_pos rfl).trans ((gd_pos ⟨rfl,trivial⟩).trans ?_)
    exact if_pos (by show (codeG b br != 0)=true; simp [h])
theorem r29 (b:Y45) (hw:wf y45 b) (hm:cnt y45 b≤1048576) (br:List Int) (hl:br.length≤1048576):u29 b br=some (hlF b br):=by
  unfold u29 hlF
  rw [r66 b hw hm br hl,vl_some,gd_pos ⟨rfl,trivial⟩,lt_eq]
  by_cases h:codeG b br=0
  · obtain ⟨hb,hr⟩:=codeG_ok h
    rw [h]
    refine (if_neg (by decide)).trans ?_
    rw [r67 hw hb br hl,vl_some,gd_pos ⟨rfl,trivial⟩]
    rfl
  · rw [if_neg h]
    exact if_pos (by simp [h])
theorem cnt_len {br:List Int} (h:br.length≤1048576):cnt (.sl (.int .i64)) br≤1048576:=by
  have e:cnt (.sl (.int .i64)) br=br.length+0:=cnt_ints
  omega
theorem r8 (b:Y32) (br:List Int) (hw:wf y32 b) (hbr:wf (.sl (.int .i64)) br):u8 b br=some true:=by
  unfold u8
  by_cases hc0:(1048576:Int) < (br.length:Int)
  · exact if_pos (by simpa using hc0)
  · refine (if_neg (by simpa using hc0)).trans ?_
    have hl:br.length≤1048576:=by omega
    rw [z10 b 1048576 hw (by decide) (by decide),vl_some,gd_pos ⟨rfl,trivial⟩,lt_eq]
    by_cases hc1:szN (cnt y32 b) 1048576 < 0
    · exact if_pos (by simpa using hc1)
    · refine (if_neg (by simpa using hc1)).trans ?_
      have hm:cnt y32 b≤1048576:=by
        unfold szN at hc1
        split at hc1 <;> omega
      have hcl:=cnt_len hl
      rw [w12 b hm,vl_some,w23 br hcl,vl_some,r29 b hw hm br hl,vl_some,gd_pos ⟨rfl,rfl,rfl,trivial⟩,lt_eq]
      show gd _ (lt b fun v4=>gd _ (lt br fun v5=>gd ((u30 v4 v5).isSome=true∧True) (lt (vl (u30 v4 v5)) fun v6=>_)))=_
      rw [gd_pos ⟨rfl,trivial⟩,lt_eq,gd_pos ⟨rfl,trivial⟩,lt_eq,r30 b hw hm br hl,vl_some,gd_pos ⟨rfl,trivial⟩,lt_eq]
      refine (if_neg (by simp)).trans ?_
      rw [e14 b hm,gd_pos ⟨rfl,rfl,trivial⟩,lt_eq,e14 b hm]
      refine (if_neg (by decide)).trans ?_
      rw [e25 br hcl,gd_pos ⟨rfl,rfl,trivial⟩,lt_eq,e25 br hcl]
      rfl
end Go.Proofs.YticmgmebjmblgaaGreatDoor
end

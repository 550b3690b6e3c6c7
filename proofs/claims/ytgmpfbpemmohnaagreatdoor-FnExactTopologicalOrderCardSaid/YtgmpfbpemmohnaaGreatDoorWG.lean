/- The order of the nodes of a graph: the other loop; whether there is a loop. -/
import Derived.Test.YtgmpfbpemmohnaaGreatDoorWF
import Derived.Test.YtgmpfbpemmohnaaGreatDoorXK
import Derived.Test.YtgmpfbpemmohnaaGreatDoorXF
import Derived.Test.YtgmpfbpemmohnaaGreatDoorFn16c
import Derived.Test.YtgmpfbpemmohnaaGreatDoorWA
import Derived.Test.YtgmpfbpemmohnaaGreatDoorGn16
section
/- The order of the nodes of a graph: the other loop; whether there is a loop. -/
namespace Go.Proofs.YtgmpfbpemmohnaaGreatDoor
open Go Go.Proofs Go.Proofs.Sv Go.Proofs.Xv Go.Proofs.Xl Go.Proofs.Xd
section
variable {b:Y46}
theorem r59 (hb:blockOk b=true) {lv:List Bool} (hlv:lv.length=(linksV b).length):u59 (nodN b:Int) (linksV b) lv=some (ordRes (ordB b lv [] (nodN b))):=by
  have hM:=links_len hb
  have hN:=nod_le b hb
  have ht:∀ i,i < (linksV b).length→toN b i < nodN b:=fun i hi=>(frto b hb hi).2.2.2
  have hN0:((nodN b:Int)).toNat=nodN b:=rfl
  unfold u59
  rw [hN0]
  refine (gd_pos ⟨⟨by omega,rfl,by omega,by omega⟩,trivial⟩).trans ?_
  exact lp_run (n:=nodN b) (by omega) (fun _ (out:List Nat)=>(listV (nodN b) out,out.map (fun v:Nat=>(v:Int))))
    (fun _ out=>(nextV (linksV b).length (nodN b) (frN b) (toN b) (fun i=>lv.getD i false) out).map fun v=>out++[v]) (fun _ _=>some ([],false))
    (fun i out=>out.length=i∧∀ v∈out,v < nodN b)
    (J:=fun out=>some (out.map (fun v:Nat=>(v:Int)),true)) (F:=u59L1 (linksV b) lv (nodN b:Int))
    (fun g i out hi ho=>by
      obtain ⟨h1,h2⟩:=ho
      have ls:=fun w=>listV_get h2 w
      refine (if_pos (decide_eq_true (by rw [List.length_map]; omega))).trans ?_
      rw [hN0]
      refine (gd_pos ⟨⟨by omega,rfl,by omega,by omega⟩,trivial⟩).trans ?_
      refine (lp_fold (n:=(linksV b).length) (by omega) (fun k (w:List Bool)=>((k:Int),w)) (waitS (frN b) (toN b) (fun i=>lv.getD i false) out) (fun _ w=>w.length=nodN b) (J:=fun w=>u59J2 (listV (nodN b) out) (out.map fun v:Nat=>(v:Int)) (nodN b:Int) g w) (F:=u59L3 (linksV b) lv (listV (nodN b) out) (out.map fun v:Nat=>(v:Int)) (nodN b:Int) g) (fun g3 k w hk hw=>?_) (fun k w _ hw=>?_) (fun g3 w _=>if_neg (by simp)) (List.replicate (nodN b) false) List.length_replicate).trans ?_
      · have e3:((k:Int)).toNat=k:=rfl
        obtain ⟨f1,f2,f3,f4⟩:=frto b hb hk
        have e4:Int.toNat ((frN b k:Nat):Int)=frN b k:=rfl
        have e5:Int.toNat ((toN b k:Nat):Int)=toN b k:=rfl
        have l1:=(ls (frN b k)).1
        refine (if_pos (decide_eq_true (by omega))).trans ?_
        rw [e3,f1,f2,e4,e5,(ls (frN b k)).2]
        refine (gd_pos ⟨⟨by omega,by omega⟩,(fun _=>⟨by omega,by omega⟩),(fun _=>⟨by omega,by omega⟩),(fun _=>by omega),trivial⟩).trans ?_
        unfold waitS
        by_cases hc:(lv.getD k false&&!out.contains (frN b k))=true
        · rw [if_pos hc,if_pos hc]
          refine (gd_pos ⟨⟨by omega,by omega⟩,⟨by omega,by omega⟩,by omega,trivial⟩).trans ?_
          exact gd_pos ⟨⟨by omega,by omega⟩,trivial⟩
        · rw [if_neg hc,if_neg hc]
          exact gd_pos ⟨⟨by omega,by omega⟩,trivial⟩
      · unfold waitS
        split
        · rw [List.length_set]; exact hw
        · exact hw
      · show u59J2 _ _ _ g _=_
        rw [u59J2,← wait_next (lv:=fun i=>lv.getD i false) (fr:=frN b) ht h2]
        have wl:=(wait_get (fr:=frN b) (lv:=fun i=>lv.getD i false) ht out 0 _ (Nat.le_refl _)).1
        generalize foldN (waitS (frN b) (toN b) (fun i=>lv.getD i false) out) (linksV b).length (List.replicate (nodN b) false)=w at wl
        have l1:=(ls 0).1
        have key:=lp_any (n:=nodN b) (by omega) (fun v=>!((listV (nodN b) out).getD v false||w.getD v false)) (fun v=>u59J5 (listV (nodN b) out) (out.map fun v:Nat=>(v:Int)) (nodN b:Int) g (v:Int)) (e:=some ([],false)) (F:=u59L6 (listV (nodN b) out) (out.map fun v:Nat=>(v:Int)) (nodN b:Int) w g) 0 (Nat.zero_le _) (fun g6 v _ hv=>by
          have e3:((v:Int)).toNat=v:=rfl
          have ed:decide ((v:Int) < (nodN b:Int))=true:=decide_eq_true (by omega)
          refine (gd_pos ⟨(fun _=>⟨by omega,by omega⟩),(fun _=>by omega),(fun _=>⟨by omega,by omega⟩),(fun _=>by omega),trivial⟩).trans ?_
          rw [e3,ed,Bool.true_and]
          by_cases hc:((listV (nodN b) out).getD v false||w.getD v false)=true
          · rw [if_pos hc,if_neg (by rw [hc]; decide)]
            exact gd_pos ⟨⟨by omega,by omega⟩,trivial⟩
          · rw [if_neg hc,if_pos (by rw [Bool.eq_false_iff.2 hc]; rfl)]) (fun g6=>by
          have ed:decide ((nodN b:Int) < (nodN b:Int))=false:=decide_eq_false (by omega)
          refine (gd_pos ⟨(fun h=>by rw [ed] at h; cases h.1),(fun h=>by rw [ed] at h; cases h.1),(fun h=>by rw [ed] at h; cases h.2.1),(fun h=>by rw [ed] at h; cases h.2.1),trivial⟩).trans ?_
          rw [ed,Bool.false_and]
          refine (if_neg (by decide)).trans ?_
          rw [u59J5]
          exact if_pos (beq_self_eq_true _))
        rw [Nat.sub_zero,← List.range_eq_range'] at key
        refine Eq.trans key ?_
        cases hn:(List.range (nodN b)).find? fun v=>!((listV (nodN b) out).getD v false||w.getD v false) with
        | none=>rfl
        | some v =>
          have hv:=List.mem_range.1 (List.mem_of_find?_eq_some hn)
          have e3:((v:Int)).toNat=v:=rfl
          show u59J5 (listV (nodN b) out) (out.map fun v:Nat=>(v:Int)) (nodN b:Int) g (v:Int)=g (listV (nodN b) (out++[v]),(out++[v]).map fun v:Nat=>(v:Int))
          rw [u59J5,listV_app,List.map_append]
          refine (if_neg (by rw [beq_iff_eq]; omega)).trans ?_
          refine (gd_pos ⟨⟨by omega,by omega⟩,by omega,trivial⟩).trans ?_
          exact gd_pos ⟨⟨by simp only [List.length_singleton,List.length_map]; omega,by simp only [List.length_singleton,List.length_map]; omega⟩,trivial⟩)
    (fun i out out' hi ho he=>by
      obtain ⟨h1,h2⟩:=ho
      cases hn:nextV (linksV b).length (nodN b) (frN b) (toN b) (fun i=>lv.getD i false) out with
      | none=>rw [hn] at he; cases he
      | some v =>
        rw [hn] at he
        cases he
        obtain ⟨n1,n2⟩:=next_ok hn
        refine ⟨by simp [h1],fun w hw=>?_⟩
        rcases List.mem_append.1 hw with hw | hw
        · exact h2 w hw
        · cases List.mem_singleton.1 hw; exact n1)
    (fun g out ho=>by
      refine (if_neg ?_).trans rfl
      simp [ho.1])
    (fun i out=>some (ordRes (ordB b lv out (nodN b - i)))) (fun out _=>by
      rw [Nat.sub_self]; rfl)
    (fun i out hi ho=>by
      have e:nodN b - i=(nodN b - (i+1))+1:=by omega
      show some (ordRes (ordGo _ _ _ _ _ (nodN b - i) out))=_
      rw [e,ordGo_succ]
      cases nextV (linksV b).length (nodN b) (frN b) (toN b) (fun i=>lv.getD i false) out <;> rfl)
    0 (Nat.zero_le _) [] ⟨rfl,fun v hv=>nomatch hv⟩
/-! ### Whether there is a loop -/
theorem live_len (M:Nat) (br:List Int):(liveV M br).length=M:=appF_len _ _
end
def codeG (b:Y46) (br:List Int):Int:=if blockOk b=true then (if brokB (linksV b).length br=true then 0 else 2) else 1
theorem r58 (b:Y46) (hw:wf y46 b) (hm:cnt y46 b≤1048576) (br:List Int) (hl:br.length≤1048576):u58 b br=some (codeG b br):=by
  unfold u58 codeG
  rw [r48 b hw hm,vl_some,gd_pos ⟨rfl,trivial⟩]
  cases hb:blockOk b with
  | false=>rfl
  | true =>
    have hM:=links_len hb
    refine (if_neg (by simp)).trans ?_
    rw [r49 b hw hb,vl_some,r105 _ br (by omega) hl,gd_pos ⟨rfl,rfl,trivial⟩,lt_eq,r105 _ br (by omega) hl,vl_some]
    cases brokB (linksV b).length br <;> rfl
theorem r62 (b:Y46) (hw:wf y46 b) (hm:cnt y46 b≤1048576) (br:List Int) (hl:br.length≤1048576):u62 b br=some (if codeG b br=0 then .inr ((viewV b,liveV (linksV b).length br),0) else .inl (codeG b br)):=by
  unfold u62 codeG
  rw [r50 b hw hm,vl_some,gd_pos ⟨rfl,trivial⟩]
  cases hb:blockOk b with
  | false=>rfl
  | true =>
    refine (if_neg (by simp)).trans ?_
    rw [r51 b hw hb,vl_some,gd_pos ⟨rfl,trivial⟩,lt_eq,r107 hb br hl,vl_some,gd_pos ⟨rfl,trivial⟩]
    cases hr:brokB (linksV b).length br with
    | false=>rfl
    | true =>
      refine (if_neg (by simp)).trans ?_
      rw [r108 hb hr hl,vl_some,gd_pos ⟨rfl,trivial⟩,lt_eq]
      rfl
end Go.Proofs.YtgmpfbpemmohnaaGreatDoor
end
section
/- The order of the nodes: what both say. -/
namespace Go.Proofs.YtgmpfbpemmohnaaGreatDoor
open Go Go.Proofs Go.Proofs.Sv Go.Proofs.Xv Go.Proofs.Xl Go.Proofs.Xd
theorem codeG_ok {b:Y46} {br:List Int} (h:codeG b br=0):blockOk b=true∧brokB (linksV b).length br=true:=by
  unfold codeG at h
  split at h
  · rename_i hb
    split at h
    · rename_i hr; exact ⟨hb,hr⟩
    · cases h
  · cases h
def topF (b:Y46) (br:List Int):List Int×Int:=if codeG b br=0 then (if (ordRes (ordB b (liveV (linksV b).length br) [] (nodN b))).2=true then ((ordRes (ordB b (liveV (linksV b).length br) [] (nodN b))).1,0) else ([],7)) else ([],codeG b br)
theorem r28 (b:Y46) (hw:wf y46 b) (hm:cnt y46 b≤1048576) (br:List Int) (hl:br.length≤1048576):u28 b br=some (topF b br):=by
  unfold u28 topF
  rw [r62 b hw hm br hl]
  by_cases h:codeG b br=0
  · obtain ⟨hb,hr⟩:=codeG_ok h
    rw [if_pos h,if_pos h]
    refine (if_neg (by simp [isL])).trans ((gd_pos ⟨rfl,trivial⟩).trans ?_)
    refine (if_neg (by simp [vR])).trans ?_
    show gd ((u63 (viewV b,liveV (linksV b).length br)).isSome=true∧True) (lt (vl (u63 (viewV b,liveV (linksV b).length br))) fun v0=>_)=_
    rw [r63 hb (live_len _ _),vl_some,gd_pos ⟨rfl,trivial⟩,lt_eq]
    cases h2:(ordRes (ordB b (liveV (linksV b).length br) [] (nodN b))).2
    · refine (if_pos (by simp)).trans ?_
      rfl
    · refine (if_neg (by simp)).trans ?_
      rfl
  · rw [if_neg h,if_neg h]
    refine (if_pos rfl).trans ((gd_pos ⟨rfl,trivial⟩).trans ?_)
    exact if_pos (by show (codeG b br != 0)=true; simp [h])
theorem r27 (b:Y46) (hw:wf y46 b) (hm:cnt y46 b≤1048576) (br:List Int) (hl:br.length≤1048576):u27 b br=some (topF b br):=by
  unfold u27 topF
  rw [r58 b hw hm br hl,vl_some,gd_pos ⟨rfl,trivial⟩,lt_eq]
  by_cases h:codeG b br=0
  · obtain ⟨hb,hr⟩:=codeG_ok h
    have hM:=links_len hb
    rw [h]
    refine (if_neg (by decide)).trans ?_
    rw [r49 b hw hb,vl_some,gd_pos ⟨rfl,trivial⟩,lt_eq,r60 b hw hb,vl_some,r61 _ _ (by omega) hl,vl_some,r59 hb (live_len _ _),vl_some]
    refine (gd_pos ⟨rfl,rfl,rfl,trivial⟩).trans ?_
    rw [lt_eq,if_pos rfl]
    cases h2:(ordRes (ordB b (liveV (linksV b).length br) [] (nodN b))).2
    · refine (if_pos (by simp [h2])).trans ?_
      rfl
    · refine (if_neg (by simp [h2])).trans ?_
      rfl
  · rw [if_neg h]
    exact if_pos (by simp [h])
end Go.Proofs.YtgmpfbpemmohnaaGreatDoor
end
section
/- Plain facts on marks: how many there are, what the held ones say. -/
namespace Go.Proofs.Xd
open Go Go.Proofs.Xl Go.Proofs.Xv
def wd:Ty→Nat
  | .pr a b=>wd a+wd b
  | .sl e=>wd e
  | .pt _=>0
  | _=>1
theorem cntM_le:∀ (t:Ty) (x:den t),cntM t x≤wd t*(1+cnt t x)
  | .int _,_=>by simp [cntM,wd]
  | .bool,_=>by simp [cntM,wd]
  | .str,_=>by simp [cntM,wd]
  | .pt _,_=>by simp [cntM]
  | .sl e,xs=>by
    have key:∀ l:List (den e),(l.map (cntM e)).sum≤wd e*(l.length+(l.map (cnt e)).sum):=by
      intro l
      induction l with
      | nil=>exact Nat.zero_le _
      | cons a r ih =>
        have h1:=cntM_le e a
        rw [List.map_cons,List.sum_cons,List.map_cons,List.sum_cons,List.length_cons]
        have e1:wd e*(r.length+1+(cnt e a+(r.map (cnt e)).sum))=wd e*(1+cnt e a)+wd e*(r.length+(r.map (cnt e)).sum):=by
          rw [← Nat.mul_add]; congr 1; omega
        omega
    refine Nat.le_trans (key xs) ?_
    show _≤wd e*(1+(xs.length+(xs.map (cnt e)).sum))
    exact Nat.mul_le_mul_left _ (by omega)
  | .pr a b,x=>by
    have h1:=cntM_le a x.1
    have h2:=cntM_le b x.2
    show cntM a x.1+cntM b x.2≤(wd a+wd b)*(1+(cnt a x.1+cnt b x.2))
    have h3:wd a*(1+cnt a x.1)≤wd a*(1+(cnt a x.1+cnt b x.2)):=Nat.mul_le_mul_left _ (by omega)
    have h4:wd b*(1+cnt b x.2)≤wd b*(1+(cnt a x.1+cnt b x.2)):=Nat.mul_le_mul_left _ (by omega)
    rw [Nat.add_mul]
    omega
theorem cntM_bd {t:Ty} {x:den t} {k:Nat} (h:cnt t x≤1048576) (hw:wd t≤k):(cntM t x:Int)≤(k*1048577:Nat):=by
  have h1:=cntM_le t x
  have h2:wd t*(1+cnt t x)≤k*1048577:=Nat.mul_le_mul hw (by omega)
  omega
theorem mkI_get:∀ (m:Nat) (k:Int) (i:Nat),i < m→(mkI k m).getD i 0=k+(i:Int)
  | m+1,k,0,_=>by simp [mkI]
  | m+1,k,i+1,h=>by
    rw [mkI,List.getD_cons_succ,mkI_get m (k+1) i (by omega)]
    omega
theorem fold_one:∀ n:Nat,foldN (fun _ (v:Int)=>v+1) n 1=1+((1*n:Nat):Int)
  | 0=>rfl
  | n+1=>by rw [foldN,fold_one n]; omega
end Go.Proofs.Xd
end
section
/- Calls of the copying function of a block. -/
namespace Go.Proofs.YtgmpfbpemmohnaaGreatDoor
open Go Go.Proofs Go.Proofs.Sv Go.Proofs.Xv Go.Proofs.Xl Go.RowKit
theorem cTo10 {p:Prop} {n m:Nat} {w:World} {cs:List Value} {x:Y32} {r:Y46} (f:Fa p n m w y32 cs x) (h:u10 x=some r):Calls Tryz.prog 10 #[.agg cs.toArray] w fun en w'=>∃ a b c d e,en=.returned (.agg #[a,b,c,d,e])∧Ext w w'∧Fa True w.heap.size w'.heap.size w' y46 [a,b,c,d,e] r:=by
  refine Calls.mono (ok_call o10 (fun _=>rfl) rfl (x:=(x,())) h ⟨_,_,rfl,f.arg,rfl,rfl⟩) ?_
  rintro _ w' ⟨v,rfl,hE,us,rfl,hr⟩
  obtain ⟨a,_,rfl,h0,hr⟩:=rrs_cons hr
  obtain ⟨b,_,rfl,h1,hr⟩:=rrs_cons hr
  obtain ⟨c,_,rfl,h2,hr⟩:=rrs_cons hr
  obtain ⟨d,_,rfl,h3,hr⟩:=rrs_cons hr
  obtain ⟨e,_,rfl,h4,hr⟩:=rrs_cons hr
  obtain ⟨rfl,_⟩:=hr
  exact ⟨a,b,c,d,e,rfl,hE,[a],[b,c,d,e],rfl,RT.up h0.1 (fun _ h=>h rfl),[b,c,d],[e],rfl,⟨[b],[c,d],rfl,RT.up h1.1 (fun _ h=>h rfl),[c],[d],rfl,RT.up h2.1 (fun _ h=>h rfl),RT.up h3.1 (fun _ h=>h rfl)⟩,RT.up h4.1 (fun _ h=>h rfl)⟩
end Go.Proofs.YtgmpfbpemmohnaaGreatDoor
end
section
/- The walk of a law with marks: printed by genlaw.py. -/
namespace Go.Proofs.YtgmpfbpemmohnaaGreatDoor
open Go Go.Proofs Go.Proofs.Sv Go.Proofs.Xv Go.Proofs.Xl Go.RowKit
attribute [local irreducible] VS VO VQ VH FinS seqQ blkQ loopQ RunsOp RunsU
attribute [local simp] spl reps Value.cells
structure H7 (x0:Y32) (x1:List Int) (l:List Int) (c:Int):Prop where
  ht1:u10 x0=some x0
  ht2:u23 x1=some x1
  hs3:u27 x0 x1=some (l,c)
  hs4:u28 x0 x1=some (l,c)
  he5:u12 l l=some true
  he6:u13 x0 x0=some true
  he7:u12 x1 x1=some true
  hk8:(1+(cntM y46 x0:Int))≤9223372036854775807
  hk9:((1+(cntM y46 x0:Int))+(cntM (.sl (.int .i64)) x1:Int))≤9223372036854775807
  hk10:(1+((1*l.length:Nat):Int))≤9223372036854775807
  hh11:u16 (mkI 1 l.length) (1:Int)=some (1+((1*l.length:Nat):Int))
def G7 (x0:Y32) (x1:List Int):Prop:=∃ L0:Int,u8 x0 (1048576:Int)=some L0∧(0≤L0→x1.length≤1048576→∃ (l:List Int) (c:Int),H7 x0 x1 l c)
set_option maxHeartbeats 4000000 in
theorem law7 {K:Nat→Prop} {w0:World} {cs0:List Value} {x0:Y32} (a0:RT K w0 y32 cs0 x0) {v1:Value} {x1:List Int} (a1:RT K w0 (.sl (.int .i64)) [v1] x1) (hg:G7 x0 x1):Calls Tryz.prog 7 #[.agg cs0.toArray,v1] w0 fun en w'=>en=.returned (.bool true)∧Ext w0 w':=by
  obtain ⟨L0,hz0,hG⟩:=hg
  obtain ⟨c0a,c0b,c0c,c0d,c0e,rfl⟩:=list5 (RT.len a0)
  have f1:=Fa.of a0
  obtain ⟨p1,q1,rfl,_⟩:=RT.row a1
  have f2:=Fa.of a1
  have hb:Ext w0 w0:=Ext.refl w0
  refine calls_vs Tryz.func7 Tryz.ntmps7 rfl rfl ?_
  refine ra ?_
  refine vo_box rfl rfl rfl ?_
  intro b2 w1 hN B2
  have i1:=hN.ext
  have e2:=hN.eq
  have s1:=hN.size
  have B2:Blk w1 b2 [c0a,c0b,c0c,c0d,c0e] 32:=B2
  refine pu ?_
  refine vo_nil (fin_seq (vs_seq (ra ?_)))
  refine pu ?_
  refine vo_val _ (runs_lenL rfl) rfl ?_
  refine pu ?_
  refine vo_nil (fin_seq (vs_cond rfl (fun hc=>?_) (fun hc=>?_)))
  · refine ra ?_
    refine pu ?_
    refine vo_nil (fin_seq (vs_ret ?_))
    (repeat refine fin_seq_ret ?_)
    refine fin_ret1 Tryz.results7 rfl ?_
    have hb:=hb.trans i1
    exact ⟨rfl,hb⟩
  have hl0:x1.length≤1048576:=by simp at hc; omega
  refine vs_skip (fin_seq (ra ?_))
  refine pu ?_
  refine rb ?_
  refine vo_loadA rfl B2 rfl rfl ?_
  refine pu ?_
  have f1:=f1.ext i1
  refine ci o8 (x:=(x0,(1048576:Int),())) hz0 ⟨_,_,rfl,f1.arg,⟨_,_,rfl,⟨rfl,by show lo .i64≤(1048576:Int); decide,by show (1048576:Int)≤hi .i64; decide⟩,⟨rfl,rfl⟩⟩⟩ fun w2 i2=>?_
  have s2:=i2.size
  refine pu ?_
  refine vo_nil (fin_seq (vs_seq (ra ?_)))
  refine pu ?_
  refine pu ?_
  refine vo_nil (fin_seq (vs_cond rfl (fun hc=>?_) (fun hc=>?_)))
  · refine ra ?_
    refine pu ?_
    refine vo_nil (fin_seq (vs_ret ?_))
    (repeat refine fin_seq_ret ?_)
    refine fin_ret1 Tryz.results7 rfl ?_
    have hb:=(hb.trans i1).trans i2
    exact ⟨rfl,hb⟩
  obtain ⟨l,c,⟨ht1,ht2,hs3,hs4,he5,he6,he7,hk8,hk9,hk10,hh11⟩⟩:=hG (by simpa using hc) hl0
  refine vs_skip (fin_seq (ra ?_))
  have B2:=B2.ext i2
  refine vo_loadA rfl B2 rfl rfl ?_
  have f1:=f1.ext i2
  refine vo_call rfl rfl (Calls.mono (cTo10 f1 ht1) ?_)
  rintro _ w3 ⟨d3a,d3b,d3c,d3d,d3e,rfl,i3,g3⟩
  refine ⟨_,rfl,?_⟩
  have s3:=i3.size
  have f3:=g3
  refine pu ?_
  have f2:=f2.ext (i1.trans (i2.trans i3))
  refine vo_call rfl rfl (Calls.mono (ok_call o23 (fun _=>rfl) rfl (x:=(x1,())) ht2 ⟨_,_,rfl,f2.arg,⟨rfl,rfl⟩⟩) ?_)
  rintro _ w4 ⟨v4,rfl,i4,hr⟩
  refine ⟨_,rfl,?_⟩
  have s4:=i4.size
  have hq:=rr_dat (t:=(.sl (.int .i64))) (x:=x1) (fr:=true) hr
  have f4:Fa True w3.heap.size w4.heap.size w4 (.sl (.int .i64)) [v4] x1:=RT.up hq (fun _ h=>h rfl)
  have f3:=f3.ext i4
  refine vo_call rfl rfl (Calls.mono (ok_call o27 (fun _=>rfl) rfl (x:=(x0,x1,())) hs3 ⟨_,_,rfl,f3.arg,⟨_,_,rfl,f4.arg,⟨rfl,rfl⟩⟩⟩) ?_)
  rintro _ w5 ⟨v,rfl,i5,hr⟩
  refine ⟨_,rfl,?_⟩
  have s5:=i5.size
  obtain ⟨u5,v5,rfl,hr1,hr2⟩:=rr_two hr
  obtain rfl:=rr_int hr2
  have hq:=rr_dat (t:=(.sl (.int .i64))) (x:=l) (fr:=true) hr1
  have f5:Fa True w4.heap.size w5.heap.size w5 (.sl (.int .i64)) [u5] l:=RT.up hq (fun _ h=>h rfl)
  refine pu ?_
  refine pu ?_
  refine pu ?_
  refine pu ?_
  refine pu ?_
  refine rb ?_
  have B2:=B2.ext (i3.trans (i4.trans i5))
  refine vo_loadA rfl B2 rfl rfl ?_
  have f1:=f1.ext (i3.trans (i4.trans i5))
  refine vo_call rfl rfl (Calls.mono (cTo10 f1 ht1) ?_)
  rintro _ w6 ⟨d6a,d6b,d6c,d6d,d6e,rfl,i6,g6⟩
  refine ⟨_,rfl,?_⟩
  have s6:=i6.size
  have f6:=g6
  refine vo_alloc rfl rfl ?_
  intro b8 w7 hN B8
  have i7:=hN.ext
  have e8:=hN.eq
  have s7:=hN.size
  have f6:=f6.ext i7
  refine vo_store (vs:=[d6a,d6b,d6c,d6d,d6e]) rfl rfl B8 rfl rfl (ones_of (RT.one f6)) rfl ?_
  intro w8 hR hN
  have i8:=wr_wo hR
  have s8:=hR.size
  have B8:Blk w8 b8 [d6a,d6b,d6c,d6d,d6e] 46:=hN
  refine rb ?_
  refine pu ?_
  have f2:=(f2.ext (i4.trans (i5.trans (i6.trans i7)))).wo i8 fun i h1 h2 h3=>by omega
  refine vo_call rfl rfl (Calls.mono (ok_call o23 (fun _=>rfl) rfl (x:=(x1,())) ht2 ⟨_,_,rfl,f2.arg,⟨rfl,rfl⟩⟩) ?_)
  rintro _ w9 ⟨v7,rfl,i9,hr⟩
  refine ⟨_,rfl,?_⟩
  have s9:=i9.size
  have hq:=rr_dat (t:=(.sl (.int .i64))) (x:=x1) (fr:=true) hr
  have f7:Fa True w8.heap.size w9.heap.size w9 (.sl (.int .i64)) [v7] x1:=RT.up hq (fun _ h=>h rfl)
  refine pu ?_
  refine rb ?_
  have B8:=B8.ext i9
  refine vo_loadA rfl B8 rfl rfl ?_
  refine pu ?_
  have f6:=(f6.wo i8 fun i h1 h2 h3=>by omega).ext i9
  refine vo_call rfl rfl (Calls.mono (ok_call o28 (fun _=>rfl) rfl (x:=(x0,x1,())) hs4 ⟨_,_,rfl,f6.arg,⟨_,_,rfl,f7.arg,⟨rfl,rfl⟩⟩⟩) ?_)
  rintro _ w10 ⟨v,rfl,i10,hr⟩
  refine ⟨_,rfl,?_⟩
  have s10:=i10.size
  obtain ⟨u8,v8,rfl,hr1,hr2⟩:=rr_two hr
  obtain rfl:=rr_int hr2
  have hq:=rr_dat (t:=(.sl (.int .i64))) (x:=l) (fr:=true) hr1
  have f8:Fa True w9.heap.size w10.heap.size w10 (.sl (.int .i64)) [u8] l:=RT.up hq (fun _ h=>h rfl)
  refine pu ?_
  refine pu ?_
  refine pu ?_
  refine pu ?_
  refine pu ?_
  refine vo_nil (fin_seq (vs_seq (ra ?_)))
  refine pu ?_
  refine pu ?_
  have f5:=((f5.ext (i6.trans i7)).wo i8 fun i h1 h2 h3=>by omega).ext (i9.trans i10)
  refine cb o12 (x:=(l,l,())) he5 ⟨_,_,rfl,f8.arg,⟨_,_,rfl,f5.arg,⟨rfl,rfl⟩⟩⟩ fun w11 i11=>?_
  have s11:=i11.size
  refine pu ?_
  refine pu ?_
  refine vo_guard_take rfl rfl ?_
  refine pu ?_
  refine vo_guard_take rfl rfl ?_
  refine pu ?_
  refine vo_guard_take rfl rfl ?_
  refine pu ?_
  refine vo_isF (bne_self_eq_false _) ?_
  refine pu ?_
  refine vo_nil (fin_seq (vs_cond_false rfl ?_))
  refine vs_skip (fin_seq (vs_seq (vs_seq ?_)))
  refine vs_held ?_
  intro w12 i12
  have s12:=i12.size
  have hS:=Ext.refl w12
  have B8:=B8.ext (i10.trans (i11.trans i12))
  have B2:=(blk_wo (B2.ext (i6.trans i7)) i8 fun h=>by omega).ext (i9.trans (i10.trans (i11.trans i12)))
  refine vh_take 0 rfl (fun _ hX=>runs_loadA rfl (lenIs_eq rfl) (B8.ext hX).at) rfl (by kernel_rfl) (by kernel_rfl) (by kernel_rfl) ?_
  refine vh_take 1 rfl (fun _ hX=>runs_loadA rfl (lenIs_eq rfl) (B2.ext hX).at) rfl (by kernel_rfl) (by kernel_rfl) (by kernel_rfl) ?_
  have f1:=((f1.ext (i6.trans i7)).wo i8 fun i h1 h2 h3=>by omega).ext (i9.trans (i10.trans (i11.trans i12)))
  refine vh_one 2 (by kernel_rfl) (vho_call rfl rfl rfl (Calls.mono (cTo10 f1 ht1) ?_)) hS
  rintro _ w13 ⟨d9a,d9b,d9c,d9d,d9e,rfl,i13,g9⟩
  refine ⟨_,rfl,?_⟩
  replace hS:=hS.trans i13
  have s13:=i13.size
  have f9:=g9
  have f6:=f6.ext (i10.trans (i11.trans (i12.trans i13)))
  refine vh_one 3 (by kernel_rfl) (vho_call rfl rfl rfl (Calls.mono (ok_call o13 (fun _=>rfl) rfl (x:=(x0,x0,())) he6 ⟨_,_,rfl,f6.arg,⟨_,_,rfl,f9.arg,⟨rfl,rfl⟩⟩⟩) ?_)) hS
  rintro _ w14 ⟨v,rfl,i14,hr⟩
  obtain rfl:=rr_bool hr
  refine ⟨_,rfl,?_⟩
  replace hS:=hS.trans i14
  have s14:=i14.size
  refine vh_only 4 rfl (by kernel_rfl) (runs_pure rfl) rfl ?_
  refine vh_done (by kernel_rfl) ?_ hS
  refine fin_seq (vs_cond_false rfl ?_)
  refine vs_skip (fin_seq (vs_seq (ra ?_)))
  refine pu ?_
  refine pu ?_
  have f2:=f2.ext (i9.trans (i10.trans (i11.trans (i12.trans (i13.trans i14)))))
  refine vo_call rfl rfl (Calls.mono (ok_call o23 (fun _=>rfl) rfl (x:=(x1,())) ht2 ⟨_,_,rfl,f2.arg,⟨rfl,rfl⟩⟩) ?_)
  rintro _ w15 ⟨v10,rfl,i15,hr⟩
  refine ⟨_,rfl,?_⟩
  have s15:=i15.size
  have hq:=rr_dat (t:=(.sl (.int .i64))) (x:=x1) (fr:=true) hr
  have f10:Fa True w14.heap.size w15.heap.size w15 (.sl (.int .i64)) [v10] x1:=RT.up hq (fun _ h=>h rfl)
  have f7:=f7.ext (i10.trans (i11.trans (i12.trans (i13.trans (i14.trans i15)))))
  refine cb o12 (x:=(x1,x1,())) he7 ⟨_,_,rfl,f7.arg,⟨_,_,rfl,f10.arg,⟨rfl,rfl⟩⟩⟩ fun w16 i16=>?_
  have s16:=i16.size
  refine pu ?_
  refine vo_nil (fin_seq (vs_cond_false rfl ?_))
  refine vs_skip (fin_seq (ra ?_))
  refine pu ?_
  refine rb ?_
  have B8:=B8.ext (i13.trans (i14.trans (i15.trans i16)))
  refine vo_loadA rfl B8 rfl rfl ?_
  refine pu ?_
  have f6:=f6.ext (i14.trans (i15.trans i16))
  refine vo_call rfl rfl (Calls.mono (m14 (fun i=>w5.heap.size≤i∧i < w6.heap.size) _ _ _ _ (fun i hi=>by omega) (f6.sh rfl) (by omega) (by omega)) ?_)
  rintro _ w17 ⟨rfl,hM⟩
  refine ⟨_,rfl,?_⟩
  have i17:=hM.wo
  have s17:=i17.size
  refine pu ?_
  refine rb ?_
  refine pu ?_
  refine pu ?_
  have f7:=(f7.ext i16).wo i17 fun i h1 h2 h3=>by omega
  refine vo_call rfl rfl (Calls.mono (m15 (fun i=>w8.heap.size≤i∧i < w9.heap.size) _ _ _ _ (fun i hi=>by omega) (f7.sh rfl) (by omega) (by omega)) ?_)
  rintro _ w18 ⟨rfl,hM⟩
  refine ⟨_,rfl,?_⟩
  have i18:=hM.wo
  have s18:=i18.size
  refine pu ?_
  refine vo_nil (fin_seq (vs_seq (ra ?_)))
  refine pu ?_
  refine pu ?_
  refine vo_isF (decide_eq_false (by omega)) ?_
  refine pu ?_
  refine vo_guard_take rfl rfl ?_
  refine pu ?_
  refine vo_guard_take rfl rfl ?_
  refine pu ?_
  refine vo_guard_take rfl rfl ?_
  have f8:=((f8.ext (i11.trans (i12.trans (i13.trans (i14.trans (i15.trans i16)))))).wo i17 fun i h1 h2 h3=>by omega).wo i18 fun i h1 h2 h3=>by omega
  have f5:=((f5.ext (i11.trans (i12.trans (i13.trans (i14.trans (i15.trans i16)))))).wo i17 fun i h1 h2 h3=>by omega).wo i18 fun i h1 h2 h3=>by omega
  refine cb o12 (x:=(l,l,())) he5 ⟨_,_,rfl,f8.arg,⟨_,_,rfl,f5.arg,⟨rfl,rfl⟩⟩⟩ fun w19 i19=>?_
  have s19:=i19.size
  refine vo_guard_take rfl rfl ?_
  refine pu ?_
  refine pu ?_
  refine pu ?_
  refine vo_guard_take rfl rfl ?_
  refine pu ?_
  refine vo_guard_take rfl rfl ?_
  refine pu ?_
  refine vo_guard_take rfl rfl ?_
  refine pu ?_
  refine vo_isF (bne_self_eq_false _) ?_
  refine pu ?_
  refine vo_nil (fin_seq (vs_cond_false rfl ?_))
  refine vs_skip (fin_seq (ra ?_))
  refine pu ?_
  refine rb ?_
  refine pu ?_
  refine pu ?_
  have f8:=f8.ext i19
  refine vo_call rfl rfl (Calls.mono (Fa.mkE x15 f8 (by omega) (by omega)) ?_)
  rintro _ w20 ⟨rfl,i20,g19⟩
  refine ⟨_,rfl,?_⟩
  have s20:=i20.size
  have f8:=g19
  refine pu ?_
  refine rb ?_
  refine pu ?_
  refine rb ?_
  refine pu ?_
  refine pu ?_
  refine ci o16 (x:=((mkI 1 l.length),(1:Int),())) hh11 ⟨_,_,rfl,f8.arg,⟨_,_,rfl,⟨rfl,by show lo .i64≤(1:Int); decide,by show (1:Int)≤hi .i64; decide⟩,⟨rfl,rfl⟩⟩⟩ fun w21 i21=>?_
  have s21:=i21.size
  refine pu ?_
  refine vo_nil (fin_seq (vs_seq (ra ?_)))
  refine pu ?_
  refine pu ?_
  refine vo_isF (decide_eq_false (by omega)) ?_
  refine vo_nil (fin_seq (vs_cond_false rfl ?_))
  refine vs_skip (fin_seq (vs_seq (ra ?_)))
  refine pu ?_
  refine pu ?_
  refine pu ?_
  refine vo_isF (bne_self_eq_false _) ?_
  refine vo_nil (fin_seq (vs_cond_false rfl ?_))
  refine vs_skip (fin_seq (ra ?_))
  have B2:=(blk_wo ((blk_wo (blk_wo (B2.ext (i13.trans (i14.trans (i15.trans i16)))) i17 fun h=>by omega) i18 fun h=>by omega).ext i19) i20 fun h=>by omega).ext i21
  refine vo_loadA rfl B2 rfl rfl ?_
  have f1:=(((((f1.ext (i13.trans (i14.trans (i15.trans i16)))).wo i17 fun i h1 h2 h3=>by omega).wo i18 fun i h1 h2 h3=>by omega).ext i19).wo i20 fun i h1 h2 h3=>by omega).ext i21
  refine vo_call rfl rfl (Calls.mono (cTo10 f1 ht1) ?_)
  rintro _ w22 ⟨d11a,d11b,d11c,d11d,d11e,rfl,i22,g11⟩
  refine ⟨_,rfl,?_⟩
  have s22:=i22.size
  have f11:=g11
  refine pu ?_
  have f2:=(((((f2.ext (i15.trans i16)).wo i17 fun i h1 h2 h3=>by omega).wo i18 fun i h1 h2 h3=>by omega).ext i19).wo i20 fun i h1 h2 h3=>by omega).ext (i21.trans i22)
  refine vo_call rfl rfl (Calls.mono (ok_call o23 (fun _=>rfl) rfl (x:=(x1,())) ht2 ⟨_,_,rfl,f2.arg,⟨rfl,rfl⟩⟩) ?_)
  rintro _ w23 ⟨v12,rfl,i23,hr⟩
  refine ⟨_,rfl,?_⟩
  have s23:=i23.size
  have hq:=rr_dat (t:=(.sl (.int .i64))) (x:=x1) (fr:=true) hr
  have f12:Fa True w22.heap.size w23.heap.size w23 (.sl (.int .i64)) [v12] x1:=RT.up hq (fun _ h=>h rfl)
  have f11:=f11.ext i23
  refine vo_call rfl rfl (Calls.mono (ok_call o28 (fun _=>rfl) rfl (x:=(x0,x1,())) hs4 ⟨_,_,rfl,f11.arg,⟨_,_,rfl,f12.arg,⟨rfl,rfl⟩⟩⟩) ?_)
  rintro _ w24 ⟨v,rfl,i24,hr⟩
  refine ⟨_,rfl,?_⟩
  have s24:=i24.size
  obtain ⟨u13,v13,rfl,hr1,hr2⟩:=rr_two hr
  obtain rfl:=rr_int hr2
  have hq:=rr_dat (t:=(.sl (.int .i64))) (x:=l) (fr:=true) hr1
  have f13:Fa True w23.heap.size w24.heap.size w24 (.sl (.int .i64)) [u13] l:=RT.up hq (fun _ h=>h rfl)
  refine pu ?_
  refine pu ?_
  refine pu ?_
  refine pu ?_
  refine pu ?_
  refine vo_nil (fin_seq (vs_seq (ra ?_)))
  refine pu ?_
  refine pu ?_
  have f5:=((f5.ext i19).wo i20 fun i h1 h2 h3=>by omega).ext (i21.trans (i22.trans (i23.trans i24)))
  refine cb o12 (x:=(l,l,())) he5 ⟨_,_,rfl,f13.arg,⟨_,_,rfl,f5.arg,⟨rfl,rfl⟩⟩⟩ fun w25 i25=>?_
  have s25:=i25.size
  refine pu ?_
  refine pu ?_
  refine vo_guard_take rfl rfl ?_
  refine pu ?_
  refine vo_guard_take rfl rfl ?_
  refine pu ?_
  refine vo_guard_take rfl rfl ?_
  refine pu ?_
  refine vo_isF (bne_self_eq_false _) ?_
  refine pu ?_
  refine vo_nil (fin_seq (vs_cond_false rfl ?_))
  refine vs_skip (fin_seq (ra ?_))
  refine pu ?_
  refine rb ?_
  refine pu ?_
  refine pu ?_
  have f8:=f8.ext (i21.trans (i22.trans (i23.trans (i24.trans i25))))
  refine ci o16 (x:=((mkI 1 l.length),(1:Int),())) hh11 ⟨_,_,rfl,f8.arg,⟨_,_,rfl,⟨rfl,by show lo .i64≤(1:Int); decide,by show (1:Int)≤hi .i64; decide⟩,⟨rfl,rfl⟩⟩⟩ fun w26 i26=>?_
  have s26:=i26.size
  refine pu ?_
  refine vo_nil (fin_seq (vs_seq (ra ?_)))
  refine pu ?_
  refine pu ?_
  refine vo_isF (decide_eq_false (by omega)) ?_
  refine vo_nil (fin_seq (vs_cond_false rfl ?_))
  refine vs_skip (fin_seq (vs_seq (ra ?_)))
  refine pu ?_
  refine pu ?_
  refine pu ?_
  refine vo_isF (bne_self_eq_false _) ?_
  refine vo_nil (fin_seq (vs_cond_false rfl ?_))
  refine vs_skip (fin_seq (ra ?_))
  refine pu ?_
  refine vo_nil (fin_seq (vs_ret ?_))
  (repeat refine fin_seq_ret ?_)
  refine fin_ret1 Tryz.results7 rfl ?_
  have hb:=((((((i20.ext ((i18.ext (i17.ext (((((((((i8.ext (((((((hb.trans i1).trans i2).trans i3).trans i4).trans i5).trans i6).trans i7) fun i h=>by omega).trans i9).trans i10).trans i11).trans i12).trans i13).trans i14).trans i15).trans i16) fun i h=>by omega) fun i h=>by omega).trans i19) fun i h=>by omega).trans i21).trans i22).trans i23).trans i24).trans i25).trans i26
  exact ⟨rfl,hb⟩
end Go.Proofs.YtgmpfbpemmohnaaGreatDoor
end
section
/- The order of the nodes: what the law asks of its functions. -/
namespace Go.Proofs.YtgmpfbpemmohnaaGreatDoor
open Go Go.Proofs Go.Proofs.Sv Go.Proofs.Xv Go.Proofs.Xl Go.Proofs.Xd
theorem r16 (n:Nat) (hn:n≤4611686018427387904):u16 (mkI 1 n) (1:Int)=some (1+((1*n:Nat):Int)):=by
  have hl:=mkI_len n 1
  rw [← fold_one n]
  refine lp_fold (n:=n) (by omega) (fun i (s:Int)=>(s,(i:Int))) (fun _ s=>s+1) (fun i s=>s=1+(i:Int)) (J:=u16J0) (F:=u16L1 (mkI 1 n)) (fun g i s hi hs=>?_) (fun i s hi hs=>by subst hs; omega) (fun g s _=>if_neg (by rw [hl]; simp)) _ rfl
  subst hs
  refine (if_pos (decide_eq_true (by rw [hl]; omega))).trans ?_
  refine (gd_pos ⟨⟨by omega,by rw [hl]; omega⟩,trivial⟩).trans ?_
  have e:(i:Int).toNat=i:=rfl
  rw [e,mkI_get n 1 i hi]
  refine (if_neg (by simp)).trans ?_
  refine (gd_pos ⟨⟨by omega,by omega⟩,trivial⟩).trans ?_
  exact gd_pos ⟨⟨by omega,by omega⟩,trivial⟩
theorem cnt_len {br:List Int} (h:br.length≤1048576):cnt (.sl (.int .i64)) br≤1048576:=by
  have e:cnt (.sl (.int .i64)) br=br.length+0:=cnt_ints
  omega
theorem ordGo_len (M N:Nat) (fr to:Nat→Nat) (lv:Nat→Bool):∀ (k:Nat) (out l:List Nat),ordGo M N fr to lv k out=some l→l.length=out.length+k
  | 0,out,l,h=>by cases h; rfl
  | k+1,out,l,h=>by
    rw [ordGo_succ] at h
    split at h
    · cases h
    · rw [ordGo_len M N fr to lv k _ l h]; simp; omega
theorem topF_len (b:Y46) (br:List Int):(topF b br).1.length≤1048576:=by
  unfold topF
  split
  · rename_i h
    split
    · have hN:=nod_le b (codeG_ok h).1
      show (ordRes (ordB b (liveV (linksV b).length br) [] (nodN b))).1.length≤_
      unfold ordRes
      split
      · exact Nat.zero_le _
      · rename_i l hl
        rw [List.length_map,ordGo_len _ _ _ _ _ _ _ _ hl]
        simp
        omega
    · exact Nat.zero_le _
  · exact Nat.zero_le _
theorem r7 (b:Y32) (br:List Int) (hw:wf y32 b) (hbr:wf (.sl (.int .i64)) br):G7 b br:=by
  refine ⟨_,z8 b 1048576 hw (by decide) (by decide),fun h0 hl=>?_⟩
  have hm:cnt y32 b≤1048576:=by
    unfold szN at h0
    split at h0 <;> omega
  have hcl:=cnt_len hl
  have hr:=topF_len b br
  have k1:=cntM_bd (t:=y46) (x:=b) (k:=64) hm (by decide)
  have k2:=cntM_bd (t:=.sl (.int .i64)) (x:=br) (k:=64) hcl (by decide)
  exact ⟨(topF b br).1,(topF b br).2,⟨w10 b hm,w23 br hcl,r27 b hw hm br hl,r28 b hw hm br hl,e12 _ (cnt_len hr),e13 b hm,e12 br hcl,by omega,by omega,by omega,r16 _ (by omega)⟩⟩
end Go.Proofs.YtgmpfbpemmohnaaGreatDoor
end

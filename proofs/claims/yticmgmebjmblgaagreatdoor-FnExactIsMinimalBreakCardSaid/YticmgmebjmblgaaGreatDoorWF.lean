/- The order of the nodes of a graph: the other loop; whether there is a loop. -/
import Derived.Test.YticmgmebjmblgaaGreatDoorWE
import Derived.Test.YticmgmebjmblgaaGreatDoorGn15
section
/- The order of the nodes of a graph: the other loop; whether there is a loop. -/
namespace Go.Proofs.YticmgmebjmblgaaGreatDoor
open Go Go.Proofs Go.Proofs.Sv Go.Proofs.Xv Go.Proofs.Xl Go.Proofs.Xd
section
variable {b:Y45}
theorem r121 (hb:blockOk b=true) {lv:List Bool} (hlv:lv.length=(linksV b).length):u121 (nodN b:Int) (linksV b) lv=some (ordRes (ordB b lv [] (nodN b))):=by
  have hM:=links_len hb
  have hN:=nod_le b hb
  have ht:∀ i,i < (linksV b).length→toN b i < nodN b:=fun i hi=>(frto b hb hi).2.2.2
  have hN0:((nodN b:Int)).toNat=nodN b:=rfl
  unfold u121
  rw [hN0]
  refine (gd_pos ⟨⟨by omega,rfl,by omega,by omega⟩,trivial⟩).trans ?_
  exact lp_run (n:=nodN b) (by omega) (fun _ (out:List Nat)=>(listV (nodN b) out,out.map (fun v:Nat=>(v:Int))))
    (fun _ out=>(nextV (linksV b).length (nodN b) (frN b) (toN b) (fun i=>lv.getD i false) out).map fun v=>out++[v]) (fun _ _=>some ([],false))
    (fun i out=>out.length=i∧∀ v∈out,v < nodN b)
    (J:=fun out=>some (out.map (fun v:Nat=>(v:Int)),true)) (F:=u121L1 (linksV b) lv (nodN b:Int))
    (fun g i out hi ho=>by
      obtain ⟨h1,h2⟩:=ho
      have ls:=fun w=>listV_get h2 w
      refine (if_pos (decide_eq_true (by rw [List.length_map]; omega))).trans ?_
      rw [hN0]
      refine (gd_pos ⟨⟨by omega,rfl,by omega,by omega⟩,trivial⟩).trans ?_
      refine (lp_fold (n:=(linksV b).length) (by omega) (fun k (w:List Bool)=>((k:Int),w)) (waitS (frN b) (toN b) (fun i=>lv.getD i false) out) (fun _ w=>w.length=nodN b) (J:=fun w=>u121J2 (listV (nodN b) out) (out.map fun v:Nat=>(v:Int)) (nodN b:Int) g w) (F:=u121L3 (linksV b) lv (listV (nodN b) out) (out.map fun v:Nat=>(v:Int)) (nodN b:Int) g) (fun g3 k w hk hw=>?_) (fun k w _ hw=>?_) (fun g3 w _=>if_neg (by simp)) (List.replicate (nodN b) false) List.length_replicate).trans ?_
      · have e3:((k:Int)).toNat=k:=rfl
        obtain ⟨f1,f2,f3,f4⟩:=frto b hb hk
        have e4:Int.toNat ((frN b k:Nat):Int)=frN b k:=rfl
        have e5:Int.toNat ((toN b k:Nat):Int)=toN b k:=rfl
        have l1:=(ls (frN b k)).1
        refine (if_pos (decide_eq_true (by omega))).trans ?_
        rw [e3,f1,f2,e4,e5,(ls (frN b k)).2]
        refine (gd_pos ⟨⟨by omega,by omega⟩,(fun _=>⟨by omega,by omega⟩),(fun _=>⟨by omega,by omega⟩),(fun _=>by omega),trivial⟩).trans ?_
        unfold waitS
        by_cases hc:(lv.getD k false&&!out.contains (frN b k))=true
        · rw [if_pos hc,if_pos hc]
          refine (gd_pos ⟨⟨by omega,by omega⟩,⟨by omega,by omega⟩,by omega,trivial⟩).trans ?_
          exact gd_pos ⟨⟨by omega,by omega⟩,trivial⟩
        · rw [if_neg hc,if_neg hc]
          exact gd_pos ⟨⟨by omega,by omega⟩,trivial⟩
      · unfold waitS
        split
        · rw [List.length_set]; exact hw
        · exact hw
      · show u121J2 _ _ _ g _=_
        rw [u121J2,← wait_next (lv:=fun i=>lv.getD i false) (fr:=frN b) ht h2]
        have wl:=(wait_get (fr:=frN b) (lv:=fun i=>lv.getD i false) ht out 0 _ (Nat.le_refl _)).1
        generalize foldN (waitS (frN b) (toN b) (fun i=>lv.getD i false) out) (linksV b).length (List.replicate (nodN b) false)=w at wl
        have l1:=(ls 0).1
        have key:=lp_any (n:=nodN b) (by omega) (fun v=>!((listV (nodN b) out).getD v false||w.getD v false)) (fun v=>u121J5 (listV (nodN b) out) (out.map fun v:Nat=>(v:Int)) (nodN b:Int) g (v:Int)) (e:=some ([],false)) (F:=u121L6 (listV (nodN b) out) (out.map fun v:Nat=>(v:Int)) (nodN b:Int) w g) 0 (Nat.zero_le _) (fun g6 v _ hv=>by
          have e3:((v:Int)).toNat=v:=rfl
          have ed:decide ((v:Int) < (nodN b:Int))=true:=decide_eq_true (by omega)
          refine (gd_pos ⟨(fun _=>⟨by omega,by omega⟩),(fun _=>by omega),(fun _=>⟨by omega,by omega⟩),(fun _=>by omega),trivial⟩).trans ?_
          rw [e3,ed,Bool.true_and]
          by_cases hc:((listV (nodN b) out).getD v false||w.getD v false)=true
          · rw [if_pos hc,if_neg (by rw [hc]; decide)]
            exact gd_pos ⟨⟨by omega,by omega⟩,trivial⟩
          · rw [if_neg hc,if_pos (by rw [Bool.eq_false_iff.2 hc]; rfl)]) (fun g6=>by
          have ed:decide ((nodN b:Int) < (nodN b:Int))=false:=decide_eq_false (by omega)
          refine (gd_pos ⟨(fun h=>by rw [ed] at h; cases h.1),(fun h=>by rw [ed] at h; cases h.1),(fun h=>by rw [ed] at h; cases h.2.1),(fun h=>by rw [ed] at h; cases h.2.1),trivial⟩).trans ?_
          rw [ed,Bool.false_and]
          refine (if_neg (by decide)).trans ?_
          rw [u121J5]
          exact if_pos (beq_self_eq_true _))
        rw [Nat.sub_zero,← List.range_eq_range'] at key
        refine Eq.trans key ?_
        cases hn:(List.range (nodN b)).find? fun v=>!((listV (nodN b) out).getD v false||w.getD v false) with
        | none=>rfl
        | some v =>
          have hv:=List.mem_range.1 (List.mem_of_find?_eq_some hn)
          have e3:((v:Int)).toNat=v:=rfl
          show u121J5 (listV (nodN b) out) (out.map fun v:Nat=>(v:Int)) (nodN b:Int) g (v:Int)=g (listV (nodN b) (out++[v]),(out++[v]).map fun v:Nat=>(v:Int))
          rw [u121J5,listV_app,List.map_append]
          refine (if_neg (by rw [beq_iff_eq]; omega)).trans ?_
          refine (gd_pos ⟨⟨by omega,by omega⟩,by omega,trivial⟩).trans ?_
          exact gd_pos ⟨⟨by simp only [List.length_singleton,List.length_map]; omega,by simp only [List.length_singleton,List.length_map]; omega⟩,trivial⟩)
    (fun i out out' hi ho he=>by
      obtain ⟨h1,h2⟩:=ho
      cases hn:nextV (linksV b).length (nodN b) (frN b) (toN b) (fun i=>lv.getD i false) out with
      | none=>rw [hn] at he; cases he
      | some v =>
        rw [hn] at he
        cases he
        obtain ⟨n1,n2⟩:=next_ok hn
        refine ⟨by simp [h1],fun w hw=>?_⟩
        rcases List.mem_append.1 hw with hw | hw
        · exact h2 w hw
        · cases List.mem_singleton.1 hw; exact n1)
    (fun g out ho=>by
      refine (if_neg ?_).trans rfl
      simp [ho.1])
    (fun i out=>some (ordRes (ordB b lv out (nodN b - i)))) (fun out _=>by
      rw [Nat.sub_self]; rfl)
    (fun i out hi ho=>by
      have e:nodN b - i=(nodN b - (i+1))+1:=by omega
      show some (ordRes (ordGo _ _ _ _ _ (nodN b - i) out))=_
      rw [e,ordGo_succ]
      cases nextV (linksV b).length (nodN b) (frN b) (toN b) (fun i=>lv.getD i false) out <;> rfl)
    0 (Nat.zero_le _) [] ⟨rfl,fun v hv=>nomatch hv⟩
/-! ### Whether there is a loop -/
def loopB (b:Y45) (br:List Int):Bool:=!(ordRes (ordB b (liveV (linksV b).length br) [] (nodN b))).2
theorem live_len (M:Nat) (br:List Int):(liveV M br).length=M:=appF_len _ _
theorem r69 (hb:blockOk b=true) (br:List Int):u69 (viewV b,liveV (linksV b).length br)=some (loopB b br):=by
  unfold u69
  rw [r126 hb (live_len _ _),vl_some,gd_pos ⟨rfl,trivial⟩,lt_eq]
  rfl
theorem r67 (hw:wf y45 b) (hb:blockOk b=true) (br:List Int) (hl:br.length≤1048576):u67 b br=some (loopB b br):=by
  have hM:=links_len hb
  unfold u67
  rw [r39 b hw hb,vl_some,gd_pos ⟨rfl,trivial⟩,lt_eq,r122 b hw hb,vl_some,r123 _ _ (by omega) hl,vl_some,r121 hb (live_len _ _),vl_some]
  refine (gd_pos ⟨rfl,rfl,rfl,trivial⟩).trans ?_
  rfl
end
def codeG (b:Y45) (br:List Int):Int:=if blockOk b=true then (if brokB (linksV b).length br=true then 0 else 2) else 1
theorem r66 (b:Y45) (hw:wf y45 b) (hm:cnt y45 b≤1048576) (br:List Int) (hl:br.length≤1048576):u66 b br=some (codeG b br):=by
  unfold u66 codeG
  rw [r36 b hw hm,vl_some,gd_pos ⟨rfl,trivial⟩]
  cases hb:blockOk b with
  | false=>rfl
  | true =>
    have hM:=links_len hb
    refine (if_neg (by simp)).trans ?_
    rw [r39 b hw hb,vl_some,r120 _ br (by omega) hl,gd_pos ⟨rfl,rfl,trivial⟩,lt_eq,r120 _ br (by omega) hl,vl_some]
    cases brokB (linksV b).length br <;> rfl
theorem r68 (b:Y45) (hw:wf y45 b) (hm:cnt y45 b≤1048576) (br:List Int) (hl:br.length≤1048576):u68 b br=some (if codeG b br=0 then .inr ((viewV b,liveV (linksV b).length br),0) else .inl (codeG b br)):=by
  unfold u68 codeG
  rw [r43 b hw hm,vl_some,gd_pos ⟨rfl,trivial⟩]
  cases hb:blockOk b with
  | false=>rfl
  | true =>
    refine (if_neg (by simp)).trans ?_
    rw [r44 b hw hb,vl_some,gd_pos ⟨rfl,trivial⟩,lt_eq,r124 hb br hl,vl_some,gd_pos ⟨rfl,trivial⟩]
    cases hr:brokB (linksV b).length br with
    | false=>rfl
    | true =>
      refine (if_neg (by simp)).trans ?_
      rw [r125 hb hr hl,vl_some,gd_pos ⟨rfl,trivial⟩,lt_eq]
      rfl
end Go.Proofs.YticmgmebjmblgaaGreatDoor
end
section
/- Lists of broken links without one of them; whether they are minimal: the law as a plain function gives true for all data. -/
namespace Go.Proofs.YticmgmebjmblgaaGreatDoor
open Go Go.Proofs Go.Proofs.Sv Go.Proofs.Xv Go.Proofs.Xl Go.Proofs.Xd
theorem codeG_ok {b:Y45} {br:List Int} (h:codeG b br=0):blockOk b=true∧brokB (linksV b).length br=true:=by
  unfold codeG at h
  split at h
  · rename_i hb
    split at h
    · rename_i hr; exact ⟨hb,hr⟩
    · cases h
  · cases h
theorem cnt_len {br:List Int} (h:br.length≤1048576):cnt (.sl (.int .i64)) br≤1048576:=by
  have e:cnt (.sl (.int .i64)) br=br.length+0:=cnt_ints
  omega
def woV (l:List Int) (i:Nat):List Int:=l.take i++l.drop (i+1)
theorem r70 (l:List Int) {i:Nat} (h:i < l.length) (hl:l.length≤1048576):u70 l (i:Int)=some (woV l i):=by
  have e3:((i:Int)).toNat=i:=rfl
  have e4:((i:Int)+1).toNat=i+1:=rfl
  have l1:(l.take i).length≤1048576:=by rw [List.length_take]; omega
  have l2:(l.drop (i+1)).length≤1048576:=by rw [List.length_drop]; omega
  unfold u70
  rw [e3,e4,List.nil_append]
  exact gd_pos ⟨⟨by omega,by omega,by omega⟩,⟨by omega,by omega⟩,⟨by omega,by omega⟩,⟨by omega,by omega,by omega⟩,⟨by omega,by omega⟩,trivial⟩
theorem wo_len (l:List Int) (i:Nat):(woV l i).length≤l.length:=by
  unfold woV
  rw [List.length_append,List.length_take,List.length_drop]
  omega
theorem has_iff {l:List Int} {x:Int}:hasB l x=true↔x∈l:=by
  unfold hasB
  rw [List.any_eq_true]
  constructor
  · rintro ⟨j,hj,he⟩
    rw [← eq_of_beq he]
    exact getD_mem (List.mem_range.1 hj)
  · intro h
    obtain ⟨j,hj,rfl⟩:=List.getElem_of_mem h
    exact ⟨j,List.mem_range.2 hj,by rw [List.getD_eq_getElem?_getD,List.getElem?_eq_getElem hj]; exact beq_self_eq_true _⟩
theorem inc_lt {l:List Int} (h:incB l=true):∀ k j,j < k→k < l.length→l.getD j 0 < l.getD k 0:=by
  unfold incB at h
  rw [Bool.not_eq_true',← Bool.not_eq_true,List.any_eq_true] at h
  have st:∀ k,0 < k→k < l.length→l.getD (k - 1) 0 < l.getD k 0:=fun k h0 hk=>by
    refine Int.not_le.1 (fun hc=>h ⟨k,List.mem_range.2 hk,?_⟩)
    rw [Bool.and_eq_true]
    exact ⟨decide_eq_true h0,decide_eq_true hc⟩
  intro k
  induction k with
  | zero=>intro j hj; omega
  | succ k ih =>
    intro j hj hk
    have h1:=st (k+1) (by omega) hk
    rw [Nat.add_sub_cancel] at h1
    by_cases e:j=k
    · subst e; exact h1
    · have:=ih j (by omega) (by omega)
      omega
theorem wo_has {l:List Int} (h:incB l=true) {i:Nat} (hi:i < l.length) (x:Int):hasB (woV l i) x=(hasB l x&&!(x==l.getD i 0)):=by
  have ei:l.getD i 0=l[i]:=by rw [List.getD_eq_getElem?_getD,List.getElem?_eq_getElem hi]; rfl
  have e:l=l.take i++l.getD i 0 :: l.drop (i+1):=by
    rw [ei,← List.drop_eq_getElem_cons hi,List.take_append_drop]
  rw [Bool.eq_iff_iff,Bool.and_eq_true,has_iff,has_iff,Bool.not_eq_true',← Bool.not_eq_true,beq_iff_eq]
  unfold woV
  rw [List.mem_append]
  constructor
  · rintro (hm | hm)
    · obtain ⟨j,hj,rfl⟩:=List.getElem_of_mem hm
      rw [List.length_take] at hj
      rw [List.getElem_take]
      refine ⟨List.getElem_mem _,?_⟩
      have:=inc_lt h i j (by omega) hi
      rw [List.getD_eq_getElem?_getD,List.getElem?_eq_getElem (by omega:j < l.length)] at this
      have this:l[j] < l.getD i 0:=this
      omega
    · obtain ⟨j,hj,rfl⟩:=List.getElem_of_mem hm
      rw [List.length_drop] at hj
      rw [List.getElem_drop]
      refine ⟨List.getElem_mem _,?_⟩
      have:=inc_lt h (i+1+j) i (by omega) (by omega)
      have e2:l.getD (i+1+j) 0=l[i+1+j]:=by rw [List.getD_eq_getElem?_getD,List.getElem?_eq_getElem (by omega:i+1+j < l.length)]; rfl
      omega
  · rintro ⟨hm,hn⟩
    rw [e] at hm
    rcases List.mem_append.1 hm with hm | hm
    · exact .inl hm
    · rcases List.mem_cons.1 hm with hm | hm
      · exact (hn hm).elim
      · exact .inr hm
theorem live_get {M:Nat} (br:List Int) {k:Nat} (hk:k < M):(liveV M br).getD k false=!hasB br (k:Int):=appF_get (fun k=>!hasB br (k:Int)) false _ k hk
theorem live_set {M:Nat} {br:List Int} (h:brokB M br=true) {i:Nat} (hi:i < br.length):0≤br.getD i 0∧(br.getD i 0).toNat < M∧(liveV M br).set (br.getD i 0).toNat true=liveV M (woV br i)∧(liveV M (woV br i)).set (br.getD i 0).toNat false=liveV M br:=by
  unfold brokB at h
  rw [Bool.and_eq_true] at h
  have hin:=inB_iff.1 (all_getD h.1 hi)
  have hlt:(br.getD i 0).toNat < M:=by omega
  have hmem:hasB br (br.getD i 0)=true:=has_iff.2 (getD_mem hi)
  have l1:=live_len M br
  have l2:=live_len M (woV br i)
  refine ⟨hin.1,hlt,list_eq false (by rw [List.length_set,l1,l2]) (fun k hk=>?_),list_eq false (by rw [List.length_set,l1,l2]) (fun k hk=>?_)⟩
  · rw [List.length_set,l1] at hk
    rw [setB_get _ (by rw [l1]; exact hlt),live_get _ hk,live_get _ hk,wo_has h.2 hi]
    by_cases e:k=(br.getD i 0).toNat
    · have e2:((k:Nat):Int)=br.getD i 0:=by omega
      rw [if_pos e,e2,beq_self_eq_true,Bool.not_true,Bool.and_false,Bool.not_false]
    · have e2:(((k:Nat):Int)==br.getD i 0)=false:=beq_eq_false_iff_ne.2 (by omega)
      rw [if_neg e,e2,Bool.not_false,Bool.and_true]
  · rw [List.length_set,l2] at hk
    rw [setB_get _ (by rw [l2]; exact hlt),live_get _ hk,live_get _ hk,wo_has h.2 hi]
    by_cases e:k=(br.getD i 0).toNat
    · have e2:((k:Nat):Int)=br.getD i 0:=by omega
      rw [if_pos e,e2,hmem]
      rfl
    · have e2:(((k:Nat):Int)==br.getD i 0)=false:=beq_eq_false_iff_ne.2 (by omega)
      rw [if_neg e,e2,Bool.not_false,Bool.and_true]
theorem any_step (n:Nat) (p:Nat→Bool) {i:Nat} (hi:i < n):((List.range n).any fun j=>decide (i≤j)&&p j)=(p i||(List.range n).any fun j=>decide (i+1≤j)&&p j):=by
  rw [Bool.eq_iff_iff,Bool.or_eq_true,List.any_eq_true,List.any_eq_true]
  constructor
  · rintro ⟨j,hj,hp⟩
    rw [Bool.and_eq_true] at hp
    have h1:=of_decide_eq_true hp.1
    by_cases e:j=i
    · subst e; exact .inl hp.2
    · exact .inr ⟨j,hj,by rw [Bool.and_eq_true]; exact ⟨decide_eq_true (by omega),hp.2⟩⟩
  · rintro (hp | ⟨j,hj,hp⟩)
    · exact ⟨i,List.mem_range.2 hi,by rw [Bool.and_eq_true]; exact ⟨decide_eq_true (Nat.le_refl _),hp⟩⟩
    · rw [Bool.and_eq_true] at hp
      have h1:=of_decide_eq_true hp.1
      exact ⟨j,hj,by rw [Bool.and_eq_true]; exact ⟨decide_eq_true (by omega),hp.2⟩⟩
theorem any_end (n:Nat) (p:Nat→Bool):((List.range n).any fun j=>decide (n≤j)&&p j)=false:=by
  rw [← Bool.not_eq_true,List.any_eq_true]
  rintro ⟨j,hj,hp⟩
  rw [Bool.and_eq_true] at hp
  have h1:=of_decide_eq_true hp.1
  have h2:=List.mem_range.1 hj
  omega
def minB (b:Y45) (br:List Int):Bool:=!loopB b br&&!((List.range br.length).any fun j=>decide (0≤j)&&!loopB b (woV br j))
def mbF (b:Y45) (br:List Int):Bool×Int:=if codeG b br=0 then (minB b br,0) else (false,codeG b br)
theorem r31 (b:Y45) (hw:wf y45 b) (hm:cnt y45 b≤1048576) (br:List Int) (hl:br.length≤1048576):u31 b br=some (mbF b br):=by
  unfold u31 mbF
  rw [r66 b hw hm br hl,vl_some,gd_pos ⟨rfl,trivial⟩,lt_eq]
  by_cases h:codeG b br=0
  · obtain ⟨hb,hr⟩:=codeG_ok h
    rw [if_pos h,h]
    refine (if_neg (by decide)).trans ?_
    rw [r67 hw hb br hl,vl_some,gd_pos ⟨rfl,trivial⟩]
    have key:=lp_run (n:=br.length) (by omega) (fun i (s:Bool)=>(s,(i:Int))) (fun i s=>if s=true then some (loopB b (woV br i)) else none) (fun _ s=>some (s,(0:Int))) (fun _ _=>True) (J:=fun s=>some (s,(0:Int))) (F:=u31L1 b br)
      (fun g i s hi _=>by
        cases s with
        | false=>exact if_neg (by simp)
        | true =>
          refine (if_pos (by rw [Bool.and_true]; exact decide_eq_true (by omega))).trans ?_
          rw [r70 br hi hl,vl_some,r67 hw hb _ (Nat.le_trans (wo_len br i) hl),gd_pos ⟨rfl,rfl,trivial⟩,lt_eq,r67 hw hb _ (Nat.le_trans (wo_len br i) hl),vl_some]
          exact gd_pos ⟨⟨by omega,by omega⟩,trivial⟩)
      (fun _ _ _ _ _ _=>trivial) (fun g s _=>if_neg (by simp))
      (fun i s=>some (s&&!((List.range br.length).any fun j=>decide (i≤j)&&!loopB b (woV br j)),(0:Int)))
      (fun s _=>by
        rw [any_end,Bool.not_false,Bool.and_true])
      (fun i s hi _=>by
        rw [any_step br.length (fun j=>!loopB b (woV br j)) hi]
        cases s with
        | false=>rfl
        | true =>
          cases loopB b (woV br i) <;> rfl)
      0 (Nat.zero_le _) (!loopB b br) trivial
    exact key
  · rw [if_neg h]
    exact if_pos (by simp [h])
theorem r32 (b:Y45) (hw:wf y45 b) (hm:cnt y45 b≤1048576) (br:List Int) (hl:br.length≤1048576):u32 b br=some (mbF b br):=by
  unfold u32 mbF
  by_cases h:codeG b br=0
  · obtain ⟨hb,hr⟩:=codeG_ok h
    have hM:=live_len (linksV b).length
    have hn:=r68 b hw hm br hl
    rw [if_pos h] at hn ⊢
    have key:=lp_run (n:=br.length) (by omega) (fun i (_:Unit)=>((i:Int),liveV (linksV b).length br)) (fun i _=>if (!loopB b (woV br i))=true then none else some ()) (fun _ _=>some (false,(0:Int))) (fun _ _=>True) (J:=fun _=>some (true,(0:Int))) (F:=u32L1 b br)
      (fun g i s hi _=>by
        have e3:((i:Int)).toNat=i:=rfl
        obtain ⟨s1,s2,s3,s4⟩:=live_set hr hi
        refine (if_pos (decide_eq_true (by omega))).trans ?_
        refine (gd_pos ⟨⟨by omega,by omega⟩,trivial⟩).trans ?_
        rw [e3]
        refine (gd_pos ⟨⟨s1,by rw [hM]; omega⟩,by rw [hM]; exact s2,trivial⟩).trans ?_
        rw [hn,s3]
        have hh:=r69 hb (woV br i)
        refine (gd_pos ⟨(by show (u69 (viewV b,liveV (linksV b).length (woV br i))).isSome=true; rw [hh]; rfl),trivial⟩).trans ((gd_pos ⟨⟨s1,by rw [hM]; omega⟩,by rw [hM]; exact s2,trivial⟩).trans ?_)
        rw [lt_eq,s4]
        show (if (!vl (u69 (viewV b,liveV (linksV b).length (woV br i))))=true then _ else _)=_
        rw [hh,vl_some]
        by_cases hc:(!loopB b (woV br i))=true
        · rw [if_pos hc,if_pos hc]
        · rw [if_neg hc,if_neg hc]
          exact gd_pos ⟨⟨by omega,by omega⟩,trivial⟩)
      (fun _ _ _ _ _ _=>trivial) (fun g s _=>if_neg (by simp))
      (fun i _=>if ((List.range br.length).any fun j=>decide (i≤j)&&!loopB b (woV br j))=true then some (false,(0:Int)) else some (true,(0:Int)))
      (fun s _=>by
        rw [any_end]
        rfl)
      (fun i s hi _=>by
        rw [any_step br.length (fun j=>!loopB b (woV br j)) hi]
        cases loopB b (woV br i) <;> rfl)
      0 (Nat.zero_le _) () trivial
    rw [hn]
    refine (if_neg (by simp [isL])).trans ((gd_pos ⟨rfl,trivial⟩).trans ?_)
    refine (if_neg (by simp [vR])).trans ?_
    have hh:=r69 hb br
    refine (gd_pos ⟨(by show (u69 (viewV b,liveV (linksV b).length br)).isSome=true; rw [hh]; rfl),trivial⟩).trans ?_
    show (if vl (u69 (viewV b,liveV (linksV b).length br))=true then some (false,(0:Int)) else lp (u32L1 b br) (((0:Nat):Int),liveV (linksV b).length br))=_
    rw [hh,vl_some,key]
    unfold minB
    cases loopB b br <;> cases (List.range br.length).any fun j=>decide (0≤j)&&!loopB b (woV br j) <;> rfl
  · have hn:=r68 b hw hm br hl
    rw [if_neg h] at hn ⊢
    rw [hn]
    refine (if_pos rfl).trans ((gd_pos ⟨rfl,trivial⟩).trans ?_)
    exact if_pos (by show (codeG b br != 0)=true; simp [h])
theorem r9 (b:Y32) (br:List Int) (hw:wf y32 b) (hbr:wf (.sl (.int .i64)) br):u9 b br=some true:=by
  unfold u9
  by_cases hc0:(1048576:Int) < (br.length:Int)
  · exact if_pos (by simpa using hc0)
  · refine (if_neg (by simpa using hc0)).trans ?_
    have hl:br.length≤1048576:=by omega
    rw [z10 b 1048576 hw (by decide) (by decide),vl_some,gd_pos ⟨rfl,trivial⟩,lt_eq]
    by_cases hc1:szN (cnt y32 b) 1048576 < 0
    · exact if_pos (by simpa using hc1)
    · refine (if_neg (by simpa using hc1)).trans ?_
      have hm:cnt y32 b≤1048576:=by
        unfold szN at hc1
        split at hc1 <;> omega
      have hcl:=cnt_len hl
      rw [w12 b hm,vl_some,w23 br hcl,vl_some,r31 b hw hm br hl,vl_some,gd_pos ⟨rfl,rfl,rfl,trivial⟩,lt_eq]
      show gd _ (lt b fun v4=>gd _ (lt br fun v5=>gd ((u32 v4 v5).isSome=true∧True) (lt (vl (u32 v4 v5)) fun v6=>_)))=_
      rw [gd_pos ⟨rfl,trivial⟩,lt_eq,gd_pos ⟨rfl,trivial⟩,lt_eq,r32 b hw hm br hl,vl_some,gd_pos ⟨rfl,trivial⟩,lt_eq]
      refine (if_neg (by simp)).trans ?_
      rw [e14 b hm,gd_pos ⟨rfl,rfl,trivial⟩,lt_eq,e14 b hm]
      refine (if_neg (by decide)).trans ?_
      rw [e25 br hcl,gd_pos ⟨rfl,rfl,trivial⟩,lt_eq,e25 br hcl]
      rfl
end Go.Proofs.YticmgmebjmblgaaGreatDoor
end

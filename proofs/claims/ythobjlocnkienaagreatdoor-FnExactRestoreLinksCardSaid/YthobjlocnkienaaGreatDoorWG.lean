/- The order of the nodes of a graph: both ways say the same. -/
import Derived.Test.YthobjlocnkienaaGreatDoorWF
import Derived.Test.YthobjlocnkienaaGreatDoorFn22c
import Derived.Test.YthobjlocnkienaaGreatDoorXK
import Derived.Test.YthobjlocnkienaaGreatDoorXF
import Derived.Test.YthobjlocnkienaaGreatDoorGn22
import Derived.Test.YthobjlocnkienaaGreatDoorWB
section
/- The order of the nodes of a graph: both ways say the same. -/
namespace Go.Proofs.YthobjlocnkienaaGreatDoor
open Go Go.Proofs Go.Proofs.Sv Go.Proofs.Xv Go.Proofs.Xl Go.Proofs.Xd
theorem foldN_foldl {σ:Type} (g:σ→Nat→σ) (l:List Nat) (s:σ):foldN (fun i s=>g s (l.getD i 0)) l.length s=l.foldl g s:=by
 have key:∀ n,n≤l.length→foldN (fun i s=>g s (l.getD i 0)) n s=(l.take n).foldl g s:=by
  intro n
  induction n with
  | zero=>intro _; rfl
  | succ n ih =>
    intro hn
    have e:l.take (n+1)=l.take n++[l.getD n 0]:=by
     rw [List.take_add_one,List.getD_eq_getElem?_getD,List.getElem?_eq_getElem (by omega)]
     rfl
    rw [e,List.foldl_append,← ih (by omega)]
    rfl
 have:=key l.length (Nat.le_refl _)
 rwa [List.take_length] at this
theorem tr_fold (M:Nat):∀ m,m≤M→(foldN (fun i (s:List Bool)=>s.set i true) m (List.replicate M false)).length=M∧∀ k,k < m→(foldN (fun i (s:List Bool)=>s.set i true) m (List.replicate M false)).getD k false=true:=by
 intro m
 induction m with
 | zero=>exact fun _=>⟨List.length_replicate,fun k hk=>by omega⟩
 | succ m ih =>
   intro hm
   obtain ⟨h1,h2⟩:=ih (by omega)
   refine ⟨by show (List.set _ _ _).length=M; rw [List.length_set,h1],fun k hk=>?_⟩
   show (List.set _ _ _).getD k false=true
   rw [setB_get _ (by rw [h1]; omega)]
   by_cases e:k=m
   ·rw [if_pos e]
   ·rw [if_neg e]; exact h2 k (by omega)
theorem br_fold (br:List Int) (s:List Bool):∀ m,(∀ j,j < m→(br.getD j 0).toNat < s.length)→(foldN (fun i (s:List Bool)=>s.set (br.getD i 0).toNat false) m s).length=s.length∧∀ k,(foldN (fun i (s:List Bool)=>s.set (br.getD i 0).toNat false) m s).getD k false=(s.getD k false&&!(List.range m).any fun j=>(br.getD j 0).toNat==k):=by
 intro m
 induction m with
 | zero=>exact fun _=>⟨rfl,fun k=>by show s.getD k false=_; simp⟩
 | succ m ih =>
   intro hm
   obtain ⟨h1,h2⟩:=ih (fun j hj=>hm j (by omega))
   refine ⟨by show (List.set _ _ _).length=_; rw [List.length_set,h1],fun k=>?_⟩
   show (List.set _ _ _).getD k false=_
   rw [setB_get _ (by rw [h1]; exact hm m (by omega)),h2,List.range_succ,List.any_append]
   by_cases e:k=(br.getD m 0).toNat
   ·have:((br.getD m 0).toNat==k)=true:=by rw [e]; exact beq_self_eq_true _
    rw [if_pos e]
    simp only [List.any_cons,List.any_nil,this,Bool.or_true,Bool.true_or,Bool.not_true,Bool.and_false]
   ·have:((br.getD m 0).toNat==k)=false:=beq_eq_false_iff_ne.2 (Ne.symm e)
    rw [if_neg e]
    simp only [List.any_cons,List.any_nil,this,Bool.or_false]
def idxV (p:Nat→Bool) (M:Nat):List Int:=((List.range M).filter p).map fun i:Nat=>(i:Int)
theorem idxV_fold (p:Nat→Bool):∀ m,foldN (fun i (s:List Int)=>if p i=true then s++[(i:Int)] else s) m []=idxV p m
 | 0=>rfl
 | m+1=>by
   show (if p m=true then foldN _ m []++[(m:Int)] else foldN _ m [])=_
   rw [idxV_fold p m]
   unfold idxV
   rw [List.range_succ,List.filter_append,List.map_append]
   by_cases h:p m=true
   ·rw [if_pos h]; simp [h]
   ·rw [if_neg h]; simp [h]
theorem idxV_len (p:Nat→Bool) (M:Nat):(idxV p M).length≤M∧(idxV p M).length=((List.range M).filter p).length:=by
 unfold idxV
 rw [List.length_map]
 have:=List.length_filter_le p (List.range M)
 rw [List.length_range] at this
 exact ⟨this,rfl⟩
theorem idxV_get (p:Nat→Bool) (M i:Nat):(idxV p M).getD i 0=((((List.range M).filter p).getD i 0:Nat):Int):=by
 unfold idxV
 rw [List.getD_eq_getElem?_getD,List.getD_eq_getElem?_getD,List.getElem?_map]
 cases ((List.range M).filter p)[i]? <;> rfl
theorem filt_lt {p:Nat→Bool} {M i:Nat} (h:i < ((List.range M).filter p).length):((List.range M).filter p).getD i 0 < M:=by
 have:=getD_mem (d:=0) h
 rw [List.mem_filter,List.mem_range] at this
 exact this.1
def ordRes (o:Option (List Nat)):List Int×Bool:=match o with
 | none=>([],false)
 | some l=>(l.map (fun v:Nat=>(v:Int)),true)
section
variable {b:Y46}
theorem r100 (hb:blockOk b=true) {br:List Int} (hbr:brokB (linksV b).length br=true) (hl:br.length≤1048576):u100 (viewV b) br=some (viewV b,liveV (linksV b).length br):=by
 have hM:=links_len hb
 have hbr:=hbr
 unfold brokB at hbr
 rw [Bool.and_eq_true] at hbr
 have hin:∀ j,j < br.length→0≤br.getD j 0∧br.getD j 0 < ((linksV b).length:Int):=fun j hj=>by
  have:=inB_iff.1 (all_getD hbr.1 hj)
  omega
 obtain ⟨t1,t2⟩:=tr_fold (linksV b).length (linksV b).length (Nat.le_refl _)
 obtain ⟨f1,f2⟩:=br_fold br (foldN (fun i (s:List Bool)=>s.set i true) (linksV b).length (List.replicate (linksV b).length false)) br.length (fun j hj=>by
  have:=hin j hj
  omega)
 have hres:foldN (fun i (s:List Bool)=>s.set (br.getD i 0).toNat false) br.length (foldN (fun i (s:List Bool)=>s.set i true) (linksV b).length (List.replicate (linksV b).length false))=liveV (linksV b).length br:=by
  refine list_eq false (by rw [f1,t1]; exact (appF_len _ _).symm) (fun k hk=>?_)
  have hk:k < (linksV b).length:=by rw [f1,t1] at hk; exact hk
  rw [f2,t2 k hk,Bool.true_and]
  refine Eq.trans ?_ (appF_get (fun k=>!hasB br (k:Int)) false _ k hk).symm
  congr 1
  unfold hasB
  rw [Bool.eq_iff_iff,List.any_eq_true,List.any_eq_true]
  constructor
  ·rintro ⟨j,hj,he⟩
   have:=hin j (List.mem_range.1 hj)
   have he:=eq_of_beq he
   exact ⟨j,hj,by rw [beq_iff_eq]; omega⟩
  ·rintro ⟨j,hj,he⟩
   have:=hin j (List.mem_range.1 hj)
   have he:=eq_of_beq he
   exact ⟨j,hj,by rw [beq_iff_eq]; omega⟩
 unfold u100
 have eM:((viewV b).2.2.1.length:Int)=((linksV b).length:Int):=rfl
 rw [eM,Int.toNat_natCast]
 refine (gd_pos ⟨⟨by omega,rfl,by omega,by omega⟩,trivial⟩).trans ?_
 rw [lt_eq,List.length_replicate]
 refine (lp_fold (n:=(linksV b).length) (by omega) (fun i (s:List Bool)=>((i:Int),s)) (fun i s=>s.set i true) (fun _ s=>s.length=(linksV b).length) (J:=fun s=>u100J0 br (viewV b) s) (F:=u100L1 br (viewV b) ((linksV b).length:Int)) (fun g i s hi hs=>?_) (fun i s _ hs=>by rw [List.length_set]; exact hs) (fun g s _=>if_neg (by simp)) (List.replicate (linksV b).length false) List.length_replicate).trans ?_
 ·have e3:((i:Int)).toNat=i:=rfl
  refine (if_pos (decide_eq_true (by omega))).trans ?_
  refine (gd_pos ⟨⟨by omega,by omega⟩,by omega,trivial⟩).trans ?_
  exact gd_pos ⟨⟨by omega,by omega⟩,trivial⟩
 ·show u100J0 br (viewV b) _=_
  rw [u100J0]
  refine (lp_fold (n:=br.length) (by omega) (fun i (s:List Bool)=>((i:Int),s)) (fun i s=>s.set (br.getD i 0).toNat false) (fun _ s=>s.length=(linksV b).length) (J:=fun s=>some (viewV b,s)) (F:=u100L3 br (viewV b)) (fun g i s hi hs=>?_) (fun i s _ hs=>by rw [List.length_set]; exact hs) (fun g s _=>if_neg (by simp)) _ t1).trans ?_
  ·have e3:((i:Int)).toNat=i:=rfl
   have:=hin i hi
   refine (if_pos (decide_eq_true (by omega))).trans ?_
   refine (gd_pos ⟨⟨by omega,by omega⟩,trivial⟩).trans ?_
   rw [e3]
   refine (gd_pos ⟨⟨by omega,by omega⟩,by omega,trivial⟩).trans ?_
   exact gd_pos ⟨⟨by omega,by omega⟩,trivial⟩
  ·exact congrArg (fun x=>some (viewV b,x)) hres
theorem r126T (hb:blockOk b=true) {lv:List Bool} (hlv:lv.length=(linksV b).length):u126c149 (viewV b,lv)=some (idxV (fun i=>lv.getD i false) (linksV b).length):=by
 have hM:=links_len hb
 refine (lp_fold (n:=(linksV b).length) (by omega) (fun i (s:List Int)=>(s,(i:Int))) (fun i s=>if lv.getD i false=true then s++[(i:Int)] else s) (fun i s=>s.length≤i) (J:=fun s=>some s) (F:=u126c149L1 (viewV b,lv)) (fun g i s hi hs=>?_) (fun i s _ hs=>?_) (fun g s _=>if_neg (by simp [viewV])) [] (Nat.le_refl _)).trans (congrArg some (idxV_fold _ _))
 ·have e3:((i:Int)).toNat=i:=rfl
  have hx:ix (i:Int) (viewV b).2.2.1.length:=⟨by omega,by show (i:Int) < ((linksV b).length:Int); omega⟩
  refine (if_pos (decide_eq_true hx.2)).trans ((gd_pos ⟨hx,trivial⟩).trans ?_)
  rw [lt_eq]
  refine (gd_pos ⟨⟨by omega,by show (i:Int) < (lv.length:Int); omega⟩,(fun _=>rfl),trivial⟩).trans ?_
  show (if (lv.getD i false&&true)=true then _ else _)=_
  rw [Bool.and_true]
  by_cases h:lv.getD i false=true
  ·rw [if_pos h,if_pos h]
   refine (gd_pos ⟨⟨by simp only [List.length_singleton]; omega,by simp only [List.length_singleton]; omega⟩,trivial⟩).trans ?_
   exact gd_pos ⟨⟨by omega,by omega⟩,trivial⟩
  ·rw [if_neg h,if_neg h]
   exact gd_pos ⟨⟨by omega,by omega⟩,trivial⟩
 ·show (if lv.getD i false=true then s++[(i:Int)] else s).length≤i+1
  split
  ·rw [List.length_append,List.length_singleton]; omega
  ·omega
theorem r126F (hb:blockOk b=true) {lv:List Bool} (hlv:lv.length=(linksV b).length) (a:Nat):u126c152 (viewV b,lv) (a:Int)=some (idxV (fun i=>lv.getD i false&&frN b i==a) (linksV b).length):=by
 have hM:=links_len hb
 refine (lp_fold (n:=(linksV b).length) (by omega) (fun i (s:List Int)=>(s,(i:Int))) (fun i s=>if (lv.getD i false&&frN b i==a)=true then s++[(i:Int)] else s) (fun i s=>s.length≤i) (J:=fun s=>some s) (F:=u126c152L1 (viewV b,lv) (a:Int)) (fun g i s hi hs=>?_) (fun i s _ hs=>?_) (fun g s _=>if_neg (by simp [viewV])) [] (Nat.le_refl _)).trans (congrArg some (idxV_fold _ _))
 ·have e3:((i:Int)).toNat=i:=rfl
  have hx:ix (i:Int) (viewV b).2.2.1.length:=⟨by omega,by show (i:Int) < ((linksV b).length:Int); omega⟩
  refine (if_pos (decide_eq_true hx.2)).trans ((gd_pos ⟨hx,trivial⟩).trans ?_)
  rw [lt_eq]
  refine (gd_pos ⟨⟨by omega,by show (i:Int) < (lv.length:Int); omega⟩,(fun _=>rfl),trivial⟩).trans ?_
  obtain ⟨f1,_⟩:=frto b hb hi
  have ef:(((linksV b).getD i (dflt y107)).1==(a:Int))=(frN b i==a):=by
   rw [f1,Bool.eq_iff_iff,beq_iff_eq,beq_iff_eq]; omega
  show (if (lv.getD i false&&(((linksV b).getD i (dflt y107)).1==(a:Int)))=true then _ else _)=_
  rw [ef]
  by_cases h:(lv.getD i false&&frN b i==a)=true
  ·rw [if_pos h,if_pos h]
   refine (gd_pos ⟨⟨by simp only [List.length_singleton]; omega,by simp only [List.length_singleton]; omega⟩,trivial⟩).trans ?_
   exact gd_pos ⟨⟨by omega,by omega⟩,trivial⟩
  ·rw [if_neg h,if_neg h]
   exact gd_pos ⟨⟨by omega,by omega⟩,trivial⟩
 ·show (if (lv.getD i false&&frN b i==a)=true then s++[(i:Int)] else s).length≤i+1
  split
  ·rw [List.length_append,List.length_singleton]; omega
  ·omega
theorem r113 (hb:blockOk b=true) {lv:List Bool} (hlv:lv.length=(linksV b).length) (a:Nat):u113 (viewV b,lv) (a:Int)=some (idxV (fun i=>lv.getD i false&&frN b i==a) (linksV b).length):=by
 unfold u113
 rw [r126F hb hlv,vl_some,gd_pos ⟨rfl,trivial⟩,lt_eq]
theorem r150 (o:List Int) (h:o.length≤9223372036854775807):u150 o 0=some (match (List.range o.length).find? (fun v=>(0:Int)==o.getD v 0) with | some v=>(v:Int) | none => -1):=by
 have key:=lp_any h (fun v=>(0:Int)==o.getD v 0) (fun v=>some (v:Int)) (e:=some (-1)) (F:=u150L1 0 o) 0 (Nat.zero_le _) (fun g i _ hi=>by
  have e3:((i:Int)).toNat=i:=rfl
  refine (if_pos (decide_eq_true (by omega))).trans ((gd_pos ⟨⟨by omega,by omega⟩,trivial⟩).trans ?_)
  rw [e3]
  by_cases hc:((0:Int)==o.getD i 0)=true
  ·rw [if_pos hc,if_pos hc]
  ·rw [if_neg hc,if_neg hc]
   exact gd_pos ⟨⟨by omega,by omega⟩,trivial⟩) (fun g=>if_neg (by simp))
 rw [Nat.sub_zero,← List.range_eq_range'] at key
 refine Eq.trans key ?_
 cases (List.range o.length).find? fun v=>(0:Int)==o.getD v 0 <;> rfl
end
end Go.Proofs.YthobjlocnkienaaGreatDoor
end
section
/- The order of the nodes of a graph: the two loops. -/
namespace Go.Proofs.YthobjlocnkienaaGreatDoor
open Go Go.Proofs Go.Proofs.Sv Go.Proofs.Xv Go.Proofs.Xl Go.Proofs.Xd
section
variable {b:Y46}
theorem set_len {o:List Int} {i N:Nat} {x:Int} (h:o.length=N):(o.set i x).length=N:=by rw [List.length_set,h]
theorem r101L1 (hb:blockOk b=true) {lv:List Bool} {p:Nat→Bool}:lp (u101L1 (viewV b,lv) (idxV p (linksV b).length)) (0,List.replicate (nodN b) 0)=u101J0 (viewV b,lv) (((List.range (linksV b).length).filter p).foldl (incO (toN b)) (List.replicate (nodN b) 0)):=by
 have hM:=links_len hb
 obtain ⟨q1,q2⟩:=idxV_len p (linksV b).length
 rw [← foldN_foldl,← q2]
 refine lp_fold (n:=(idxV p (linksV b).length).length) (by omega) (fun i (s:List Int)=>((i:Int),s)) (fun i o=>incO (toN b) o (((List.range (linksV b).length).filter p).getD i 0)) (fun i o=>o.length=nodN b∧∀ v,0≤o.getD v 0∧o.getD v 0≤(i:Int)) (J:=fun s=>u101J0 (viewV b,lv) s) (F:=u101L1 (viewV b,lv) (idxV p (linksV b).length)) (fun g i o hi ho=>?_) (fun i o hi ho=>?_) (fun g s _=>if_neg (by simp)) _ ⟨List.length_replicate,fun v=>?_⟩
 ·have e3:((i:Int)).toNat=i:=rfl
  obtain ⟨ol,ob⟩:=ho
  have hk:=filt_lt (p:=p) (M:=(linksV b).length) (i:=i) (by omega)
  refine (if_pos (decide_eq_true (by omega))).trans ?_
  refine (gd_pos ⟨⟨by omega,by omega⟩,by omega,trivial⟩).trans ?_
  rw [e3,idxV_get]
  generalize ((List.range (linksV b).length).filter p).getD i 0=k at hk
  have e4:Int.toNat ((k:Nat):Int)=k:=rfl
  obtain ⟨f1,f2,f3,f4⟩:=frto b hb hk
  have hx:ix ((k:Nat):Int) (viewV b).2.2.1.length:=⟨by omega,by show ((k:Nat):Int) < ((linksV b).length:Int); omega⟩
  have hv:=ob (toN b k)
  have e5:((viewV b).2.2.1.getD (Int.toNat ((k:Nat):Int)) (dflt y107)).2.1=(toN b k:Int):=f2
  have e6:Int.toNat ((toN b k:Nat):Int)=toN b k:=rfl
  rw [e5,e6]
  refine (gd_pos ⟨hx,⟨by omega,by omega⟩,by omega,⟨by omega,by omega⟩,⟨by omega,by omega⟩,by omega,trivial⟩).trans ?_
  rw [lt_eq]
  exact gd_pos ⟨⟨by omega,by omega⟩,trivial⟩
 ·obtain ⟨ol,ob⟩:=ho
  have hk:=filt_lt (p:=p) (M:=(linksV b).length) (i:=i) (by omega)
  obtain ⟨f1,f2,f3,f4⟩:=frto b hb hk
  refine ⟨set_len ol,fun v=>?_⟩
  unfold incO
  rw [set_get _ (by omega)]
  have h1:=ob v
  have h2:=ob (toN b (((List.range (linksV b).length).filter p).getD i 0))
  split <;> omega
 ·have:(List.replicate (nodN b) (0:Int)).getD v 0=0:=by
   rw [List.getD_eq_getElem?_getD,List.getElem?_replicate]
   split <;> rfl
  rw [this]
  omega
theorem r101L5 (hb:blockOk b=true) {lv:List Bool} {p:Nat→Bool} {n:Int} {l:List Int} {v:Int} {g3:List Int×Int×List Int→Option (List Int×Bool)} {o:List Int} {A:Int} (hA:0≤A) (hA2:A≤1000000000000) (ol:o.length=nodN b) (olo:∀ w,w < nodN b → -A≤o.getD w 0∧o.getD w 0≤A):lp (u101L5 (viewV b,lv) (idxV p (linksV b).length) n l v g3) (0,o)=u101J4 n g3 (l++[v],((List.range (linksV b).length).filter p).foldl (decO (toN b)) o):=by
 have hM:=links_len hb
 obtain ⟨q1,q2⟩:=idxV_len p (linksV b).length
 rw [← foldN_foldl,← q2]
 refine lp_fold (n:=(idxV p (linksV b).length).length) (by omega) (fun i (s:List Int)=>((i:Int),s)) (fun i o=>decO (toN b) o (((List.range (linksV b).length).filter p).getD i 0)) (fun i o=>o.length=nodN b∧∀ w,w < nodN b → -A - (i:Int)≤o.getD w 0∧o.getD w 0≤A) (J:=fun s=>u101J4 n g3 (l++[v],s)) (F:=u101L5 (viewV b,lv) (idxV p (linksV b).length) n l v g3) (fun g i o hi ho=>?_) (fun i o hi ho=>?_) (fun g s _=>if_neg (by simp)) _ ⟨ol,fun w hw=>by have:=olo w hw; omega⟩
 ·have e3:((i:Int)).toNat=i:=rfl
  obtain ⟨ol,ob⟩:=ho
  have hk:=filt_lt (p:=p) (M:=(linksV b).length) (i:=i) (by omega)
  refine (if_pos (decide_eq_true (by omega))).trans ?_
  refine (gd_pos ⟨⟨by omega,by omega⟩,by omega,trivial⟩).trans ?_
  rw [e3,idxV_get]
  generalize ((List.range (linksV b).length).filter p).getD i 0=k at hk
  obtain ⟨f1,f2,f3,f4⟩:=frto b hb hk
  have hx:ix ((k:Nat):Int) (viewV b).2.2.1.length:=⟨by omega,by show ((k:Nat):Int) < ((linksV b).length:Int); omega⟩
  have hv:=ob (toN b k) f4
  have e5:((viewV b).2.2.1.getD (Int.toNat ((k:Nat):Int)) (dflt y107)).2.1=(toN b k:Int):=f2
  have e6:Int.toNat ((toN b k:Nat):Int)=toN b k:=rfl
  rw [e5,e6]
  refine (gd_pos ⟨hx,⟨by omega,by omega⟩,by omega,⟨by omega,by omega⟩,⟨by omega,by omega⟩,by omega,trivial⟩).trans ?_
  rw [lt_eq]
  exact gd_pos ⟨⟨by omega,by omega⟩,trivial⟩
 ·obtain ⟨ol,ob⟩:=ho
  have hk:=filt_lt (p:=p) (M:=(linksV b).length) (i:=i) (by omega)
  obtain ⟨f1,f2,f3,f4⟩:=frto b hb hk
  refine ⟨set_len ol,fun w hw=>?_⟩
  unfold decO
  rw [set_get _ (by omega)]
  have h1:=ob w hw
  have h2:=ob _ f4
  split <;> omega
def ordB (b:Y46) (lv:List Bool) (out:List Nat) (k:Nat):Option (List Nat):=ordGo (linksV b).length (nodN b) (frN b) (toN b) (fun i=>lv.getD i false) k out
theorem ordGo_succ (M N:Nat) (fr to:Nat→Nat) (lv:Nat→Bool) (k:Nat) (out:List Nat):ordGo M N fr to lv (k+1) out=match nextV M N fr to lv out with | none=>none | some v=>ordGo M N fr to lv k (out++[v]):=rfl
theorem r101 (hb:blockOk b=true) {lv:List Bool} (hlv:lv.length=(linksV b).length):u101 (viewV b,lv)=some (ordRes (ordB b lv [] (nodN b))):=by
 have hM:=links_len hb
 have hN:=nod_le b hb
 have ht:∀ i,i < (linksV b).length→toN b i < nodN b:=fun i hi=>(frto b hb hi).2.2.2
 unfold u101
 rw [r86 b hb,vl_some,gd_pos ⟨rfl,⟨by omega,rfl,by rw [Int.toNat_natCast]; omega,by omega⟩,trivial⟩,lt_eq,r126T hb hlv,vl_some,gd_pos ⟨rfl,trivial⟩,lt_eq,Int.toNat_natCast,r101L1 hb]
 have hO:((List.range (linksV b).length).filter fun i=>lv.getD i false).foldl (incO (toN b)) (List.replicate (nodN b) 0)=openV (linksV b).length (nodN b) (frN b) (toN b) (fun i=>lv.getD i false) []:=rfl
 rw [hO]
 have hl0:(openV (linksV b).length (nodN b) (frN b) (toN b) (fun i=>lv.getD i false) []).length=nodN b:=(oinv_0 (fr:=frN b) ht).len
 generalize hv6:openV (linksV b).length (nodN b) (frN b) (toN b) (fun i=>lv.getD i false) []=v6 at hl0
 rw [u101J0]
 have key:=lp_run (n:=nodN b) (by omega) (fun i (out:List Nat)=>(out.map (fun v:Nat=>(v:Int)),(i:Int),openV (linksV b).length (nodN b) (frN b) (toN b) (fun i=>lv.getD i false) out))
  (fun _ out=>(nextV (linksV b).length (nodN b) (frN b) (toN b) (fun i=>lv.getD i false) out).map fun v=>out++[v]) (fun _ _=>some ([],false))
  (fun i out=>out.length=i∧OInv (linksV b).length (nodN b) (frN b) (toN b) (fun i=>lv.getD i false) out (openV (linksV b).length (nodN b) (frN b) (toN b) (fun i=>lv.getD i false) out))
  (J:=fun out=>some (out.map (fun v:Nat=>(v:Int)),true)) (F:=u101L3 (viewV b,lv) v6)
  (fun g i out hi ho=>by
    obtain ⟨h1,h2⟩:=ho
    have e3:((i:Int)).toNat=i:=rfl
    refine (if_pos (decide_eq_true (by omega))).trans ?_
    rw [r150 _ (by rw [h2.len]; omega),oinv_next h2,vl_some]
    refine (gd_pos ⟨rfl,trivial⟩).trans ?_
    rw [lt_eq]
    cases hn:nextV (linksV b).length (nodN b) (frN b) (toN b) (fun i=>lv.getD i false) out with
    | none=>rfl
    | some v =>
      obtain ⟨n1,n2⟩:=next_ok hn
      have ev:((v:Int)).toNat=v:=rfl
      dsimp only
      refine (if_neg (by simp)).trans ?_
      refine (gd_pos ⟨⟨by omega,by rw [h2.len]; omega⟩,by rw [h2.len]; omega,trivial⟩).trans ?_
      refine (gd_pos ⟨⟨by simp only [List.length_singleton,List.length_map]; omega,by simp only [List.length_singleton,List.length_map]; omega⟩,trivial⟩).trans ?_
      show gd ((u113 (viewV b,lv) (v:Int)).isSome=true∧True) (lt (vl (u113 (viewV b,lv) (v:Int))) fun v19=>lp (u101L5 (viewV b,lv) v19 (i:Int) (out.map fun v:Nat=>(v:Int)) (v:Int) g) (0,(openV (linksV b).length (nodN b) (frN b) (toN b) (fun i=>lv.getD i false) out).set v (-1)))=g ((out++[v]).map (fun v:Nat=>(v:Int)),(((i+1:Nat)):Int),openV (linksV b).length (nodN b) (frN b) (toN b) (fun i=>lv.getD i false) (out++[v]))
      rw [r113 hb hlv,vl_some,gd_pos ⟨rfl,trivial⟩,lt_eq]
      have hle:(out.length:Int)*((linksV b).length:Int)≤1000000*6000:=Int.mul_le_mul (by omega) (by omega) (by omega) (by decide)
      rw [r101L5 hb (A:=6000000001) (by decide) (by decide) (set_len h2.len) (fun w hw=>by
       rw [set_get _ (by rw [h2.len]; exact n1)]
       have a1:=h2.lo w hw
       have a2:=h2.hi w hw
       split <;> omega)]
      rw [openV_app,List.map_append]
      exact gd_pos ⟨⟨by omega,by omega⟩,trivial⟩)
  (fun i out out' hi ho he=>by
    obtain ⟨h1,h2⟩:=ho
    cases hn:nextV (linksV b).length (nodN b) (frN b) (toN b) (fun i=>lv.getD i false) out with
    | none=>rw [hn] at he; cases he
    | some v =>
      rw [hn] at he
      cases he
      obtain ⟨n1,n2⟩:=next_ok hn
      refine ⟨by simp [h1],?_⟩
      rw [openV_app]
      exact oinv_step ht h2 n1 n2)
  (fun g out ho=>by
    refine (if_neg ?_).trans rfl
    simp [hl0])
  (fun i out=>some (ordRes (ordB b lv out (nodN b - i)))) (fun out _=>by
    rw [Nat.sub_self]; rfl)
  (fun i out hi ho=>by
    have e:nodN b - i=(nodN b - (i+1))+1:=by omega
    show some (ordRes (ordGo _ _ _ _ _ (nodN b - i) out))=_
    rw [e,ordGo_succ]
    cases nextV (linksV b).length (nodN b) (frN b) (toN b) (fun i=>lv.getD i false) out <;> rfl)
  0 (Nat.zero_le _) [] ⟨rfl,oinv_0 ht⟩
 rw [hv6] at key
 exact key
end
end Go.Proofs.YthobjlocnkienaaGreatDoor
end
section
/- The order of the nodes of a graph: the other loop; whether there is a loop. -/
namespace Go.Proofs.YthobjlocnkienaaGreatDoor
open Go Go.Proofs Go.Proofs.Sv Go.Proofs.Xv Go.Proofs.Xl Go.Proofs.Xd
section
variable {b:Y46}
theorem r98 (hb:blockOk b=true) {lv:List Bool} (hlv:lv.length=(linksV b).length):u98 (nodN b:Int) (linksV b) lv=some (ordRes (ordB b lv [] (nodN b))):=by
 have hM:=links_len hb
 have hN:=nod_le b hb
 have ht:∀ i,i < (linksV b).length→toN b i < nodN b:=fun i hi=>(frto b hb hi).2.2.2
 have hN0:((nodN b:Int)).toNat=nodN b:=rfl
 unfold u98
 rw [hN0]
 refine (gd_pos ⟨⟨by omega,rfl,by omega,by omega⟩,trivial⟩).trans ?_
 exact lp_run (n:=nodN b) (by omega) (fun _ (out:List Nat)=>(listV (nodN b) out,out.map (fun v:Nat=>(v:Int))))
  (fun _ out=>(nextV (linksV b).length (nodN b) (frN b) (toN b) (fun i=>lv.getD i false) out).map fun v=>out++[v]) (fun _ _=>some ([],false))
  (fun i out=>out.length=i∧∀ v∈out,v < nodN b)
  (J:=fun out=>some (out.map (fun v:Nat=>(v:Int)),true)) (F:=u98L1 (linksV b) lv (nodN b:Int))
  (fun g i out hi ho=>by
    obtain ⟨h1,h2⟩:=ho
    have ls:=fun w=>listV_get h2 w
    refine (if_pos (decide_eq_true (by rw [List.length_map]; omega))).trans ?_
    rw [hN0]
    refine (gd_pos ⟨⟨by omega,rfl,by omega,by omega⟩,trivial⟩).trans ?_
    refine (lp_fold (n:=(linksV b).length) (by omega) (fun k (w:List Bool)=>((k:Int),w)) (waitS (frN b) (toN b) (fun i=>lv.getD i false) out) (fun _ w=>w.length=nodN b) (J:=fun w=>u98J2 (listV (nodN b) out) (out.map fun v:Nat=>(v:Int)) (nodN b:Int) g w) (F:=u98L3 (linksV b) lv (listV (nodN b) out) (out.map fun v:Nat=>(v:Int)) (nodN b:Int) g) (fun g3 k w hk hw=>?_) (fun k w _ hw=>?_) (fun g3 w _=>if_neg (by simp)) (List.replicate (nodN b) false) List.length_replicate).trans ?_
    ·have e3:((k:Int)).toNat=k:=rfl
     obtain ⟨f1,f2,f3,f4⟩:=frto b hb hk
     have e4:Int.toNat ((frN b k:Nat):Int)=frN b k:=rfl
     have e5:Int.toNat ((toN b k:Nat):Int)=toN b k:=rfl
     have l1:=(ls (frN b k)).1
     refine (if_pos (decide_eq_true (by omega))).trans ?_
     rw [e3,f1,f2,e4,e5,(ls (frN b k)).2]
     refine (gd_pos ⟨⟨by omega,by omega⟩,(fun _=>⟨by omega,by omega⟩),(fun _=>⟨by omega,by omega⟩),(fun _=>by omega),trivial⟩).trans ?_
     unfold waitS
     by_cases hc:(lv.getD k false&&!out.contains (frN b k))=true
     ·rw [if_pos hc,if_pos hc]
      refine (gd_pos ⟨⟨by omega,by omega⟩,⟨by omega,by omega⟩,by omega,trivial⟩).trans ?_
      exact gd_pos ⟨⟨by omega,by omega⟩,trivial⟩
     ·rw [if_neg hc,if_neg hc]
      exact gd_pos ⟨⟨by omega,by omega⟩,trivial⟩
    ·unfold waitS
     split
     ·rw [List.length_set]; exact hw
     ·exact hw
    ·show u98J2 _ _ _ g _=_
     rw [u98J2,← wait_next (lv:=fun i=>lv.getD i false) (fr:=frN b) ht h2]
     have wl:=(wait_get (fr:=frN b) (lv:=fun i=>lv.getD i false) ht out 0 _ (Nat.le_refl _)).1
     generalize foldN (waitS (frN b) (toN b) (fun i=>lv.getD i false) out) (linksV b).length (List.replicate (nodN b) false)=w at wl
     have l1:=(ls 0).1
     have key:=lp_any (n:=nodN b) (by omega) (fun v=>!((listV (nodN b) out).getD v false||w.getD v false)) (fun v=>u98J5 (listV (nodN b) out) (out.map fun v:Nat=>(v:Int)) (nodN b:Int) g (v:Int)) (e:=some ([],false)) (F:=u98L6 (listV (nodN b) out) (out.map fun v:Nat=>(v:Int)) (nodN b:Int) w g) 0 (Nat.zero_le _) (fun g6 v _ hv=>by
      have e3:((v:Int)).toNat=v:=rfl
      have ed:decide ((v:Int) < (nodN b:Int))=true:=decide_eq_true (by omega)
      refine (gd_pos ⟨(fun _=>⟨by omega,by omega⟩),(fun _=>by omega),(fun _=>⟨by omega,by omega⟩),(fun _=>by omega),trivial⟩).trans ?_
      rw [e3,ed,Bool.true_and]
      by_cases hc:((listV (nodN b) out).getD v false||w.getD v false)=true
      ·rw [if_pos hc,if_neg (by rw [hc]; decide)]
       exact gd_pos ⟨⟨by omega,by omega⟩,trivial⟩
      ·rw [if_neg hc,if_pos (by rw [Bool.eq_false_iff.2 hc]; rfl)]) (fun g6=>by
      have ed:decide ((nodN b:Int) < (nodN b:Int))=false:=decide_eq_false (by omega)
      refine (gd_pos ⟨(fun h=>by rw [ed] at h; cases h.1),(fun h=>by rw [ed] at h; cases h.1),(fun h=>by rw [ed] at h; cases h.2.1),(fun h=>by rw [ed] at h; cases h.2.1),trivial⟩).trans ?_
      rw [ed,Bool.false_and]
      refine (if_neg (by decide)).trans ?_
      rw [u98J5]
      exact if_pos (beq_self_eq_true _))
     rw [Nat.sub_zero,← List.range_eq_range'] at key
     refine Eq.trans key ?_
     cases hn:(List.range (nodN b)).find? fun v=>!((listV (nodN b) out).getD v false||w.getD v false) with
     | none=>rfl
     | some v =>
       have hv:=List.mem_range.1 (List.mem_of_find?_eq_some hn)
       have e3:((v:Int)).toNat=v:=rfl
       show u98J5 (listV (nodN b) out) (out.map fun v:Nat=>(v:Int)) (nodN b:Int) g (v:Int)=g (listV (nodN b) (out++[v]),(out++[v]).map fun v:Nat=>(v:Int))
       rw [u98J5,listV_app,List.map_append]
       refine (if_neg (by rw [beq_iff_eq]; omega)).trans ?_
       refine (gd_pos ⟨⟨by omega,by omega⟩,by omega,trivial⟩).trans ?_
       exact gd_pos ⟨⟨by simp only [List.length_singleton,List.length_map]; omega,by simp only [List.length_singleton,List.length_map]; omega⟩,trivial⟩)
  (fun i out out' hi ho he=>by
    obtain ⟨h1,h2⟩:=ho
    cases hn:nextV (linksV b).length (nodN b) (frN b) (toN b) (fun i=>lv.getD i false) out with
    | none=>rw [hn] at he; cases he
    | some v =>
      rw [hn] at he
      cases he
      obtain ⟨n1,n2⟩:=next_ok hn
      refine ⟨by simp [h1],fun w hw=>?_⟩
      rcases List.mem_append.1 hw with hw | hw
      ·exact h2 w hw
      ·cases List.mem_singleton.1 hw; exact n1)
  (fun g out ho=>by
    refine (if_neg ?_).trans rfl
    simp [ho.1])
  (fun i out=>some (ordRes (ordB b lv out (nodN b - i)))) (fun out _=>by
    rw [Nat.sub_self]; rfl)
  (fun i out hi ho=>by
    have e:nodN b - i=(nodN b - (i+1))+1:=by omega
    show some (ordRes (ordGo _ _ _ _ _ (nodN b - i) out))=_
    rw [e,ordGo_succ]
    cases nextV (linksV b).length (nodN b) (frN b) (toN b) (fun i=>lv.getD i false) out <;> rfl)
  0 (Nat.zero_le _) [] ⟨rfl,fun v hv=>nomatch hv⟩
theorem live_len (M:Nat) (br:List Int):(liveV M br).length=M:=appF_len _ _
end
def codeG (b:Y46) (br:List Int):Int:=if blockOk b=true then (if brokB (linksV b).length br=true then 0 else 2) else 1
theorem r53 (b:Y46) (hw:wf y46 b) (hm:cnt y46 b≤1048576) (br:List Int) (hl:br.length≤1048576):u53 b br=some (codeG b br):=by
 unfold u53 codeG
 rw [r66 b hw hm,vl_some,gd_pos ⟨rfl,trivial⟩]
 cases hb:blockOk b with
 | false=>rfl
 | true =>
   have hM:=links_len hb
   refine (if_neg (by simp)).trans ?_
   rw [r59 b hw hb,vl_some,r97 _ br (by omega) hl,gd_pos ⟨rfl,rfl,trivial⟩,lt_eq,r97 _ br (by omega) hl,vl_some]
   cases brokB (linksV b).length br <;> rfl
theorem r56 (b:Y46) (hw:wf y46 b) (hm:cnt y46 b≤1048576) (br:List Int) (hl:br.length≤1048576):u56 b br=some (if codeG b br=0 then .inr ((viewV b,liveV (linksV b).length br),0) else .inl (codeG b br)):=by
 unfold u56 codeG
 rw [r69 b hw hm,vl_some,gd_pos ⟨rfl,trivial⟩]
 cases hb:blockOk b with
 | false=>rfl
 | true =>
   refine (if_neg (by simp)).trans ?_
   rw [r70 b hw hb,vl_some,gd_pos ⟨rfl,trivial⟩,lt_eq,r99 hb br hl,vl_some,gd_pos ⟨rfl,trivial⟩]
   cases hr:brokB (linksV b).length br with
   | false=>rfl
   | true =>
     refine (if_neg (by simp)).trans ?_
     rw [r100 hb hr hl,vl_some,gd_pos ⟨rfl,trivial⟩,lt_eq]
     rfl
end Go.Proofs.YthobjlocnkienaaGreatDoor
end
section
/- A code that says that all is well. -/
namespace Go.Proofs.YthobjlocnkienaaGreatDoor
open Go Go.Proofs Go.Proofs.Sv Go.Proofs.Xv Go.Proofs.Xl Go.Proofs.Xd
theorem codeG_ok {b:Y46} {br:List Int} (h:codeG b br=0):blockOk b=true∧brokB (linksV b).length br=true:=by
 unfold codeG at h
 split at h
 ·rename_i hb
  split at h
  ·rename_i hr; exact ⟨hb,hr⟩
  ·cases h
 ·cases h
end Go.Proofs.YthobjlocnkienaaGreatDoor
end
section
/- Whether there is a loop: both ways say the same. -/
namespace Go.Proofs.YthobjlocnkienaaGreatDoor
open Go Go.Proofs Go.Proofs.Sv Go.Proofs.Xv Go.Proofs.Xl Go.Proofs.Xd
section
variable {b:Y46}
def loopB (b:Y46) (br:List Int):Bool:=!(ordRes (ordB b (liveV (linksV b).length br) [] (nodN b))).2
theorem r57 (hb:blockOk b=true) (br:List Int):u57 (viewV b,liveV (linksV b).length br)=some (loopB b br):=by
 unfold u57
 rw [r101 hb (live_len _ _),vl_some,gd_pos ⟨rfl,trivial⟩,lt_eq]
 rfl
theorem r54 (hw:wf y46 b) (hb:blockOk b=true) (br:List Int) (hl:br.length≤1048576):u54 b br=some (loopB b br):=by
 have hM:=links_len hb
 unfold u54
 rw [r59 b hw hb,vl_some,gd_pos ⟨rfl,trivial⟩,lt_eq,r61 b hw hb,vl_some,r62 _ _ (by omega) hl,vl_some,r98 hb (live_len _ _),vl_some]
 refine (gd_pos ⟨rfl,rfl,rfl,trivial⟩).trans ?_
 rfl
end
end Go.Proofs.YthobjlocnkienaaGreatDoor
end
section
/- Lists of broken links without one of them. -/
namespace Go.Proofs.YthobjlocnkienaaGreatDoor
open Go Go.Proofs Go.Proofs.Sv Go.Proofs.Xv Go.Proofs.Xl Go.Proofs.Xd
def woV (l:List Int) (i:Nat):List Int:=l.take i++l.drop (i+1)
theorem r55 (l:List Int) {i:Nat} (h:i < l.length) (hl:l.length≤1048576):u55 l (i:Int)=some (woV l i):=by
 have e3:((i:Int)).toNat=i:=rfl
 have e4:((i:Int)+1).toNat=i+1:=rfl
 have l1:(l.take i).length≤1048576:=by rw [List.length_take]; omega
 have l2:(l.drop (i+1)).length≤1048576:=by rw [List.length_drop]; omega
 unfold u55
 rw [e3,e4,List.nil_append]
 exact gd_pos ⟨⟨by omega,by omega,by omega⟩,⟨by omega,by omega⟩,⟨by omega,by omega⟩,⟨by omega,by omega,by omega⟩,⟨by omega,by omega⟩,trivial⟩
theorem has_iff {l:List Int} {x:Int}:hasB l x=true↔x∈l:=by
 unfold hasB
 rw [List.any_eq_true]
 constructor
 ·rintro ⟨j,hj,he⟩
  rw [← eq_of_beq he]
  exact getD_mem (List.mem_range.1 hj)
 ·intro h
  obtain ⟨j,hj,rfl⟩:=List.getElem_of_mem h
  exact ⟨j,List.mem_range.2 hj,by rw [List.getD_eq_getElem?_getD,List.getElem?_eq_getElem hj]; exact beq_self_eq_true _⟩
theorem inc_lt {l:List Int} (h:incB l=true):∀ k j,j < k→k < l.length→l.getD j 0 < l.getD k 0:=by
 unfold incB at h
 rw [Bool.not_eq_true',← Bool.not_eq_true,List.any_eq_true] at h
 have st:∀ k,0 < k→k < l.length→l.getD (k - 1) 0 < l.getD k 0:=fun k h0 hk=>by
  refine Int.not_le.1 (fun hc=>h ⟨k,List.mem_range.2 hk,?_⟩)
  rw [Bool.and_eq_true]
  exact ⟨decide_eq_true h0,decide_eq_true hc⟩
 intro k
 induction k with
 | zero=>intro j hj; omega
 | succ k ih =>
   intro j hj hk
   have h1:=st (k+1) (by omega) hk
   rw [Nat.add_sub_cancel] at h1
   by_cases e:j=k
   ·subst e; exact h1
   ·have:=ih j (by omega) (by omega)
    omega
theorem wo_has {l:List Int} (h:incB l=true) {i:Nat} (hi:i < l.length) (x:Int):hasB (woV l i) x=(hasB l x&&!(x==l.getD i 0)):=by
 have ei:l.getD i 0=l[i]:=by rw [List.getD_eq_getElem?_getD,List.getElem?_eq_getElem hi]; rfl
 have e:l=l.take i++l.getD i 0 :: l.drop (i+1):=by
  rw [ei,← List.drop_eq_getElem_cons hi,List.take_append_drop]
 rw [Bool.eq_iff_iff,Bool.and_eq_true,has_iff,has_iff,Bool.not_eq_true',← Bool.not_eq_true,beq_iff_eq]
 unfold woV
 rw [List.mem_append]
 constructor
 ·rintro (hm | hm)
  ·obtain ⟨j,hj,rfl⟩:=List.getElem_of_mem hm
   rw [List.length_take] at hj
   rw [List.getElem_take]
   refine ⟨List.getElem_mem _,?_⟩
   have:=inc_lt h i j (by omega) hi
   rw [List.getD_eq_getElem?_getD,List.getElem?_eq_getElem (by omega:j < l.length)] at this
   have this:l[j] < l.getD i 0:=this
   omega
  ·obtain ⟨j,hj,rfl⟩:=List.getElem_of_mem hm
   rw [List.length_drop] at hj
   rw [List.getElem_drop]
   refine ⟨List.getElem_mem _,?_⟩
   have:=inc_lt h (i+1+j) i (by omega) (by omega)
   have e2:l.getD (i+1+j) 0=l[i+1+j]:=by rw [List.getD_eq_getElem?_getD,List.getElem?_eq_getElem (by omega:i+1+j < l.length)]; rfl
   omega
 ·rintro ⟨hm,hn⟩
  rw [e] at hm
  rcases List.mem_append.1 hm with hm | hm
  ·exact .inl hm
  ·rcases List.mem_cons.1 hm with hm | hm
   ·exact (hn hm).elim
   ·exact .inr hm
theorem live_get {M:Nat} (br:List Int) {k:Nat} (hk:k < M):(liveV M br).getD k false=!hasB br (k:Int):=appF_get (fun k=>!hasB br (k:Int)) false _ k hk
theorem live_set {M:Nat} {br:List Int} (h:brokB M br=true) {i:Nat} (hi:i < br.length):0≤br.getD i 0∧(br.getD i 0).toNat < M∧(liveV M br).set (br.getD i 0).toNat true=liveV M (woV br i)∧(liveV M (woV br i)).set (br.getD i 0).toNat false=liveV M br:=by
 unfold brokB at h
 rw [Bool.and_eq_true] at h
 have hin:=inB_iff.1 (all_getD h.1 hi)
 have hlt:(br.getD i 0).toNat < M:=by omega
 have hmem:hasB br (br.getD i 0)=true:=has_iff.2 (getD_mem hi)
 have l1:=live_len M br
 have l2:=live_len M (woV br i)
 refine ⟨hin.1,hlt,list_eq false (by rw [List.length_set,l1,l2]) (fun k hk=>?_),list_eq false (by rw [List.length_set,l1,l2]) (fun k hk=>?_)⟩
 ·rw [List.length_set,l1] at hk
  rw [setB_get _ (by rw [l1]; exact hlt),live_get _ hk,live_get _ hk,wo_has h.2 hi]
  by_cases e:k=(br.getD i 0).toNat
  ·have e2:((k:Nat):Int)=br.getD i 0:=by omega
   rw [if_pos e,e2,beq_self_eq_true,Bool.not_true,Bool.and_false,Bool.not_false]
  ·have e2:(((k:Nat):Int)==br.getD i 0)=false:=beq_eq_false_iff_ne.2 (by omega)
   rw [if_neg e,e2,Bool.not_false,Bool.and_true]
 ·rw [List.length_set,l2] at hk
  rw [setB_get _ (by rw [l2]; exact hlt),live_get _ hk,live_get _ hk,wo_has h.2 hi]
  by_cases e:k=(br.getD i 0).toNat
  ·have e2:((k:Nat):Int)=br.getD i 0:=by omega
   rw [if_pos e,e2,hmem]
   rfl
  ·have e2:(((k:Nat):Int)==br.getD i 0)=false:=beq_eq_false_iff_ne.2 (by omega)
   rw [if_neg e,e2,Bool.not_false,Bool.and_true]
end Go.Proofs.YthobjlocnkienaaGreatDoor
end
section
/- Links that are made live again as far as possible: both ways. -/
namespace Go.Proofs.YthobjlocnkienaaGreatDoor
open Go Go.Proofs Go.Proofs.Sv Go.Proofs.Xv Go.Proofs.Xl Go.Proofs.Xd
theorem getD_at {l:List Int} {j:Nat} (hj:j < l.length):l.getD j 0=l[j]:=by rw [List.getD_eq_getElem?_getD,List.getElem?_eq_getElem hj]; rfl
theorem inc_pw {l:List Int} (h:incB l=true):l.Pairwise (· < ·):=List.pairwise_iff_getElem.2 fun i j hi hj hij=>by
 have:=inc_lt h j i hij hj
 rw [getD_at hi,getD_at hj] at this
 exact this
theorem pw_inc {l:List Int} (h:l.Pairwise (· < ·)):incB l=true:=by
 unfold incB
 rw [Bool.not_eq_true',← Bool.not_eq_true,List.any_eq_true]
 rintro ⟨i,hi,hc⟩
 rw [List.mem_range] at hi
 rw [Bool.and_eq_true] at hc
 have h0:=of_decide_eq_true hc.1
 have h1:=of_decide_eq_true hc.2
 have:=List.pairwise_iff_getElem.1 h (i - 1) i (by omega) hi (by omega)
 rw [getD_at hi,getD_at (show i - 1 < l.length by omega)] at h1
 omega
theorem brok_sub {M:Nat} {l k:List Int} (h:brokB M l=true) (hs:k.Sublist l):brokB M k=true:=by
 unfold brokB at h ⊢
 rw [Bool.and_eq_true] at h ⊢
 refine ⟨?_,pw_inc ((inc_pw h.2).sublist hs)⟩
 rw [List.all_eq_true] at h ⊢
 exact fun x hx=>h.1 x (hs.subset hx)
def rstF (b:Y46) (br:List Int) (j:Nat) (k:List Int):List Int:=if loopB b (k++br.drop (j+1))=true then k++[br.getD j 0] else k
theorem cur_eq {br:List Int} {j:Nat} (hj:j < br.length) (k:List Int):k++br.drop j=k++br.getD j 0 :: br.drop (j+1):=by
 rw [List.drop_eq_getElem_cons hj,getD_at hj]
theorem cur_at {br:List Int} {j:Nat} (hj:j < br.length) (k:List Int):(k++br.drop j).getD k.length 0=br.getD j 0:=by
 rw [cur_eq hj,List.getD_eq_getElem?_getD,List.getElem?_append_right (Nat.le_refl _),Nat.sub_self]
 rfl
theorem cur_wo {br:List Int} {j:Nat} (hj:j < br.length) (k:List Int):woV (k++br.drop j) k.length=k++br.drop (j+1):=by
 unfold woV
 rw [cur_eq hj,List.take_left,List.drop_append,List.drop_eq_nil_of_le (by omega),List.nil_append,Nat.add_sub_cancel_left]
 rfl
def rstI (b:Y46) (br:List Int) (j:Nat) (k:List Int):Prop:=brokB (linksV b).length (k++br.drop j)=true∧(k++br.drop j).length≤br.length
theorem rst_step {b:Y46} {br:List Int} {j:Nat} {k:List Int} (hj:j < br.length) (h:rstI b br j k):rstI b br (j+1) (rstF b br j k):=by
 unfold rstF
 split
 ·have e:k++[br.getD j 0]++br.drop (j+1)=k++br.drop j:=by rw [cur_eq hj,List.append_assoc]; rfl
  unfold rstI
  rw [e]
  exact h
 ·have hs:(k++br.drop (j+1)).Sublist (k++br.drop j):=by
   rw [cur_eq hj]
   exact List.Sublist.append_left (List.sublist_cons_self _ _) _
  exact ⟨brok_sub h.1 hs,Nat.le_trans hs.length_le h.2⟩
def rstV (b:Y46) (br:List Int):List Int:=foldN (rstF b br) br.length []
def rlF (b:Y46) (br:List Int):List Int×Int:=if codeG b br=0 then (if loopB b br=true then ([],7) else (rstV b br,0)) else ([],codeG b br)
theorem rst_le (b:Y46) (br:List Int):∀ n,n≤br.length→(foldN (rstF b br) n []).length≤n
 | 0,_=>Nat.le_refl _
 | n+1,h=>by
   have ih:=rst_le b br n (by omega)
   show (rstF b br n (foldN (rstF b br) n [])).length≤n+1
   generalize foldN (rstF b br) n []=k at ih ⊢
   unfold rstF
   split
   ·rw [List.length_append,List.length_singleton]; omega
   ·omega
theorem r22 (b:Y46) (hw:wf y46 b) (hm:cnt y46 b≤1048576) (br:List Int) (hl:br.length≤1048576):u22 b br=some (rlF b br):=by
 unfold u22 rlF
 rw [r53 b hw hm br hl,vl_some,gd_pos ⟨rfl,trivial⟩,lt_eq]
 by_cases h:codeG b br=0
 ·obtain ⟨hb,hr⟩:=codeG_ok h
  rw [h]
  refine (if_neg (by decide)).trans ?_
  rw [if_pos rfl,r54 hw hb br hl,vl_some,gd_pos ⟨rfl,trivial⟩]
  cases hlp:loopB b br with
  | true=>rfl
  | false =>
    refine (if_neg (by simp)).trans ?_
    rw [if_neg (by simp)]
    refine (gd_pos ⟨⟨by omega,by omega⟩,trivial⟩).trans ?_
    refine (lp_fold (n:=br.length) (by omega) (fun (j:Nat) (k:List Int)=>((k.length:Int),k++br.drop j)) (rstF b br) (rstI b br) (J:=fun k=>some (k,0)) (F:=u22L1 b) (fun g j k hj hI=>?_) (fun j k hj hI=>rst_step hj hI) (fun g k _=>?_) [] ⟨by simpa using hr,by simp⟩)
    ·obtain ⟨h1,h2⟩:=hI
     have hlen:(k++br.drop j).length=k.length+(br.length - j):=by rw [List.length_append,List.length_drop]
     have hk:k.length < (k++br.drop j).length:=by omega
     refine (if_pos (decide_eq_true (by omega))).trans ?_
     rw [r55 _ hk (by omega),vl_some,gd_pos ⟨rfl,trivial⟩,lt_eq,cur_wo hj]
     have hfl:(k++br.drop (j+1)).length≤1048576:=by rw [List.length_append,List.length_drop]; omega
     rw [r54 hw hb _ hfl,vl_some,gd_pos ⟨rfl,trivial⟩]
     unfold rstF
     cases hlq:loopB b (k++br.drop (j+1)) with
     | true =>
       refine (if_pos rfl).trans ?_
       refine (gd_pos ⟨⟨by omega,by omega⟩,trivial⟩).trans ?_
       refine congrArg g (Prod.ext ?_ ?_)
       ·show (k.length:Int)+1=(((if true=true then k++[br.getD j 0] else k).length:Nat):Int)
        rw [if_pos rfl,List.length_append,List.length_singleton]
        omega
       ·show k++br.drop j=(if true=true then k++[br.getD j 0] else k)++br.drop (j+1)
        rw [if_pos rfl,cur_eq hj,List.append_assoc]
        rfl
     | false=>exact if_neg (by simp)
    ·refine (if_neg ?_).trans ?_
     ·rw [decide_eq_true_eq,List.length_append,List.length_drop]; omega
     ·show some (k++br.drop br.length,(0:Int))=some (k,0)
      rw [List.drop_length,List.append_nil]
 ·rw [if_neg h]
  exact if_pos (by simp [h])
theorem r23 (b:Y46) (hw:wf y46 b) (hm:cnt y46 b≤1048576) (br:List Int) (hl:br.length≤1048576):u23 b br=some (rlF b br):=by
 have hn:=r56 b hw hm br hl
 by_cases h:codeG b br=0
 ·obtain ⟨hb,hr⟩:=codeG_ok h
  rw [if_pos h] at hn
  have hv:vR (u56 b br)=((viewV b,liveV (linksV b).length br),0):=by rw [hn]; rfl
  unfold u23 rlF
  rw [if_pos h]
  refine (if_neg (by rw [hn]; simp [isL])).trans ?_
  refine (gd_pos ⟨by rw [hn]; rfl,trivial⟩).trans ?_
  rw [hv]
  refine (if_neg (by show ¬ ((0:Int) != 0)=true; decide)).trans ?_
  show gd ((u57 (viewV b,liveV (linksV b).length br)).isSome=true∧True) (if vl (u57 (viewV b,liveV (linksV b).length br))=true then some ([],7) else lp (u23L1 br b) ([],0,liveV (linksV b).length br))=_
  rw [r57 hb br,vl_some,gd_pos ⟨rfl,trivial⟩]
  cases hlp:loopB b br with
  | true=>rfl
  | false =>
    refine (if_neg (by simp)).trans ?_
    rw [if_neg (by simp)]
    refine (lp_fold (n:=br.length) (by omega) (fun (j:Nat) (k:List Int)=>(k,(j:Int),liveV (linksV b).length (k++br.drop j))) (rstF b br) (fun j k=>rstI b br j k∧k.length≤j) (J:=fun k=>some (k,0)) (F:=u23L1 br b) (fun g j k hj hI=>?_) (fun j k hj hI=>⟨rst_step hj hI.1,?_⟩) (fun g k _=>all_end) [] ⟨⟨by simpa using hr,by simp⟩,Nat.le_refl _⟩)
    ·obtain ⟨⟨h1,h2⟩,h3⟩:=hI
     have hlen:(k++br.drop j).length=k.length+(br.length - j):=by rw [List.length_append,List.length_drop]
     have hk:k.length < (k++br.drop j).length:=by omega
     have e3:((j:Int)).toNat=j:=rfl
     obtain ⟨s1,s2,s3,s4⟩:=live_set h1 hk
     rw [cur_at hj] at s1 s2 s3 s4
     rw [cur_wo hj] at s3 s4
     have hll:=live_len (linksV b).length (k++br.drop j)
     have hll2:=live_len (linksV b).length (k++br.drop (j+1))
     refine (if_pos (by simpa using hj)).trans ?_
     refine (gd_pos ⟨⟨by omega,by omega⟩,trivial⟩).trans ?_
     rw [e3,hv]
     refine (gd_pos ⟨⟨s1,by omega⟩,by omega,trivial⟩).trans ?_
     rw [s3]
     have eh:u57 (((viewV b,liveV (linksV b).length br),(0:Int)).1.1,liveV (linksV b).length (k++br.drop (j+1)))=some (loopB b (k++br.drop (j+1))):=r57 hb _
     rw [eh,vl_some,gd_pos ⟨rfl,trivial⟩]
     unfold rstF
     cases hlq:loopB b (k++br.drop (j+1)) with
     | true =>
       refine (if_pos rfl).trans ?_
       refine (gd_pos ⟨⟨s1,by omega⟩,by omega,trivial⟩).trans ?_
       rw [lt_eq,s4]
       refine (gd_pos ⟨⟨by show k.length+1≤_; omega,by show (k.length+1)*8≤_; omega⟩,trivial⟩).trans ?_
       refine (gd_pos ⟨⟨by omega,by omega⟩,trivial⟩).trans ?_
       rw [if_pos rfl,cur_eq hj,List.append_assoc]
       rfl
     | false =>
       refine (if_neg (by simp)).trans ?_
       refine (gd_pos ⟨⟨by omega,by omega⟩,trivial⟩).trans ?_
       rw [if_neg (by simp)]
       rfl
    ·have h3:k.length≤j:=hI.2
     unfold rstF
     split
     ·rw [List.length_append,List.length_singleton]; omega
     ·omega
 ·rw [if_neg h] at hn
  unfold u23 rlF
  rw [if_neg h,hn]
  refine (if_pos rfl).trans ((gd_pos ⟨rfl,trivial⟩).trans ?_)
  exact if_pos (by show (codeG b br != 0)=true; simp [h])
theorem rlF_len (b:Y46) (br:List Int) (hl:br.length≤1048576):(rlF b br).1.length≤1048576:=by
 unfold rlF
 split
 ·split
  ·exact Nat.zero_le _
  ·exact Nat.le_trans (rst_le b br _ (Nat.le_refl _)) hl
 ·exact Nat.zero_le _
end Go.Proofs.YthobjlocnkienaaGreatDoor
end
section
/- Plain facts on marks: how many there are, what the held ones say. -/
namespace Go.Proofs.Xd
open Go Go.Proofs.Xl Go.Proofs.Xv
def wd:Ty→Nat
 | .pr a b=>wd a+wd b
 | .sl e=>wd e
 | .pt _=>0
 | _=>1
theorem cntM_le:∀ (t:Ty) (x:den t),cntM t x≤wd t*(1+cnt t x)
 | .int _,_=>by simp [cntM,wd]
 | .bool,_=>by simp [cntM,wd]
 | .str,_=>by simp [cntM,wd]
 | .pt _,_=>by simp [cntM]
 | .sl e,xs=>by
   have key:∀ l:List (den e),(l.map (cntM e)).sum≤wd e*(l.length+(l.map (cnt e)).sum):=by
    intro l
    induction l with
    | nil=>exact Nat.zero_le _
    | cons a r ih =>
      have h1:=cntM_le e a
      rw [List.map_cons,List.sum_cons,List.map_cons,List.sum_cons,List.length_cons]
      have e1:wd e*(r.length+1+(cnt e a+(r.map (cnt e)).sum))=wd e*(1+cnt e a)+wd e*(r.length+(r.map (cnt e)).sum):=by
       rw [← Nat.mul_add]; congr 1; omega
      omega
   refine Nat.le_trans (key xs) ?_
   show _≤wd e*(1+(xs.length+(xs.map (cnt e)).sum))
   exact Nat.mul_le_mul_left _ (by omega)
 | .pr a b,x=>by
   have h1:=cntM_le a x.1
   have h2:=cntM_le b x.2
   show cntM a x.1+cntM b x.2≤(wd a+wd b)*(1+(cnt a x.1+cnt b x.2))
   have h3:wd a*(1+cnt a x.1)≤wd a*(1+(cnt a x.1+cnt b x.2)):=Nat.mul_le_mul_left _ (by omega)
   have h4:wd b*(1+cnt b x.2)≤wd b*(1+(cnt a x.1+cnt b x.2)):=Nat.mul_le_mul_left _ (by omega)
   rw [Nat.add_mul]
   omega
theorem cntM_bd {t:Ty} {x:den t} {k:Nat} (h:cnt t x≤1048576) (hw:wd t≤k):(cntM t x:Int)≤(k*1048577:Nat):=by
 have h1:=cntM_le t x
 have h2:wd t*(1+cnt t x)≤k*1048577:=Nat.mul_le_mul hw (by omega)
 omega
theorem mkI_get:∀ (m:Nat) (k:Int) (i:Nat),i < m→(mkI k m).getD i 0=k+(i:Int)
 | m+1,k,0,_=>by simp [mkI]
 | m+1,k,i+1,h=>by
   rw [mkI,List.getD_cons_succ,mkI_get m (k+1) i (by omega)]
   omega
theorem fold_one:∀ n:Nat,foldN (fun _ (v:Int)=>v+1) n 1=1+((1*n:Nat):Int)
 | 0=>rfl
 | n+1=>by rw [foldN,fold_one n]; omega
end Go.Proofs.Xd
end
section
/- Links made live again: what the law asks of its functions. -/
namespace Go.Proofs.YthobjlocnkienaaGreatDoor
open Go Go.Proofs Go.Proofs.Sv Go.Proofs.Xv Go.Proofs.Xl Go.Proofs.Xd
theorem r19 (n:Nat) (hn:n≤4611686018427387904):u19 (mkI 1 n) (1:Int)=some (1+((1*n:Nat):Int)):=by
 have hl:=mkI_len n 1
 rw [← fold_one n]
 refine lp_fold (n:=n) (by omega) (fun i (s:Int)=>(s,(i:Int))) (fun _ s=>s+1) (fun i s=>s=1+(i:Int)) (J:=u19J0) (F:=u19L1 (mkI 1 n)) (fun g i s hi hs=>?_) (fun i s hi hs=>by subst hs; omega) (fun g s _=>if_neg (by rw [hl]; simp)) _ rfl
 subst hs
 refine (if_pos (decide_eq_true (by rw [hl]; omega))).trans ?_
 refine (gd_pos ⟨⟨by omega,by rw [hl]; omega⟩,trivial⟩).trans ?_
 have e:(i:Int).toNat=i:=rfl
 rw [e,mkI_get n 1 i hi]
 refine (if_neg (by simp)).trans ?_
 refine (gd_pos ⟨⟨by omega,by omega⟩,trivial⟩).trans ?_
 exact gd_pos ⟨⟨by omega,by omega⟩,trivial⟩
theorem cnt_len {br:List Int} (h:br.length≤1048576):cnt (.sl (.int .i64)) br≤1048576:=by
 have e:cnt (.sl (.int .i64)) br=br.length+0:=cnt_ints
 omega
theorem r5 (b:Y32) (br:List Int) (hw:wf y32 b) (hbr:wf (.sl (.int .i64)) br):G5 b br:=by
 refine ⟨_,z10 b 1048576 hw (by decide) (by decide),fun h0 hl=>?_⟩
 have hm:cnt y32 b≤1048576:=by
  unfold szN at h0
  split at h0 <;> omega
 have hcl:=cnt_len hl
 have hr:=rlF_len b br hl
 have k1:=cntM_bd (t:=y46) (x:=b) (k:=64) hm (by decide)
 have k2:=cntM_bd (t:=.sl (.int .i64)) (x:=br) (k:=64) hcl (by decide)
 exact ⟨(rlF b br).1,(rlF b br).2,⟨w12 b hm,w13 br hcl,r22 b hw hm br hl,r23 b hw hm br hl,e15 _ (cnt_len hr),e16 b hm,e15 br hcl,by omega,by omega,by omega,r19 _ (by omega)⟩⟩
end Go.Proofs.YthobjlocnkienaaGreatDoor
end

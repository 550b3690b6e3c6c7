/- The links from a node and those to it: what both say. -/
import Derived.Test.YtgmpfbpemmohnaaGreatDoorWF
import Derived.Test.YtgmpfbpemmohnaaGreatDoorXK
import Derived.Test.YtgmpfbpemmohnaaGreatDoorXF
import Derived.Test.YtgmpfbpemmohnaaGreatDoorGn18
import Derived.Test.YtgmpfbpemmohnaaGreatDoorWB
section
/- The links from a node and those to it: what both say. -/
namespace Go.Proofs.YtgmpfbpemmohnaaGreatDoor
open Go Go.Proofs Go.Proofs.Sv Go.Proofs.Xv Go.Proofs.Xl Go.Proofs.Xd
section
variable {b:Y46}
theorem r25L (hb:blockOk b=true) (br:List Int) (hl:br.length≤1048576) (a:Nat):lp (u25L1 (linksV b) (a:Int) br) (0,[])=some (idxV (fun i=>(liveV (linksV b).length br).getD i false&&toN b i==a) (linksV b).length,0):=by
 have hM:=links_len hb
 refine (lp_fold (n:=(linksV b).length) (by omega) (fun i (s:List Int)=>((i:Int),s)) (fun i s=>if ((liveV (linksV b).length br).getD i false&&toN b i==a)=true then s++[(i:Int)] else s) (fun i s=>s.length≤i) (J:=fun s=>some (s,0)) (F:=u25L1 (linksV b) (a:Int) br) (fun g i s hi hs=>?_) (fun i s _ hs=>?_) (fun g s _=>if_neg (by simp)) [] (Nat.le_refl _)).trans (congrArg (fun l=>some (l,(0:Int))) (idxV_fold _ _))
 ·have e3:((i:Int)).toNat=i:=rfl
  refine (if_pos (decide_eq_true (by omega))).trans ?_
  rw [r54 br _ (by omega),vl_some,e3]
  refine (gd_pos ⟨⟨by omega,by omega⟩,hi,(fun _=>rfl),trivial⟩).trans ?_
  obtain ⟨_,f2,_⟩:=frto b hb hi
  have ef:(((linksV b).getD i (dflt y91)).2.1==(a:Int))=(toN b i==a):=by
   rw [f2,Bool.eq_iff_iff,beq_iff_eq,beq_iff_eq]; omega
  rw [ef,live_get br hi,Bool.and_comm]
  by_cases h:(!hasB br (i:Int)&&toN b i==a)=true
  ·rw [if_pos h,if_pos h]
   refine (gd_pos ⟨⟨by simp only [List.length_singleton]; omega,by simp only [List.length_singleton]; omega⟩,trivial⟩).trans ?_
   exact gd_pos ⟨⟨by omega,by omega⟩,trivial⟩
  ·rw [if_neg h,if_neg h]
   exact gd_pos ⟨⟨by omega,by omega⟩,trivial⟩
 ·show (if ((liveV (linksV b).length br).getD i false&&toN b i==a)=true then s++[(i:Int)] else s).length≤i+1
  split
  ·rw [List.length_append,List.length_singleton]; omega
  ·omega
end
def selF (b:Y46) (br:List Int) (a:Int) (f:Nat→Nat):List Int×Int:=if codeN b br a=0 then (idxV (fun i=>(liveV (linksV b).length br).getD i false&&f i==a.toNat) (linksV b).length,0) else ([],codeN b br a)
theorem selF_len (b:Y46) (br:List Int) (a:Int) (f:Nat→Nat):(selF b br a f).1.length≤1048576:=by
 unfold selF
 split
 ·rename_i h
  have hM:=links_len (codeG_ok (codeN_ok h).1).1
  have:=(idxV_len (fun i=>(liveV (linksV b).length br).getD i false&&f i==a.toNat) (linksV b).length).1
  show (idxV _ _).length≤_
  omega
 ·exact Nat.zero_le _
theorem r26 (b:Y46) (hw:wf y46 b) (hm:cnt y46 b≤1048576) (br:List Int) (hl:br.length≤1048576) (a:Int):u26 b br a=some (selF b br a (toN b)):=by
 unfold u26 selF
 rw [r55 b hw hm br hl]
 by_cases h:codeN b br a=0
 ·obtain ⟨hc,hi⟩:=codeN_ok h
  obtain ⟨hb,hr⟩:=codeG_ok hc
  rw [if_pos h,if_pos h]
  refine (if_neg (by simp [isL])).trans ((gd_pos ⟨rfl,trivial⟩).trans ?_)
  rw [lt_eq,vR_some]
  refine (if_neg (by simp)).trans ?_
  rw [nat_of hi,r57 hb (live_len _ _),vl_some,gd_pos ⟨rfl,trivial⟩,lt_eq]
  rfl
 ·rw [if_neg h,if_neg h]
  refine (if_pos rfl).trans ((gd_pos ⟨rfl,trivial⟩).trans ?_)
  exact if_pos (by show (codeN b br a != 0)=true; simp [h])
theorem r25 (b:Y46) (hw:wf y46 b) (hm:cnt y46 b≤1048576) (br:List Int) (hl:br.length≤1048576) (a:Int):u25 b br a=some (selF b br a (toN b)):=by
 unfold u25 selF
 rw [r53 b hw hm br hl,vl_some,gd_pos ⟨rfl,trivial⟩,lt_eq]
 by_cases h:codeN b br a=0
 ·obtain ⟨hc,hi⟩:=codeN_ok h
  obtain ⟨hb,hr⟩:=codeG_ok hc
  rw [h]
  refine (if_neg (by decide)).trans ?_
  rw [r49 b hw hb,vl_some,gd_pos ⟨rfl,trivial⟩,lt_eq,if_pos rfl]
  have e:=nat_of hi
  generalize a.toNat=n at e
  subst e
  exact r25L hb br hl n
 ·rw [if_neg h]
  exact if_pos (by simp [h])
end Go.Proofs.YtgmpfbpemmohnaaGreatDoor
end
section
/- Plain facts on marks: how many there are, what the held ones say. -/
namespace Go.Proofs.Xd
open Go Go.Proofs.Xl Go.Proofs.Xv
def wd:Ty→Nat
 | .pr a b=>wd a+wd b
 | .sl e=>wd e
 | .pt _=>0
 | _=>1
theorem cntM_le:∀ (t:Ty) (x:den t),cntM t x≤wd t*(1+cnt t x)
 | .int _,_=>by simp [cntM,wd]
 | .bool,_=>by simp [cntM,wd]
 | .str,_=>by simp [cntM,wd]
 | .pt _,_=>by simp [cntM]
 | .sl e,xs=>by
   have key:∀ l:List (den e),(l.map (cntM e)).sum≤wd e*(l.length+(l.map (cnt e)).sum):=by
    intro l
    induction l with
    | nil=>exact Nat.zero_le _
    | cons a r ih =>
      have h1:=cntM_le e a
      rw [List.map_cons,List.sum_cons,List.map_cons,List.sum_cons,List.length_cons]
      have e1:wd e*(r.length+1+(cnt e a+(r.map (cnt e)).sum))=wd e*(1+cnt e a)+wd e*(r.length+(r.map (cnt e)).sum):=by
       rw [← Nat.mul_add]; congr 1; omega
      omega
   refine Nat.le_trans (key xs) ?_
   show _≤wd e*(1+(xs.length+(xs.map (cnt e)).sum))
   exact Nat.mul_le_mul_left _ (by omega)
 | .pr a b,x=>by
   have h1:=cntM_le a x.1
   have h2:=cntM_le b x.2
   show cntM a x.1+cntM b x.2≤(wd a+wd b)*(1+(cnt a x.1+cnt b x.2))
   have h3:wd a*(1+cnt a x.1)≤wd a*(1+(cnt a x.1+cnt b x.2)):=Nat.mul_le_mul_left _ (by omega)
   have h4:wd b*(1+cnt b x.2)≤wd b*(1+(cnt a x.1+cnt b x.2)):=Nat.mul_le_mul_left _ (by omega)
   rw [Nat.add_mul]
   omega
theorem cntM_bd {t:Ty} {x:den t} {k:Nat} (h:cnt t x≤1048576) (hw:wd t≤k):(cntM t x:Int)≤(k*1048577:Nat):=by
 have h1:=cntM_le t x
 have h2:wd t*(1+cnt t x)≤k*1048577:=Nat.mul_le_mul hw (by omega)
 omega
theorem mkI_get:∀ (m:Nat) (k:Int) (i:Nat),i < m→(mkI k m).getD i 0=k+(i:Int)
 | m+1,k,0,_=>by simp [mkI]
 | m+1,k,i+1,h=>by
   rw [mkI,List.getD_cons_succ,mkI_get m (k+1) i (by omega)]
   omega
theorem fold_one:∀ n:Nat,foldN (fun _ (v:Int)=>v+1) n 1=1+((1*n:Nat):Int)
 | 0=>rfl
 | n+1=>by rw [foldN,fold_one n]; omega
end Go.Proofs.Xd
end
section
/- The links to a node: what the law asks of its functions. -/
namespace Go.Proofs.YtgmpfbpemmohnaaGreatDoor
open Go Go.Proofs Go.Proofs.Sv Go.Proofs.Xv Go.Proofs.Xl Go.Proofs.Xd
theorem r16 (n:Nat) (hn:n≤4611686018427387904):u16 (mkI 1 n) (1:Int)=some (1+((1*n:Nat):Int)):=by
 have hl:=mkI_len n 1
 rw [← fold_one n]
 refine lp_fold (n:=n) (by omega) (fun i (s:Int)=>(s,(i:Int))) (fun _ s=>s+1) (fun i s=>s=1+(i:Int)) (J:=u16J0) (F:=u16L1 (mkI 1 n)) (fun g i s hi hs=>?_) (fun i s hi hs=>by subst hs; omega) (fun g s _=>if_neg (by rw [hl]; simp)) _ rfl
 subst hs
 refine (if_pos (decide_eq_true (by rw [hl]; omega))).trans ?_
 refine (gd_pos ⟨⟨by omega,by rw [hl]; omega⟩,trivial⟩).trans ?_
 have e:(i:Int).toNat=i:=rfl
 rw [e,mkI_get n 1 i hi]
 refine (if_neg (by simp)).trans ?_
 refine (gd_pos ⟨⟨by omega,by omega⟩,trivial⟩).trans ?_
 exact gd_pos ⟨⟨by omega,by omega⟩,trivial⟩
theorem cnt_len {br:List Int} (h:br.length≤1048576):cnt (.sl (.int .i64)) br≤1048576:=by
 have e:cnt (.sl (.int .i64)) br=br.length+0:=cnt_ints
 omega
theorem r6 (b:Y32) (br:List Int) (a:Int) (hw:wf y32 b) (hbr:wf (.sl (.int .i64)) br) (_:InI a):G6 b br a:=by
 refine ⟨_,z8 b 1048576 hw (by decide) (by decide),fun h0 hl=>?_⟩
 have hm:cnt y32 b≤1048576:=by
  unfold szN at h0
  split at h0 <;> omega
 have hcl:=cnt_len hl
 have hr:=selF_len b br a (toN b)
 have k1:=cntM_bd (t:=y46) (x:=b) (k:=64) hm (by decide)
 have k2:=cntM_bd (t:=.sl (.int .i64)) (x:=br) (k:=64) hcl (by decide)
 exact ⟨(selF b br a (toN b)).1,(selF b br a (toN b)).2,⟨w10 b hm,w23 br hcl,r25 b hw hm br hl a,r26 b hw hm br hl a,e12 _ (cnt_len hr),e13 b hm,e12 br hcl,by omega,by omega,by omega,r16 _ (by omega)⟩⟩
end Go.Proofs.YtgmpfbpemmohnaaGreatDoor
end

/- What a valid wire tells; what a net's sinks are. Plain facts. -/
import Derived.Test.YtgmpfbpemmohnaaGreatDoorWB
import Derived.Test.YtgmpfbpemmohnaaGreatDoorFn24c
section
/- What a valid wire tells; what a net's sinks are. Plain facts. -/
namespace Go.Proofs.Xd
open Go Go.Proofs Go.Proofs.Xl
theorem sinkL_in (pl:Nat→DPlace) (t:Int):∀ m,∀ x∈foldN (sinkL pl t) m [],∃ j:Nat,x=(j:Int)∧j < m∧(pl j).2.2.1=t∧(pl j).2.2.2=false
 | 0,x,h=>by cases h
 | m+1,x,h=>by
   have ih:=sinkL_in pl t m x
   have h:x∈sinkL pl t m (foldN (sinkL pl t) m []):=h
   generalize foldN (sinkL pl t) m []=s at ih h
   unfold sinkL at h
   split at h
   ·rename_i hc
    rw [Bool.and_eq_true,beq_iff_eq,Bool.not_eq_true'] at hc
    rcases List.mem_append.1 h with h | h
    ·obtain ⟨j,h1,h2,h3⟩:=ih h
     exact ⟨j,h1,by omega,h3⟩
    ·cases List.mem_singleton.1 h
     exact ⟨m,rfl,by omega,hc⟩
   ·obtain ⟨j,h1,h2,h3⟩:=ih h
    exact ⟨j,h1,by omega,h3⟩
structure WireFacts (w:DWire) (n:Int):Prop where
 n1:1≤w.1.length
 n8:w.1.length≤8
 res:w.2.1.length=w.1.length
 cap:w.2.2.1.length=w.1.length
 snk:(w.2.2.2.length:Int)=n
 resIn:∀ i,i < w.1.length→0≤w.2.1.getD i 0∧w.2.1.getD i 0≤1000
 capOk:w.2.2.1.all (inB · 0 500)=true
 snkIn:∀ i,i < w.2.2.2.length→0≤w.2.2.2.getD i 0∧(w.2.2.2.getD i 0).toNat < w.1.length
 par:∀ i,0 < i→i < w.1.length→0≤w.1.getD i 0∧(w.1.getD i 0).toNat < i
theorem wire_facts {w:DWire} {n:Int} (h:wireB w n=true):WireFacts w n:=by
 unfold wireB at h
 simp only [Bool.and_eq_true,decide_eq_true_eq,beq_iff_eq] at h
 obtain ⟨⟨⟨⟨⟨⟨⟨⟨c1,c2⟩,c3⟩,c4⟩,c5⟩,c6⟩,c7⟩,c8⟩,c9⟩:=h
 refine ⟨c1,c2,c3,c4,c5,fun i hi=>?_,c7,fun i hi=>?_,fun i h0 hi=>?_⟩
 ·exact inB_iff.1 (all_getD (p:=fun x=>inB x 0 1000) c6 (by omega))
 ·have:=inB_iff.1 (all_getD (p:=fun x=>inB x 0 ((w.1.length:Int) - 1)) c8 hi)
  omega
 ·have:=not_any.1 c9 i hi
  rw [Bool.or_eq_false_iff] at this
  have h2:=this.2
  rw [Bool.and_eq_false_iff,decide_eq_false_iff_not,Bool.not_eq_false',inB_iff] at h2
  rcases h2 with h | h
  ·omega
  ·omega
end Go.Proofs.Xd
end
section
/- The links of a block. Plain facts. -/
namespace Go.Proofs.Xd
open Go Go.Proofs Go.Proofs.Xl
abbrev DLink:=Int×Int×Int×Int
def transV (k s:Int):List (Int×Int):=if (k==2)=true then [(0,0),(0,1)] else if (k==3)=true then [(1,0),(1,1)] else if (k != 1)=true then [] else if (s==1)=true then [(0,0),(1,1)] else if (s==2)=true then [(0,1),(1,0)] else [(0,0),(0,1),(1,0),(1,1)]
theorem transV_ok (k s:Int):(transV k s).length≤4∧∀ t∈transV k s,0≤t.1∧t.1≤1∧0≤t.2∧t.2≤1:=by
 unfold transV
 split
 ·exact ⟨by decide,by decide⟩
 split
 ·exact ⟨by decide,by decide⟩
 split
 ·exact ⟨by decide,by decide⟩
 split
 ·exact ⟨by decide,by decide⟩
 split
 ·exact ⟨by decide,by decide⟩
 ·exact ⟨by decide,by decide⟩
def clinkF (f a b x:Int) (tr:List (Int×Int)) (k:Nat) (s:List DLink):List DLink:=s++[(2*(f+a)+(tr.getD k (0,0)).1,2*(f+b)+(tr.getD k (0,0)).2,1,x)]
theorem clinkF_len (f a b x:Int) (tr:List (Int×Int)) (s:List DLink):∀ k,(foldN (clinkF f a b x tr) k s).length=s.length+k
 | 0=>rfl
 | k+1=>by
   have:=clinkF_len f a b x tr s k
   show (clinkF f a b x tr k (foldN (clinkF f a b x tr) k s)).length=_
   generalize foldN (clinkF f a b x tr) k s=z at this
   unfold clinkF
   rw [List.length_append,this]; rfl
def carcF (f:Int) (arcs:Nat→DArc) (j:Nat) (s:List DLink):List DLink:=foldN (clinkF f (arcs j).2.1 (arcs j).2.2.1 (j:Int) (transV (arcs j).1 (arcs j).2.2.2.1)) (transV (arcs j).1 (arcs j).2.2.2.1).length s
theorem carcF_len (f:Int) (arcs:Nat→DArc) (j:Nat) (s:List DLink):(carcF f arcs j s).length≤s.length+4:=by
 unfold carcF
 rw [clinkF_len]
 have:=(transV_ok (arcs j).1 (arcs j).2.2.2.1).1
 omega
def cellLinksD (f:Int) (arcs:Nat→DArc) (m:Nat):List DLink:=foldN (carcF f arcs) m []
theorem cellLinksD_len (f:Int) (arcs:Nat→DArc):∀ m,(cellLinksD f arcs m).length≤4*m
 | 0=>Nat.le_refl _
 | m+1=>by
   have h1:=cellLinksD_len f arcs m
   have h2:=carcF_len f arcs m (cellLinksD f arcs m)
   show (carcF f arcs m (cellLinksD f arcs m)).length≤_
   omega
def instLF (nets:Nat→Nat) (arcs:Nat→Nat→DArc) (ms:Nat→Nat) (i:Nat) (s:Int×List DLink):Int×List DLink:=(s.1+(nets i:Int),s.2++cellLinksD s.1 (arcs i) (ms i))
theorem instLF_in {nets:Nat→Nat} {arcs:Nat→Nat→DArc} {ms:Nat→Nat} {n:Nat} (h:∀ i,i < n→nets i≤5∧ms i≤8):∀ m,m≤n→0≤(foldN (instLF nets arcs ms) m (0,[])).1∧(foldN (instLF nets arcs ms) m (0,[])).1≤5*(m:Int)∧(foldN (instLF nets arcs ms) m (0,[])).2.length≤32*m
 | 0,_=>⟨Int.le_refl _,Int.le_refl _,Nat.le_refl _⟩
 | m+1,hm=>by
   obtain ⟨h1,h2,h3⟩:=instLF_in h m (by omega)
   obtain ⟨h4,h5⟩:=h m (by omega)
   show 0≤(instLF nets arcs ms m (foldN (instLF nets arcs ms) m (0,[]))).1∧(instLF nets arcs ms m (foldN (instLF nets arcs ms) m (0,[]))).1≤_∧(instLF nets arcs ms m (foldN (instLF nets arcs ms) m (0,[]))).2.length≤_
   generalize foldN (instLF nets arcs ms) m (0,[])=z at h1 h2 h3
   unfold instLF
   have:=cellLinksD_len z.1 (arcs m) (ms m)
   refine ⟨by show 0≤z.1+(nets m:Int); omega,by show z.1+(nets m:Int)≤_; omega,?_⟩
   show (z.2++cellLinksD z.1 (arcs m) (ms m)).length≤_
   rw [List.length_append]; omega
def gridF (pl:Nat→DPlace) (i:Nat) (s:List (List Int)×List Int):List (List Int)×List Int:=if (pl i).2.2.2=true then (s.1,s.2.set (pl i).2.2.1.toNat (i:Int)) else (s.1.set (pl i).2.2.1.toNat (s.1.getD (pl i).2.2.1.toNat []++[(i:Int)]),s.2)
def drvN (pl:Nat→DPlace) (t:Int) (m:Nat):Int:=foldN (fun i s=>if ((pl i).2.2.1==t&&(pl i).2.2.2)=true then (i:Int) else s) m 0
theorem drvN_in (pl:Nat→DPlace) (t:Int):∀ m,0≤drvN pl t m∧drvN pl t m≤m
 | 0=>⟨Int.le_refl _,Int.le_refl _⟩
 | m+1=>by
   have:=drvN_in pl t m
   have e:drvN pl t (m+1)=if ((pl m).2.2.1==t&&(pl m).2.2.2)=true then (m:Int) else drvN pl t m:=rfl
   rw [e]
   split <;> omega
theorem sinkL_succ (pl:Nat→DPlace) (t:Int) (m:Nat):foldN (sinkL pl t) (m+1) []=if ((pl m).2.2.1==t&&!(pl m).2.2.2)=true then foldN (sinkL pl t) m []++[(m:Int)] else foldN (sinkL pl t) m []:=rfl
theorem getD_set {α:Type} {l:List α} {i j:Nat} {x d:α} (hi:i < l.length):(l.set i x).getD j d=if j=i then x else l.getD j d:=by
 by_cases h:j=i
 ·subst h; simp [hi]
 ·rw [if_neg h]; simp [List.getD_eq_getElem?_getD,List.getElem?_set_ne (Ne.symm h)]
theorem grid_fold (pl:Nat→DPlace) (n:Nat):∀ m,(∀ i,i < m→inB (pl i).2.2.1 0 ((n:Int) - 1)=true)→(foldN (gridF pl) m (List.replicate n [],List.replicate n 0)).1.length=n∧(foldN (gridF pl) m (List.replicate n [],List.replicate n 0)).2.length=n ∧
  ∀ k:Nat,k < n→(foldN (gridF pl) m (List.replicate n [],List.replicate n 0)).1.getD k []=foldN (sinkL pl k) m []∧(foldN (gridF pl) m (List.replicate n [],List.replicate n 0)).2.getD k 0=drvN pl k m
 | 0,_=>⟨List.length_replicate,List.length_replicate,fun k hk=>by
   constructor
   ·show (List.replicate n ([]:List Int)).getD k []=[]
    rw [List.getD_eq_getElem?_getD,List.getElem?_replicate,if_pos hk]; rfl
   ·show (List.replicate n (0:Int)).getD k 0=0
    rw [List.getD_eq_getElem?_getD,List.getElem?_replicate,if_pos hk]; rfl⟩
 | m+1,h=>by
   obtain ⟨h1,h2,h3⟩:=grid_fold pl n m (fun i hi=>h i (by omega))
   have hm:=inB_iff.1 (h m (by omega))
   have e:foldN (gridF pl) (m+1) (List.replicate n [],List.replicate n 0)=gridF pl m (foldN (gridF pl) m (List.replicate n [],List.replicate n 0)):=rfl
   rw [e]
   generalize foldN (gridF pl) m (List.replicate n [],List.replicate n 0)=z at h1 h2 h3
   have hlt:(pl m).2.2.1.toNat < n:=by omega
   have ed:∀ k:Nat,drvN pl k (m+1)=if ((pl m).2.2.1==(k:Int)&&(pl m).2.2.2)=true then (m:Int) else drvN pl k m:=fun _=>rfl
   have eq:∀ k:Nat,((pl m).2.2.1==(k:Int))=decide (k=(pl m).2.2.1.toNat):=fun k=>by
    rw [Bool.eq_iff_iff,beq_iff_eq,decide_eq_true_eq]
    omega
   unfold gridF
   cases hd:(pl m).2.2.2 with
   | true =>
     rw [if_pos rfl]
     refine ⟨h1,by rw [List.length_set]; exact h2,fun k hk=>?_⟩
     rw [sinkL_succ,ed k,eq,hd]
     refine ⟨by simpa using (h3 k hk).1,?_⟩
     show (z.2.set (pl m).2.2.1.toNat (m:Int)).getD k 0=_
     rw [getD_set (by omega)]
     by_cases hkk:k=(pl m).2.2.1.toNat
     ·simp [hkk]
     ·rw [if_neg hkk,(h3 k hk).2]; simp [hkk]
   | false =>
     rw [if_neg (by simp)]
     refine ⟨by rw [List.length_set]; exact h1,h2,fun k hk=>?_⟩
     rw [sinkL_succ,ed k,eq,hd]
     refine ⟨?_,by simpa using (h3 k hk).2⟩
     show (z.1.set (pl m).2.2.1.toNat (z.1.getD (pl m).2.2.1.toNat []++[(m:Int)])).getD k []=_
     rw [getD_set (by omega)]
     by_cases hkk:k=(pl m).2.2.1.toNat
     ·rw [if_pos hkk,← hkk,(h3 k hk).1]; simp
     ·rw [if_neg hkk,(h3 k hk).1]; simp [hkk]
def wlinkF (d s x:Int) (t:Nat) (z:List DLink):List DLink:=z++[(2*d+(t:Int),2*s+(t:Int),2,x)]
def wsinkF (d:Int) (sn:List Int) (k:Nat) (z:List DLink):List DLink:=foldN (wlinkF d (sn.getD k 0) (k:Int)) 2 z
theorem wsinkF_len (d:Int) (sn:List Int) (k:Nat) (z:List DLink):(wsinkF d sn k z).length=z.length+2:=by
 show ((z++_)++_).length=_
 rw [List.length_append,List.length_append]; rfl
def netLF (d:Nat→Int) (sn:Nat→List Int) (i:Nat) (z:List DLink):List DLink:=foldN (wsinkF (d i) (sn i)) (sn i).length z
theorem wsink_len (d:Int) (sn:List Int) (z:List DLink):∀ k,(foldN (wsinkF d sn) k z).length=z.length+2*k
 | 0=>rfl
 | k+1=>by
   have:=wsink_len d sn z k
   show (wsinkF d sn k (foldN (wsinkF d sn) k z)).length=_
   rw [wsinkF_len,this]; omega
theorem netL_len (d:Nat→Int) (sn:Nat→List Int) (z:List DLink) {n c:Nat} (h:∀ i,i < n→(sn i).length≤c):∀ m,m≤n→(foldN (netLF d sn) m z).length≤z.length+2*(c*m)
 | 0,_=>by simp [foldN]
 | m+1,hm=>by
   have h1:=netL_len d sn z h m (by omega)
   have h2:=h m (by omega)
   show (foldN (wsinkF (d m) (sn m)) (sn m).length (foldN (netLF d sn) m z)).length≤_
   rw [wsink_len,Nat.mul_add c]
   omega
def appF {α:Type} (f:Nat→α) (i:Nat) (s:List α):List α:=s++[f i]
end Go.Proofs.Xd
end
section
/- Valid tables: what the program's functions and the reference's say of them. -/
namespace Go.Proofs.YtgmpfbpemmohnaaGreatDoor
open Go Go.Proofs Go.Proofs.Xv Go.Proofs.Xl Go.Proofs.Xd
theorem r120 (a b c:Int):u120 a b c=some (inB a b c):=rfl
theorem r69 (a b c:Int):u69 a b c=some (inB a b c):=rfl
theorem r162 (a b c:Int):u162 a b c=some (!inB a b c):=by
 unfold u162
 rw [r120,gd_pos ⟨rfl,trivial⟩,vl_some]
theorem r159c162 (xs:List Int) (b c:Int) (h:xs.length≤9223372036854775807):u159c162 xs (b,c)=some (xs.any fun x=>!inB x b c):=by
 have h1:u177c162 xs (b,c)=_:=idx_some h (fun i=>!inB (xs.getD i 0) b c) (fun g i hi=>idx_el hi h (r162 _ _ _)) (fun g=>all_end)
 have:=has_some h1
 rw [any_getD xs 0 (fun x=>!inB x b c)] at this
 exact this
theorem r137 (xs:List Int) (b c:Int) (h:xs.length≤9223372036854775807):u137 xs b c=some (xs.all (inB · b c)):=by
 unfold u137
 rw [r159c162 _ _ _ h,gd_pos ⟨rfl,trivial⟩,vl_some,all_any]
theorem r143 (xs:List Int) (h:xs.length≤9223372036854775807) (h1:1≤xs.length):u143 xs=some (incB xs):=by
 have key:=lp_allK h (fun i=>decide (xs.getD i 0≤xs.getD (i - 1) 0)) (some false) (e:=some true) (F:=u143L1 xs) 1 h1 (fun g i hk hi=>by
  have e:((i:Int) - 1).toNat=i - 1:=by omega
  refine (all_el hi h ⟨⟨by omega,by omega⟩,⟨by omega,by omega⟩,⟨by omega,by omega⟩,trivial⟩).trans ?_
  rw [e]; rfl) (fun g=>all_end)
 refine key.trans ?_
 unfold incB
 have:((List.range xs.length).any fun i=>decide (1≤i)&&decide (xs.getD i 0≤xs.getD (i - 1) 0))=(List.range xs.length).any fun i=>decide (0 < i)&&decide (xs.getD i 0≤xs.getD (i - 1) 0):=rfl
 rw [this]
 cases (List.range xs.length).any fun i=>decide (0 < i)&&decide (xs.getD i 0≤xs.getD (i - 1) 0) <;> rfl
theorem r226 (xs:List Int) (h:xs.length≤9223372036854775807):u226 xs=some (isAxis xs):=by
 unfold u226
 have e:u99 xs=some (xs.length:Int):=rfl
 have ed:∀ a:Bool,(a=true→1≤xs.length)→(a=true∧True→(u143 xs).isSome=true):=fun a ha hc=>by rw [r143 xs h (ha hc.1)]; rfl
 rw [e,vl_some,r120,vl_some,r137 xs 0 100000 h,vl_some,gd_pos ⟨rfl,rfl,fun _=>rfl,ed _ (fun hc=>by
  simp only [inB,Bool.and_eq_true,decide_eq_true_eq] at hc; omega),trivial⟩]
 congr 1
 unfold isAxis
 by_cases h1:1≤xs.length
 ·rw [r143 xs h h1,vl_some]
  congr 2
  rw [Bool.eq_iff_iff]
  simp only [inB,Bool.and_eq_true,decide_eq_true_eq]
  omega
 ·have h2:decide (1≤xs.length)=false:=by simpa using h1
  have h3:inB (xs.length:Int) 1 4=false:=by
   rw [← Bool.not_eq_true,inB_iff]; omega
  rw [h2,h3]; rfl
theorem r221 (xs:List Int) (h:xs.length≤9223372036854775807):u221 xs=some (isAxis xs):=by
 have key:=lp_all (n:=xs.length) h (fun i=>!inB (xs.getD i 0) 0 100000||decide (0 < i)&&decide (xs.getD i 0≤xs.getD (i - 1) 0)) (some false) (e:=u221J0 xs ()) (F:=u221L1 xs) (fun g i hi=>by
  have e:((i:Int) - 1).toNat=i - 1:=by omega
  have e2:decide ((0:Int) < (i:Int))=decide (0 < i):=by rw [decide_eq_decide]; omega
  refine (all_el hi h ⟨⟨by omega,by omega⟩,rfl,fun hc=>⟨by omega,by omega⟩,fun hc=>⟨by have:=hc.1; simp at this; omega,by omega⟩,fun hc=>⟨by omega,by omega⟩,trivial⟩).trans ?_
  rw [e,r69,vl_some,e2]; rfl) (fun g=>all_end)
 refine key.trans ?_
 unfold isAxis u221J0
 have e3:((List.range xs.length).any fun i=>!inB (xs.getD i 0) 0 100000||decide (0 < i)&&decide (xs.getD i 0≤xs.getD (i - 1) 0))=!(xs.all (inB · 0 100000)&&incB xs):=by
  rw [← all_any,← any_getD xs 0 (fun x=>!inB x 0 100000),incB,← Bool.not_or,Bool.not_not]
  rw [Bool.eq_iff_iff,Bool.or_eq_true,List.any_eq_true,List.any_eq_true,List.any_eq_true]
  constructor
  ·rintro ⟨i,h1,h2⟩
   rcases Bool.or_eq_true _ _ ▸ h2 with h3 | h3
   ·exact .inl ⟨i,h1,h3⟩
   ·exact .inr ⟨i,h1,h3⟩
  ·rintro (⟨i,h1,h2⟩ | ⟨i,h1,h2⟩)
   ·exact ⟨i,h1,by rw [h2]; rfl⟩
   ·exact ⟨i,h1,by rw [h2,Bool.or_true]⟩
 rw [e3]
 cases hA:(xs.all (inB · 0 100000)&&incB xs) with
 | false=>rw [if_pos (by rfl),Bool.and_assoc,hA,Bool.and_false]
 | true =>
   rw [if_neg (by simp),Bool.and_assoc,hA,Bool.and_true]
   refine congrArg some ?_
   rw [Bool.eq_iff_iff]
   simp only [Bool.and_eq_true,decide_eq_true_eq]
   omega
theorem r217 (t:Y223) (hw:wf y223 t):u217 t=some (isTable t):=by
 obtain ⟨⟨h1,_⟩,⟨h2,_⟩,h3,_⟩:=hw
 unfold u217
 have hb:(isAxis t.1&&isAxis t.2.1)=true∧True→in64 ((t.1.length:Int)*(t.2.1.length:Int)):=fun hc=>by
  have hc:=hc.1
  rw [Bool.and_eq_true] at hc
  obtain ⟨a1,a2⟩:=axis_len hc.1
  obtain ⟨b1,b2⟩:=axis_len hc.2
  have c2:t.1.length*t.2.1.length≤4*4:=Nat.mul_le_mul a2 b2
  have e:(t.1.length:Int)*(t.2.1.length:Int)=((t.1.length*t.2.1.length:Nat):Int):=by simp
  rw [e]
  exact ⟨by omega,by omega⟩
 rw [r226 _ h1,r226 _ h2,r137 _ _ _ h3,vl_some,vl_some,vl_some,gd_pos ⟨rfl,fun _=>rfl,hb,fun _=>rfl,trivial⟩]
 congr 1
 unfold isTable
 congr 2
 rw [Bool.eq_iff_iff]
 simp only [beq_iff_eq,decide_eq_true_eq]
 constructor
 ·intro h; exact_mod_cast h
 ·intro h; exact_mod_cast h
theorem r209 (t:Y223) (hw:wf y223 t):u209 t=some (isTable t):=by
 obtain ⟨⟨h1,_⟩,⟨h2,_⟩,h3,_⟩:=hw
 unfold u209
 have hb:(!isAxis t.1||!isAxis t.2.1)=false∧True→in64 ((t.1.length:Int)*(t.2.1.length:Int)):=fun hc=>by
  have hc:=hc.1
  simp only [Bool.or_eq_false_iff,Bool.not_eq_false'] at hc
  obtain ⟨a1,a2⟩:=axis_len hc.1
  obtain ⟨b1,b2⟩:=axis_len hc.2
  have c2:t.1.length*t.2.1.length≤4*4:=Nat.mul_le_mul a2 b2
  have e:(t.1.length:Int)*(t.2.1.length:Int)=((t.1.length*t.2.1.length:Nat):Int):=by simp
  rw [e]
  exact ⟨by omega,by omega⟩
 rw [r221 _ h1,r221 _ h2,vl_some,vl_some,gd_pos ⟨rfl,fun _=>rfl,hb,trivial⟩]
 have key:=lp_all (n:=t.2.2.length) h3 (fun i=>!inB (t.2.2.getD i 0) (-1000000) 1000000) (some false) (e:=some true) (F:=u209L1 t) (fun g i hi=>all_el hi h3 ⟨⟨by omega,by omega⟩,rfl,trivial⟩) (fun g=>all_end)
 rw [key,any_getD t.2.2 0 (fun x=>!inB x (-1000000) 1000000)]
 have e:((t.2.2.length:Int) != (t.1.length:Int)*(t.2.1.length:Int))=!decide (t.2.2.length=t.1.length*t.2.1.length):=by
  rw [Bool.eq_iff_iff]
  simp only [bne_iff_ne,Bool.not_eq_true',decide_eq_false_iff_not,ne_eq]
  constructor
  ·intro h k; exact h (by exact_mod_cast k)
  ·intro h k; exact h (by exact_mod_cast k)
 rw [e]
 unfold isTable
 rw [← all_any]
 cases isAxis t.1 <;> cases isAxis t.2.1 <;> cases decide (t.2.2.length=t.1.length*t.2.1.length) <;> cases (t.2.2.any fun x=>!inB x (-1000000) 1000000) <;> rfl
end Go.Proofs.YtgmpfbpemmohnaaGreatDoor
end
section
/- Names: what the program's functions and the reference's say of them. -/
namespace Go.Proofs.YtgmpfbpemmohnaaGreatDoor
open Go Go.Proofs Go.Proofs.Sv Go.Proofs.Xv Go.Proofs.Xl Go.Proofs.Xd
theorem r155 (s:ByteArray) (h:s.size≤9223372036854775807):u155 s=some (nmB s):=by
 have key:=lp_all (n:=s.size) h (fun i=>!chB (byteAt s i) i) (some false) (e:=u155J0 s ()) (F:=u155L1 s) (fun g i hi=>by
  refine (all_el2 hi h ⟨⟨by omega,by omega⟩,fun _=>⟨by omega,by omega⟩,trivial⟩ ⟨⟨by omega,by omega⟩,fun _=>⟨by omega,by omega⟩,trivial⟩).trans ?_
  have e2:decide ((0:Int) < (i:Int))=decide (0 < i):=by rw [decide_eq_decide]; omega
  have e3:((i:Int)).toNat=i:=rfl
  rw [e2,e3]
  unfold chB lowB digB
  rw [Bool.not_or]) (fun g=>all_end)
 refine key.trans ?_
 unfold nmB u155J0
 rw [nmTo_any]
 cases (List.range s.size).any fun i=>!chB (byteAt s i) i
 ·rfl
 ·rfl
theorem r172 (s:ByteArray) (h:s.size≤9223372036854775807):u172 s=some (nmB s):=by
 unfold u172
 have t1:u182 s ⟨#[97,98,99,100,101,102,103,104,105,106,107,108,109,110,111,112,113,114,115,116,117,118,119,120,121,122,48,49,50,51,52,53,54,55,56,57]⟩=some ⟨(Lib.trimS s.data.toList low36).toArray⟩:=if_pos ⟨by decide,by decide⟩
 have t2:∀ c,u183 ⟨#[97,98,99,100,101,102,103,104,105,106,107,108,109,110,111,112,113,114,115,116,117,118,119,120,121,122]⟩ c=some (Lib.indexByte low26 c.toNat.toUInt8):=fun _=>rfl
 rw [t1,t2,r120,vl_some,vl_some,vl_some,gd_pos ⟨rfl,fun _=>rfl,fun hc=>⟨by decide,by
  have:=hc.1
  rw [Bool.and_eq_true,inB_iff] at this
  omega⟩,fun _=>rfl,trivial⟩,lt_eq]
 refine congrArg some ?_
 show (inB (s.size:Int) 1 8&&decide ((⟨(Lib.trimS s.data.toList low36).toArray⟩:ByteArray)=⟨#[]⟩)&&decide (0≤Lib.indexByte low26 (byteAt s (Int.toNat 0)).toNat.toUInt8))=nmB s
 by_cases hb:1≤s.size∧s.size≤8
 ·rw [nmB_trim s hb.1 hb.2]
  have e1:inB (s.size:Int) 1 8=true:=by rw [inB_iff]; omega
  have e2:decide ((⟨(Lib.trimS s.data.toList low36).toArray⟩:ByteArray)=⟨#[]⟩)=(Lib.trimS s.data.toList low36==[]):=by
   rw [Bool.eq_iff_iff,decide_eq_true_eq,beq_iff_eq]
   constructor
   ·intro h
    injection h with h
    have:=congrArg Array.toList h
    simpa using this
   ·intro h; rw [h]
  rw [e1,e2,Bool.true_and]
  rfl
 ·have e1:inB (s.size:Int) 1 8=false:=by rw [← Bool.not_eq_true,inB_iff]; omega
  have e2:nmB s=false:=by
   rw [← Bool.not_eq_true]
   intro hc
   simp only [nmB,Bool.and_eq_true,decide_eq_true_eq] at hc
   omega
  rw [e1,e2]; rfl
theorem r176 (xs:List ByteArray) (x:ByteArray) (h:xs.length≤9223372036854775807):u176 xs x=some (xs.any fun y=>decide (x=y)):=by
 have h1:u190 xs x=_:=idx_some h (fun i=>decide (x=xs.getD i (dflt .str))) (fun g i hi=>by
  refine (if_pos (by simpa using hi)).trans ?_
  rw [gd_pos ⟨⟨by omega,by omega⟩,trivial⟩,gd_pos ⟨⟨by omega,by omega⟩,trivial⟩]
  rfl) (fun g=>all_end)
 have:=has_some h1
 rw [any_getD xs (dflt .str) (fun y=>decide (x=y))] at this
 exact this
theorem r157 (xs:List ByteArray) (hw:wf (.sl .str) xs):u157 xs=some (namesB xs.length fun i=>xs.getD i (dflt .str)):=by
 have h:=hw.1
 have key:=lp_all (n:=xs.length) h (fun i=>!nmB (xs.getD i (dflt .str))||dupB (fun i=>xs.getD i (dflt .str)) i) (some false) (e:=some true) (F:=u157L1 xs) (fun g i hi=>by
  have hs:=wf_el (d:=dflt .str) hi hw
  have hl:(xs.take i).length≤9223372036854775807:=by rw [List.length_take]; omega
  have e1:=r172 _ hs
  have e2:=r176 (xs.take i) (xs.getD i (dflt .str)) hl
  rw [take_any xs (dflt .str) i hi] at e2
  have e3:((i:Int)).toNat=i:=rfl
  refine (if_pos (by simpa using hi)).trans ?_
  rw [e3,e1,e2,vl_some,vl_some,gd_pos ⟨⟨by omega,by omega⟩,trivial⟩,gd_pos ⟨rfl,fun _=>⟨by omega,by omega,by omega⟩,fun _=>rfl,trivial⟩,gd_pos ⟨⟨by omega,by omega⟩,trivial⟩]) (fun g=>all_end)
 refine key.trans ?_
 unfold namesB
 cases (List.range xs.length).any fun i=>!nmB (xs.getD i (dflt .str))||dupB (fun i=>xs.getD i (dflt .str)) i <;> rfl
theorem r130 (xs:List ByteArray) (hw:wf (.sl .str) xs):u130 xs=some (namesB xs.length fun i=>xs.getD i (dflt .str)):=by
 have h:=hw.1
 have key:=lp_all (n:=xs.length) h (fun i=>!nmB (xs.getD i (dflt .str))||dupB (fun i=>xs.getD i (dflt .str)) i) (some false) (e:=some true) (F:=u130L1 xs) (fun g i hi=>by
  have hs:=wf_el (d:=dflt .str) hi hw
  have e1:=r155 _ hs
  have e3:((i:Int)).toNat=i:=rfl
  have inner:=lp_all (n:=i) (by omega) (fun k=>decide (xs.getD k (dflt .str)=xs.getD i (dflt .str))) (some false) (e:=g ((i:Int)+1)) (F:=u130L3 xs (i:Int) g) (fun g3 k hk=>by
   refine (all_el hk (by omega) ⟨⟨by omega,by omega⟩,⟨by omega,by omega⟩,trivial⟩).trans ?_
   rfl) (fun g3=>by
   refine all_end.trans ?_
   unfold u130J2
   exact gd_pos ⟨⟨by omega,by omega⟩,trivial⟩)
  refine (if_pos (by simpa using hi)).trans ?_
  rw [e3,e1,vl_some,gd_pos ⟨⟨by omega,by omega⟩,rfl,trivial⟩,inner]
  unfold dupB
  cases nmB (xs.getD i (dflt .str)) <;> cases (List.range i).any fun k=>decide (xs.getD k (dflt .str)=xs.getD i (dflt .str)) <;> rfl) (fun g=>all_end)
 refine key.trans ?_
 unfold namesB
 cases (List.range xs.length).any fun i=>!nmB (xs.getD i (dflt .str))||dupB (fun i=>xs.getD i (dflt .str)) i <;> rfl
end Go.Proofs.YtgmpfbpemmohnaaGreatDoor
end
section
/- Rows of tables: what the program's functions and the reference's say of them. -/
namespace Go.Proofs.YtgmpfbpemmohnaaGreatDoor
open Go Go.Proofs Go.Proofs.Sv Go.Proofs.Xv Go.Proofs.Xl Go.Proofs.Xd
theorem r218 (xs:List Int) (h:xs.length≤9223372036854775807) (h1:1≤xs.length):u218 xs=some (minN xs):=by
 unfold u218
 rw [if_neg (by simp; omega)]
 unfold u218J0
 rw [gd_pos ⟨⟨by omega,by omega⟩,trivial⟩]
 have key:=lp_fold (n:=xs.length - 1) (by omega) (fun i (m:Int)=>(m,((i+1:Nat):Int))) (fun i m=>min m (xs.getD (i+1) 0)) (fun _ _=>True) (J:=fun m=>some m) (F:=u218L2 xs) (fun g i s hi _=>by
  refine (if_pos (by simp; omega)).trans ?_
  rw [gd_pos ⟨⟨by omega,by omega⟩,trivial⟩,gd_pos ⟨⟨by omega,by omega⟩,trivial⟩]
  rfl) (fun _ _ _ _=>trivial) (fun g s _=>by
  have e:xs.length - 1+1=xs.length:=by omega
  show u218L2 xs g (s,((xs.length - 1+1:Nat):Int))=some s
  rw [e]
  exact all_end) (xs.getD 0 0) trivial
 exact key
theorem r216 (t:Y223) (p:Bool) (hw:wf y223 t):u216 t p=some (!isTable t||p&&decide (minN t.2.2 < 0)):=by
 unfold u216
 have hv:p=true∧(!isTable t)=false∧True→(u218 t.2.2).isSome=true:=fun hc=>by
  have h2:isTable t=true:=by simpa using hc.2.1
  rw [r218 _ hw.2.2.1 (table_len h2).2.2.2.2.2.1]; rfl
 rw [r217 t hw,vl_some,gd_pos ⟨rfl,hv,trivial⟩,lt_eq]
 refine congrArg some ?_
 cases hT:isTable t with
 | false=>rfl
 | true=>rw [r218 _ hw.2.2.1 (table_len hT).2.2.2.2.2.1,vl_some]
theorem r204 (l:List Y223) (p:Bool) (hw:wf (.sl y223) l):u204 l p=some (areTables l p):=by
 have h:=hw.1
 have h1:u225c216 l p=_:=idx_some h (fun i=>!isTable (l.getD i (dflt y223))||p&&decide (minN (l.getD i (dflt y223)).2.2 < 0)) (fun g i hi=>idx_el hi h (r216 _ _ (wf_el hi hw))) (fun g=>all_end)
 have h2:u215c216 l p=_:=has_some h1
 rw [any_getD l (dflt y223) (fun t=>!isTable t||p&&decide (minN t.2.2 < 0))] at h2
 unfold u204
 rw [h2,vl_some,gd_pos ⟨fun _=>rfl,trivial⟩]
 refine congrArg some ?_
 unfold areTables
 have e:((l.length:Int)==2)=decide (l.length=2):=by
  rw [Bool.eq_iff_iff,beq_iff_eq,decide_eq_true_eq]; omega
 rw [e,← all_any]
 congr 3
 funext t
 rw [Bool.not_and,Bool.not_not]
theorem fst_fold (xs:List Int):∀ n,(foldN (fun i (s:Int×Int)=>(min s.1 (xs.getD (i+1) 0),max s.2 (xs.getD (i+1) 0))) n (xs.getD 0 0,xs.getD 0 0)).1=foldN (fun i m=>min m (xs.getD (i+1) 0)) n (xs.getD 0 0)
 | 0=>rfl
 | n+1=>by rw [foldN,foldN,fst_fold xs n]
theorem r194 (t:Y223) (hw:wf y223 t):∃ l,u194 t=some (if isTable t=true then ((minN t.2.2,l),0) else ((0,0),1)):=by
 unfold u194
 rw [r209 t hw,vl_some,gd_pos ⟨rfl,trivial⟩]
 cases hT:isTable t with
 | false=>exact ⟨0,rfl⟩
 | true =>
   have h1:=(table_len hT).2.2.2.2.2.1
   have h:=hw.2.2.1
   have key:=lp_fold (n:=t.2.2.length - 1) (by omega) (fun i (s:Int×Int)=>(((i+1:Nat):Int),s.1,s.2)) (fun i s=>(min s.1 (t.2.2.getD (i+1) 0),max s.2 (t.2.2.getD (i+1) 0))) (fun _ _=>True) (J:=fun s=>some ((s.1,s.2),(0:Int))) (F:=u194L1 t) (fun g i s hi _=>by
    refine (if_pos (by simp; omega)).trans ?_
    rw [gd_pos ⟨⟨by omega,by omega⟩,trivial⟩,gd_pos ⟨⟨by omega,by omega⟩,trivial⟩,gd_pos ⟨⟨by omega,by omega⟩,trivial⟩]
    rfl) (fun _ _ _ _=>trivial) (fun g s _=>by
    have e:t.2.2.length - 1+1=t.2.2.length:=by omega
    show u194L1 t g (((t.2.2.length - 1+1:Nat):Int),s.1,s.2)=_
    rw [e]
    exact all_end) (t.2.2.getD 0 0,t.2.2.getD 0 0) trivial
   rw [if_neg (by simp),gd_pos ⟨⟨by omega,by omega⟩,⟨by omega,by omega⟩,trivial⟩]
   rw [fst_fold] at key
   exact ⟨_,key⟩
theorem r181 (l:List Y223) (p:Bool) (hw:wf (.sl y223) l):u181 l p=some (areTables l p):=by
 unfold u181
 have e:((l.length:Int) != 2)=!decide (l.length=2):=by
  rw [Bool.eq_iff_iff]; simp; omega
 rw [e]
 unfold areTables
 by_cases h2:l.length=2
 ·have key:=lp_all (n:=2) (by decide) (fun i=>!isTable (l.getD i (dflt y223))||p&&decide (minN (l.getD i (dflt y223)).2.2 < 0)) (some false) (e:=some true) (F:=u181L1 p l) (fun g i hi=>by
   obtain ⟨m,hm⟩:=r194 (l.getD i (dflt y223)) (wf_el (by omega) hw)
   have e3:((i:Int)).toNat=i:=rfl
   refine (if_pos (by simp; omega)).trans ?_
   rw [e3,hm,vl_some,gd_pos ⟨⟨by omega,by omega⟩,rfl,trivial⟩,lt_eq,gd_pos ⟨⟨by omega,by omega⟩,trivial⟩]
   cases isTable (l.getD i (dflt y223)) <;> rfl) (fun g=>by
   unfold u181L1
   exact if_neg (by decide))
  rw [decide_eq_true h2,if_neg (by simp)]
  refine key.trans ?_
  have:=any_getD l (dflt y223) (fun t=>!isTable t||p&&decide (minN t.2.2 < 0))
  rw [h2] at this
  rw [this,← all_any,Bool.true_and]
  have e5:(fun t:Y223=>!(isTable t&&!(p&&decide (minN t.2.2 < 0))))=fun t=>!isTable t||p&&decide (minN t.2.2 < 0):=by
   funext t; rw [Bool.not_and,Bool.not_not]
  rw [e5]
  cases l.any fun t=>!isTable t||p&&decide (minN t.2.2 < 0) <;> rfl
 ·rw [decide_eq_false h2]; rfl
end Go.Proofs.YtgmpfbpemmohnaaGreatDoor
end
section
/- Cells: what the program's functions and the reference's say of them. -/
namespace Go.Proofs.YtgmpfbpemmohnaaGreatDoor
open Go Go.Proofs Go.Proofs.Sv Go.Proofs.Xv Go.Proofs.Xl Go.Proofs.Xd
abbrev pinOf (c:Y134) (i:Nat):Y205:=c.2.2.1.getD i (dflt y205)
abbrev arcOf (c:Y134) (i:Nat):Y139:=c.2.2.2.1.getD i (dflt y139)
theorem r188 (c:Y134) (hw:wf y134 c):u188 c=some ((c.2.2.1.length:Int) - 1):=by
 have h:=hw.2.2.1.1
 have e:u184 c.2.2.1=some (c.2.2.1.length:Int):=rfl
 unfold u188
 rw [e,vl_some,gd_pos ⟨rfl,⟨by omega,by omega⟩,trivial⟩,lt_eq]
theorem r206 (c:Y134) (hw:wf y134 c) (x:Int):u206 c x=some (inB x 0 ((c.2.2.1.length:Int) - 1 - 1)):=by
 have h:=hw.2.2.1.1
 unfold u206
 rw [r188 c hw,vl_some,r120,vl_some,gd_pos ⟨rfl,⟨by omega,by omega⟩,rfl,trivial⟩]
theorem r205 (c:Y134) (hw:wf y134 c):u205 c=some (clkI c.2.2.1.length (pinOf c)):=by
 have h:=hw.2.2.1.1
 have h1:u219c220 c.2.2.1=_:=idx_some h (fun i=>(pinOf c i).2.2.2) (fun g i hi=>idx_el hi h rfl) (fun g=>all_end)
 unfold u205
 rw [h1,vl_some,gd_pos ⟨rfl,trivial⟩,lt_eq]
 rfl
theorem r189 (c:Y134) (hw:wf y134 c) (k:Int):u189 c k=some (hasB c.2.2.2.1.length (arcOf c) k):=by
 have h:=hw.2.2.2.1.1
 have h1:u207c208 c.2.2.2.1 k=_:=idx_some h (fun i=>(arcOf c i).1==k) (fun g i hi=>idx_el hi h rfl) (fun g=>all_end)
 have h2:u186c208 c.2.2.2.1 k=_:=has_some h1
 unfold u189
 rw [h2,vl_some,gd_pos ⟨rfl,trivial⟩]
 rfl
theorem r185 (c:Y134) (a:Y139) (hc:wf y134 c) (ha:wf y139 a):u185 c a=some (isArcI c.2.2.1.length (pinOf c) a):=by
 obtain ⟨_,_,_,_,hd,hs⟩:=ha
 have ek:u203 a.1=some (a.1==4||a.1==5):=rfl
 have hg:inB a.2.1 0 ((c.2.2.1.length:Int) - 1 - 1)=true→ix a.2.1 c.2.2.1.length:=fun h=>by
  rw [inB_iff] at h; exact ⟨by omega,by omega⟩
 unfold u185
 rw [ek,r204 _ _ hd,r204 _ _ hd,r204 _ _ hs,r205 c hc,r206 c hc,r206 c hc,r188 c hc]
 repeat rw [vl_some]
 rw [gd_pos ⟨rfl,trivial⟩]
 unfold isArcI
 by_cases k45:a.1=4∨a.1=5
 ·have e1:(a.1==4||a.1==5)=true:=by simpa using k45
  rw [if_pos e1,if_pos k45,gd_pos ⟨fun _=>rfl,fun _=>rfl,fun _=>rfl,trivial⟩,lt_eq]
 ·have e1:(a.1==4||a.1==5)=false:=by
   rw [← Bool.not_eq_true]; simpa using k45
  rw [e1,if_neg (by simp),if_neg k45,gd_pos ⟨rfl,fun _=>rfl,fun _=>rfl,fun _=>rfl,trivial⟩,lt_eq]
  by_cases hgo:areTables a.2.2.2.2.1 true=true∧areTables a.2.2.2.2.2 true=true∧a.2.2.1=(c.2.2.1.length:Int) - 1∧inB a.2.1 0 ((c.2.2.1.length:Int) - 1 - 1)=true
  ·obtain ⟨g1,g2,g3,g4⟩:=hgo
   have e3:(areTables a.2.2.2.2.1 true&&areTables a.2.2.2.2.2 true&&a.2.2.1==(c.2.2.1.length:Int) - 1&&inB a.2.1 0 ((c.2.2.1.length:Int) - 1 - 1))=true:=by
    rw [g1,g2,g4,g3]; simp
   have e2:(!areTables a.2.2.2.2.1 true||!areTables a.2.2.2.2.2 true||a.2.2.1 != (c.2.2.1.length:Int) - 1||!inB a.2.1 0 ((c.2.2.1.length:Int) - 1 - 1))=false:=by
    rw [g1,g2,g4,g3]; simp
   rw [e3,Bool.true_and]
   refine (if_neg (by rw [e2]; simp)).trans ?_
   by_cases k1:a.1=1
   ·rw [if_pos (beq_iff_eq.2 k1),if_pos k1,r120,gd_pos ⟨hg g4,fun _=>rfl,trivial⟩]
    rfl
   ·rw [if_neg (by simpa using k1),if_neg k1]
    have j:∀ b,u185J0 c a b=some (if b=true then (pinOf c a.2.1.toNat).2.2.2&&a.2.2.2.1==0 else false):=fun b=>by
     unfold u185J0
     cases b with
     | false=>rfl
     | true=>rw [if_pos rfl,if_pos rfl,gd_pos ⟨hg g4,trivial⟩]
    by_cases k2:a.1=2
    ·rw [if_pos (beq_iff_eq.2 k2),if_pos (.inl k2),j,beq_iff_eq.2 k2]; rfl
    ·rw [if_neg (by simpa using k2),j]
     by_cases k3:a.1=3
     ·rw [beq_iff_eq.2 k3,if_pos rfl,if_pos (.inr k3)]
     ·rw [beq_eq_false_iff_ne.2 k3,if_neg (by simp),if_neg (by omega)]
  ·have e2:(!areTables a.2.2.2.2.1 true||!areTables a.2.2.2.2.2 true||a.2.2.1 != (c.2.2.1.length:Int) - 1||!inB a.2.1 0 ((c.2.2.1.length:Int) - 1 - 1))=true:=by
    rw [← Bool.not_eq_false]
    intro h
    simp only [Bool.or_eq_false_iff,Bool.not_eq_false',bne_eq_false_iff_eq] at h
    exact hgo ⟨h.1.1.1,h.1.1.2,h.1.2,h.2⟩
   have e3:(areTables a.2.2.2.2.1 true&&areTables a.2.2.2.2.2 true&&a.2.2.1==(c.2.2.1.length:Int) - 1&&inB a.2.1 0 ((c.2.2.1.length:Int) - 1 - 1))=false:=by
    rw [← Bool.not_eq_true]
    intro h
    simp only [Bool.and_eq_true,beq_iff_eq] at h
    exact hgo ⟨h.1.1.1,h.1.1.2,h.1.2,h.2⟩
   rw [e3,Bool.false_and]
   exact if_pos e2
theorem r170 (c:Y134) (a:Y139) (hc:wf y134 c) (ha:wf y139 a):u170 c a=some (isArcS c.2.2.1.length (pinOf c) a):=by
 obtain ⟨_,_,_,_,hd,hs⟩:=ha
 have h:=hc.2.2.1.1
 unfold u170
 rw [gd_pos ⟨⟨by omega,by omega⟩,trivial⟩,r69,r69]
 repeat rw [vl_some]
 rw [gd_pos ⟨⟨by omega,by omega⟩,rfl,fun _=>rfl,trivial⟩]
 unfold isArcS
 by_cases hgo:inB a.2.1 0 ((c.2.2.1.length:Int) - 1 - 1)=true∧inB a.2.2.1 0 ((c.2.2.1.length:Int) - 1)=true
 ·obtain ⟨g1,g2⟩:=hgo
  have b1:=inB_iff.1 g1
  have b2:=inB_iff.1 g2
  rw [g1,g2,if_neg (by simp),gd_pos ⟨⟨by omega,by omega⟩,trivial⟩,lt_eq,Bool.true_and,Bool.true_and]
  by_cases k1:a.1=1
  ·rw [if_pos (beq_iff_eq.2 k1),if_pos k1,r69,r181 _ _ hd,r181 _ _ hs,gd_pos ⟨fun _=>rfl,fun _=>rfl,fun _=>rfl,trivial⟩]
   rfl
  ·rw [if_neg (by simpa using k1),if_neg k1]
   have j1:∀ b,u170J1 (pinOf c a.2.1.toNat) a c b=some (if b=true then (pinOf c a.2.1.toNat).2.2.2&&decide (a.2.2.1 < (c.2.2.1.length:Int) - 1)&&!(pinOf c a.2.2.1.toNat).2.2.2&&a.2.2.2.1==0&&areTables a.2.2.2.2.1 false&&(a.2.2.2.2.2.length:Int)==0 else false):=fun b=>by
    unfold u170J1
    cases b with
    | false=>rfl
    | true =>
      rw [if_pos rfl,if_pos rfl,r181 _ _ hd,gd_pos ⟨fun _=>⟨by omega,by omega⟩,fun _=>rfl,trivial⟩]
      rfl
   have j0:∀ b,u170J0 (pinOf c a.2.1.toNat) a c b=some (if b=true then (pinOf c a.2.1.toNat).2.2.2&&a.2.2.1==(c.2.2.1.length:Int) - 1&&a.2.2.2.1==0&&areTables a.2.2.2.2.1 true&&areTables a.2.2.2.2.2 true else if a.1=4∨a.1=5 then (pinOf c a.2.1.toNat).2.2.2&&decide (a.2.2.1 < (c.2.2.1.length:Int) - 1)&&!(pinOf c a.2.2.1.toNat).2.2.2&&a.2.2.2.1==0&&areTables a.2.2.2.2.1 false&&(a.2.2.2.2.2.length:Int)==0 else false):=fun b=>by
    unfold u170J0
    cases b with
    | true =>
      rw [if_pos rfl,if_pos rfl,r181 _ _ hd,r181 _ _ hs,gd_pos ⟨fun _=>rfl,fun _=>rfl,trivial⟩]
      rfl
    | false =>
      show (if (a.1==4)=true then u170J1 (pinOf c a.2.1.toNat) a c (a.1==4) else u170J1 (pinOf c a.2.1.toNat) a c (a.1==5))=some (if a.1=4∨a.1=5 then _ else false)
      by_cases k4:a.1=4
      ·rw [if_pos (beq_iff_eq.2 k4),j1,beq_iff_eq.2 k4,if_pos rfl,if_pos (.inl k4)]
      ·rw [if_neg (by simpa using k4),j1]
       by_cases k5:a.1=5
       ·rw [beq_iff_eq.2 k5,if_pos rfl,if_pos (.inr k5)]
       ·rw [beq_eq_false_iff_ne.2 k5,if_neg (by simp),if_neg (by omega)]
   by_cases k2:a.1=2
   ·rw [if_pos (beq_iff_eq.2 k2),if_pos (.inl k2)]
    refine (j0 _).trans ?_
    rw [beq_iff_eq.2 k2]; rfl
   ·rw [if_neg (by simpa using k2)]
    refine (j0 _).trans ?_
    by_cases k3:a.1=3
    ·rw [beq_iff_eq.2 k3,if_pos rfl,if_pos (.inr k3)]
    ·rw [beq_eq_false_iff_ne.2 k3,if_neg (by simp),if_neg (by omega:¬ (a.1=2∨a.1=3))]
 ·have e2:(!inB a.2.1 0 ((c.2.2.1.length:Int) - 1 - 1)||!inB a.2.2.1 0 ((c.2.2.1.length:Int) - 1))=true:=by
   rw [← Bool.not_eq_false]
   intro h
   simp only [Bool.or_eq_false_iff,Bool.not_eq_false'] at h
   exact hgo h
  have e3:(inB a.2.1 0 ((c.2.2.1.length:Int) - 1 - 1)&&inB a.2.2.1 0 ((c.2.2.1.length:Int) - 1))=false:=by
   rw [← Bool.not_eq_true]
   intro h
   rw [Bool.and_eq_true] at h
   exact hgo h
  rw [e3,Bool.false_and]
  exact if_pos e2
end Go.Proofs.YtgmpfbpemmohnaaGreatDoor
end
section
/- Pins, arcs, cells: what the program's functions and the reference's say of them. -/
namespace Go.Proofs.YtgmpfbpemmohnaaGreatDoor
open Go Go.Proofs Go.Proofs.Sv Go.Proofs.Xv Go.Proofs.Xl Go.Proofs.Xd
theorem wf_pins {c:Y134} (hw:wf y134 c):wf (.sl y205) c.2.2.1:=hw.2.2.1
theorem wf_arcs {c:Y134} (hw:wf y134 c):wf (.sl y139) c.2.2.2.1:=hw.2.2.2.1
theorem names_map {α:Type} (l:List α) (f:α→ByteArray) (d:α) (e:ByteArray):namesB (l.map f).length (fun i=>(l.map f).getD i e)=namesB l.length fun i=>f (l.getD i d):=by
 rw [List.length_map]
 exact namesB_congr fun i hi=>getD_map' f l i d e hi
theorem wf_map {α:Type} {l:List α} {f:α→ByteArray} (h:l.length≤9223372036854775807) (hf:∀ x∈l,(f x).size≤9223372036854775807):wf (.sl .str) (l.map f):=by
 refine ⟨by rw [List.length_map]; exact h,fun x hx=>?_⟩
 obtain ⟨y,hy,rfl⟩:=List.mem_map.1 hx
 exact hf y hy
def gath (f:Nat→ByteArray) (i:Nat) (s:List ByteArray):List ByteArray:=s++[f i]
theorem gath_eq (f:Nat→ByteArray):∀ n,foldN (gath f) n []=(List.range n).map f
 | 0=>rfl
 | n+1=>by
   rw [foldN,gath_eq f n,List.range_succ,List.map_append]; rfl
theorem gath_row {α:Type} (l:List α) (d:α) (f:α→ByteArray):foldN (gath fun i=>f (l.getD i d)) l.length []=l.map f:=by
 rw [gath_eq,range_map]
theorem app_ok {n i b:Nat} (h:i < n) (hn:n≤1048576) (hb:b≤4096):i+1≤9223372036854775807∧(i+1)*b≤140737488355328:=by
 have:(i+1)*b≤1048576*4096:=Nat.mul_le_mul (by omega) hb
 exact ⟨by omega,by omega⟩
theorem r173 (l:List Y205) (hw:wf (.sl y205) l) (hm:l.length≤1048576):u173 l=some (pinsOk l.length fun i=>l.getD i (dflt y205)):=by
 have h:=hw.1
 have key:=lp_foldE (n:=l.length) h (fun i (s:List ByteArray)=>(s,(i:Int))) (gath fun i=>(l.getD i (dflt y205)).1) (fun i=>!pinB l.length (l.getD i (dflt y205)) i) (some false) (fun i s=>s.length=i) (J:=u173J0 l) (F:=u173L1 l) (fun g i s hi hI=>by
  refine (if_pos (by simpa using hi)).trans ?_
  have e3:((i:Int)).toNat=i:=rfl
  have hs:(s++[(l.getD i (dflt y205)).1]).length≤9223372036854775807:=by rw [List.length_append]; show s.length+1≤_; omega
  have ha:=app_ok (b:=16) hi hm (by decide)
  have j2:∀ s',u173J2 (i:Int) g s'=g (s',((i+1:Nat):Int)):=fun s'=>gd_pos ⟨⟨by omega,by omega⟩,trivial⟩
  rw [e3,gd_pos ⟨⟨by omega,by omega⟩,trivial⟩,lt_eq,gd_pos ⟨⟨by show s.length+1≤_; omega,by show (s.length+1)*16≤_; omega⟩,trivial⟩,gd_pos ⟨⟨by omega,by omega⟩,trivial⟩,j2,r120,gd_pos ⟨fun _=>rfl,trivial⟩,vl_some]
  unfold pinB gath
  dsimp only
  by_cases hl:i+1=l.length
  ·have e1:((i:Int)==(l.length:Int) - 1)=true:=by rw [beq_iff_eq]; omega
   rw [if_pos e1,if_pos hl]
   generalize l.getD i (dflt y205)=q
   have n1:(q.2.1 != 2)=!(q.2.1==2):=rfl
   have n2:(q.2.2.1 != 0)=!(q.2.2.1==0):=rfl
   rw [n1,n2]
   cases c2:q.2.2.1==0 with
   | true =>
     have c3:inB q.2.2.1 0 500=true:=by rw [beq_iff_eq.1 c2]; rfl
     rw [c3]
     cases q.2.1==2 <;> cases q.2.2.2 <;> rfl
   | false=>cases inB q.2.2.1 0 500 <;> cases q.2.1==2 <;> cases q.2.2.2 <;> rfl
  ·have e1:¬ ((i:Int)==(l.length:Int) - 1)=true:=by rw [beq_iff_eq]; omega
   rw [if_neg e1,if_neg hl]
   generalize l.getD i (dflt y205)=q
   have e4:(q.2.1 != 1||!inB q.2.2.1 0 500)=!(inB q.2.2.1 0 500&&q.2.1==1):=by
    rw [Bool.not_and,Bool.or_comm]; rfl
   rw [e4]) (fun i s hi hI _=>by unfold gath; rw [List.length_append,hI]; rfl) (fun g s _=>all_end) [] rfl
 refine key.trans ?_
 rw [gath_row]
 have hn:wf (.sl .str) (l.map fun q:Y205=>q.1):=wf_map h fun x hx=>(hw.2 x hx).1
 have e5:u184 l=some (l.length:Int):=rfl
 have e7:∀ v:List ByteArray,wf (.sl .str) v→u173J0 l v=some (inB (l.length:Int) 2 5&&namesB v.length fun i=>v.getD i (dflt .str)):=fun v hv=>by
  rw [u173J0]
  rw [e5,r157 _ hv]
  repeat rw [vl_some]
  rw [r120,vl_some,gd_pos ⟨rfl,rfl,fun _=>rfl,trivial⟩]
 rw [e7 _ hn,names_map l (fun q:Y205=>q.1) (dflt y205)]
 unfold pinsOk
 have e6:inB (l.length:Int) 2 5=(decide (2≤l.length)&&decide (l.length≤5)):=by
  rw [Bool.eq_iff_iff,inB_iff]; simp; omega
 rw [e6]
 cases (List.range l.length).any fun i=>!pinB l.length (l.getD i (dflt y205)) i
 ·simp
 ·simp
theorem r169 (c:Y134) (hw:wf y134 c):u169 c=some (if pinsOk c.2.2.1.length (pinOf c)=true then (clkN c.2.2.1.length (pinOf c),true) else (0,false)):=by
 have hp:=wf_pins hw
 have h:=hp.1
 unfold u169
 by_cases hr:2≤c.2.2.1.length∧c.2.2.1.length≤5
 ·have e0:(decide ((c.2.2.1.length:Int) < 2)||decide (5 < (c.2.2.1.length:Int)))=false:=by
   rw [← Bool.not_eq_true]; simp; omega
  rw [e0,if_neg (by simp)]
  have key:=lp_foldE (n:=c.2.2.1.length) h (fun i (s:Int)=>(s,(i:Int))) (fun i s=>if (pinOf c i).2.2.2=true then s+1 else s) (fun i=>(!nmB (pinOf c i).1||dupB (fun i=>(pinOf c i).1) i)||!pinB c.2.2.1.length (pinOf c i) i) (some ((0:Int),false)) (fun i s=>0≤s∧s≤i) (J:=u169J0) (F:=u169L1 c) (fun g i s hi hI=>by
   refine (if_pos (by simpa using hi)).trans ?_
   have e3:((i:Int)).toNat=i:=rfl
   have hs:(pinOf c i).1.size≤9223372036854775807:=(wf_el (d:=dflt y205) hi hp).1
   rw [e3,gd_pos ⟨⟨by omega,by omega⟩,trivial⟩,lt_eq]
   have inner:=lp_all (n:=i) (by omega) (fun k=>decide ((pinOf c k).1=(pinOf c i).1)) (some ((0:Int),false)) (e:=u169J3 (i:Int) s (pinOf c i) c g ()) (F:=u169L4 c (pinOf c i) (i:Int) s g) (fun g3 k hk=>all_el hk (by omega) ⟨⟨by omega,by omega⟩,trivial⟩) (fun g3=>all_end)
   refine inner.trans ?_
   have j3:u169J3 (i:Int) s (pinOf c i) c g ()=if (!nmB (pinOf c i).1||!pinB c.2.2.1.length (pinOf c i) i)=true then some ((0:Int),false) else g (if (pinOf c i).2.2.2=true then s+1 else s,((i+1:Nat):Int)):=by
    have j2:∀ s',u169J2 (i:Int) g s'=g (s',((i+1:Nat):Int)):=fun s'=>gd_pos ⟨⟨by omega,by omega⟩,trivial⟩
    show gd _ (if (!vl (u155 (pinOf c i).1)||!vl (u69 (pinOf c i).2.2.1 0 500))=true then _ else gd _ (if _=true then _ else if _=true then gd _ _ else _))=_
    rw [r155 _ hs,r69,vl_some,vl_some,gd_pos ⟨rfl,fun _=>rfl,trivial⟩,gd_pos ⟨⟨by omega,by omega⟩,fun _=>⟨by omega,by omega⟩,trivial⟩,gd_pos ⟨⟨by omega,by omega⟩,trivial⟩,j2,j2]
    generalize pinOf c i=q
    have hx:((i:Int)==(c.2.2.1.length:Int) - 1)=decide (i+1=c.2.2.1.length):=by
     rw [Bool.eq_iff_iff,beq_iff_eq,decide_eq_true_eq]; omega
    have hy:decide ((i:Int) < (c.2.2.1.length:Int) - 1)=!decide (i+1=c.2.2.1.length):=by
     rw [Bool.eq_iff_iff]; simp; omega
    rw [hx,hy]
    have hz:pinB c.2.2.1.length q i=(inB q.2.2.1 0 500&&(if decide (i+1=c.2.2.1.length)=true then q.2.1==2&&q.2.2.1==0&&!q.2.2.2 else q.2.1==1)):=by
     unfold pinB
     by_cases hq:i+1=c.2.2.1.length
     ·rw [if_pos hq,decide_eq_true hq,if_pos rfl]
     ·rw [if_neg hq,decide_eq_false hq,if_neg (by simp)]
    rw [hz]
    have n1:(q.2.1 != 2)=!(q.2.1==2):=rfl
    have n2:(q.2.2.1 != 0)=!(q.2.2.1==0):=rfl
    have n3:(q.2.1 != 1)=!(q.2.1==1):=rfl
    rw [n1,n2,n3]
    cases nmB q.1 <;> cases inB q.2.2.1 0 500 <;> cases decide (i+1=c.2.2.1.length) <;> cases q.2.1==2 <;> cases q.2.2.1==0 <;> cases q.2.1==1 <;> cases q.2.2.2 <;> rfl
   rw [j3]
   have hd:dupB (fun i=>(pinOf c i).1) i=(List.range i).any fun k=>decide ((pinOf c k).1=(pinOf c i).1):=rfl
   rw [hd]
   cases nmB (pinOf c i).1 <;> cases pinB c.2.2.1.length (pinOf c i) i <;> cases (List.range i).any (fun k=>decide ((pinOf c k).1=(pinOf c i).1)) <;> rfl) (fun i s hi hI _=>by
   have hI':0≤s∧s≤(i:Int):=hI
   show 0≤(if (pinOf c i).2.2.2=true then s+1 else s)∧(if (pinOf c i).2.2.2=true then s+1 else s)≤((i+1:Nat):Int)
   split <;> omega) (fun g s _=>all_end) 0 ⟨by omega,by omega⟩
  refine key.trans ?_
  rw [any_or]
  unfold pinsOk namesB
  rw [decide_eq_true hr.1,decide_eq_true hr.2]
  cases (List.range c.2.2.1.length).any (fun i=>!nmB (pinOf c i).1||dupB (fun i=>(pinOf c i).1) i) <;> cases (List.range c.2.2.1.length).any (fun i=>!pinB c.2.2.1.length (pinOf c i) i) <;> rfl
 ·have e0:(decide ((c.2.2.1.length:Int) < 2)||decide (5 < (c.2.2.1.length:Int)))=true:=by
   simp; omega
  have e1:¬ pinsOk c.2.2.1.length (pinOf c)=true:=fun hc=>by
   obtain ⟨h1,h2,_⟩:=pins_last hc
   exact hr ⟨h1,h2⟩
  rw [if_pos e0,if_neg e1]
end Go.Proofs.YtgmpfbpemmohnaaGreatDoor
end

/- The links of a block. Plain facts. -/
import Derived.Test.YtgmpfbpemmohnaaGreatDoorWD
import Derived.Test.YtgmpfbpemmohnaaGreatDoorWA
section
/- The links of a block. Plain facts. -/
namespace Go.Proofs.Xd
open Go Go.Proofs Go.Proofs.Xl
abbrev DLink:=Int×Int×Int×Int
def transV (k s:Int):List (Int×Int):=if (k==2)=true then [(0,0),(0,1)] else if (k==3)=true then [(1,0),(1,1)] else if (k != 1)=true then [] else if (s==1)=true then [(0,0),(1,1)] else if (s==2)=true then [(0,1),(1,0)] else [(0,0),(0,1),(1,0),(1,1)]
theorem transV_ok (k s:Int):(transV k s).length≤4∧∀ t∈transV k s,0≤t.1∧t.1≤1∧0≤t.2∧t.2≤1:=by
  unfold transV
  split
  · exact ⟨by decide,by decide⟩
  split
  · exact ⟨by decide,by decide⟩
  split
  · exact ⟨by decide,by decide⟩
  split
  · exact ⟨by decide,by decide⟩
  split
  · exact ⟨by decide,by decide⟩
  · exact ⟨by decide,by decide⟩
def clinkF (f a b x:Int) (tr:List (Int×Int)) (k:Nat) (s:List DLink):List DLink:=s++[(2*(f+a)+(tr.getD k (0,0)).1,2*(f+b)+(tr.getD k (0,0)).2,1,x)]
theorem clinkF_len (f a b x:Int) (tr:List (Int×Int)) (s:List DLink):∀ k,(foldN (clinkF f a b x tr) k s).length=s.length+k
  | 0=>rfl
  | k+1=>by
    have:=clinkF_len f a b x tr s k
    show (clinkF f a b x tr k (foldN (clinkF f a b x tr) k s)).length=_
    generalize foldN (clinkF f a b x tr) k s=z at this
    unfold clinkF
    rw [List.length_append,this]; rfl
def carcF (f:Int) (arcs:Nat→DArc) (j:Nat) (s:List DLink):List DLink:=foldN (clinkF f (arcs j).2.1 (arcs j).2.2.1 (j:Int) (transV (arcs j).1 (arcs j).2.2.2.1)) (transV (arcs j).1 (arcs j).2.2.2.1).length s
theorem carcF_len (f:Int) (arcs:Nat→DArc) (j:Nat) (s:List DLink):(carcF f arcs j s).length≤s.length+4:=by
  unfold carcF
  rw [clinkF_len]
  have:=(transV_ok (arcs j).1 (arcs j).2.2.2.1).1
  omega
def cellLinksD (f:Int) (arcs:Nat→DArc) (m:Nat):List DLink:=foldN (carcF f arcs) m []
theorem cellLinksD_len (f:Int) (arcs:Nat→DArc):∀ m,(cellLinksD f arcs m).length≤4*m
  | 0=>Nat.le_refl _
  | m+1=>by
    have h1:=cellLinksD_len f arcs m
    have h2:=carcF_len f arcs m (cellLinksD f arcs m)
    show (carcF f arcs m (cellLinksD f arcs m)).length≤_
    omega
def instLF (nets:Nat→Nat) (arcs:Nat→Nat→DArc) (ms:Nat→Nat) (i:Nat) (s:Int×List DLink):Int×List DLink:=(s.1+(nets i:Int),s.2++cellLinksD s.1 (arcs i) (ms i))
theorem instLF_in {nets:Nat→Nat} {arcs:Nat→Nat→DArc} {ms:Nat→Nat} {n:Nat} (h:∀ i,i < n→nets i≤5∧ms i≤8):∀ m,m≤n→0≤(foldN (instLF nets arcs ms) m (0,[])).1∧(foldN (instLF nets arcs ms) m (0,[])).1≤5*(m:Int)∧(foldN (instLF nets arcs ms) m (0,[])).2.length≤32*m
  | 0,_=>⟨Int.le_refl _,Int.le_refl _,Nat.le_refl _⟩
  | m+1,hm=>by
    obtain ⟨h1,h2,h3⟩:=instLF_in h m (by omega)
    obtain ⟨h4,h5⟩:=h m (by omega)
    show 0≤(instLF nets arcs ms m (foldN (instLF nets arcs ms) m (0,[]))).1∧(instLF nets arcs ms m (foldN (instLF nets arcs ms) m (0,[]))).1≤_∧(instLF nets arcs ms m (foldN (instLF nets arcs ms) m (0,[]))).2.length≤_
    generalize foldN (instLF nets arcs ms) m (0,[])=z at h1 h2 h3
    unfold instLF
    have:=cellLinksD_len z.1 (arcs m) (ms m)
    refine ⟨by show 0≤z.1+(nets m:Int); omega,by show z.1+(nets m:Int)≤_; omega,?_⟩
    show (z.2++cellLinksD z.1 (arcs m) (ms m)).length≤_
    rw [List.length_append]; omega
def gridF (pl:Nat→DPlace) (i:Nat) (s:List (List Int)×List Int):List (List Int)×List Int:=if (pl i).2.2.2=true then (s.1,s.2.set (pl i).2.2.1.toNat (i:Int)) else (s.1.set (pl i).2.2.1.toNat (s.1.getD (pl i).2.2.1.toNat []++[(i:Int)]),s.2)
def drvN (pl:Nat→DPlace) (t:Int) (m:Nat):Int:=foldN (fun i s=>if ((pl i).2.2.1==t&&(pl i).2.2.2)=true then (i:Int) else s) m 0
theorem drvN_in (pl:Nat→DPlace) (t:Int):∀ m,0≤drvN pl t m∧drvN pl t m≤m
  | 0=>⟨Int.le_refl _,Int.le_refl _⟩
  | m+1=>by
    have:=drvN_in pl t m
    have e:drvN pl t (m+1)=if ((pl m).2.2.1==t&&(pl m).2.2.2)=true then (m:Int) else drvN pl t m:=rfl
    rw [e]
    split <;> omega
theorem sinkL_succ (pl:Nat→DPlace) (t:Int) (m:Nat):foldN (sinkL pl t) (m+1) []=if ((pl m).2.2.1==t&&!(pl m).2.2.2)=true then foldN (sinkL pl t) m []++[(m:Int)] else foldN (sinkL pl t) m []:=rfl
theorem getD_set {α:Type} {l:List α} {i j:Nat} {x d:α} (hi:i < l.length):(l.set i x).getD j d=if j=i then x else l.getD j d:=by
  by_cases h:j=i
  · subst h; simp [hi]
  · rw [if_neg h]; simp [List.getD_eq_getElem?_getD,List.getElem?_set_ne (Ne.symm h)]
theorem grid_fold (pl:Nat→DPlace) (n:Nat):∀ m,(∀ i,i < m→inB (pl i).2.2.1 0 ((n:Int) - 1)=true)→(foldN (gridF pl) m (List.replicate n [],List.replicate n 0)).1.length=n∧(foldN (gridF pl) m (List.replicate n [],List.replicate n 0)).2.length=n ∧
    ∀ k:Nat,k < n→(foldN (gridF pl) m (List.replicate n [],List.replicate n 0)).1.getD k []=foldN (sinkL pl k) m []∧(foldN (gridF pl) m (List.replicate n [],List.replicate n 0)).2.getD k 0=drvN pl k m
  | 0,_=>⟨List.length_replicate,List.length_replicate,fun k hk=>by
    constructor
    · show (List.replicate n ([]:List Int)).getD k []=[]
      rw [List.getD_eq_getElem?_getD,List.getElem?_replicate,if_pos hk]; rfl
    · show (List.replicate n (0:Int)).getD k 0=0
      rw [List.getD_eq_getElem?_getD,List.getElem?_replicate,if_pos hk]; rfl⟩
  | m+1,h=>by
    obtain ⟨h1,h2,h3⟩:=grid_fold pl n m (fun i hi=>h i (by omega))
    have hm:=inB_iff.1 (h m (by omega))
    have e:foldN (gridF pl) (m+1) (List.replicate n [],List.replicate n 0)=gridF pl m (foldN (gridF pl) m (List.replicate n [],List.replicate n 0)):=rfl
    rw [e]
    generalize foldN (gridF pl) m (List.replicate n [],List.replicate n 0)=z at h1 h2 h3
    have hlt:(pl m).2.2.1.toNat < n:=by omega
    have ed:∀ k:Nat,drvN pl k (m+1)=if ((pl m).2.2.1==(k:Int)&&(pl m).2.2.2)=true then (m:Int) else drvN pl k m:=fun _=>rfl
    have eq:∀ k:Nat,((pl m).2.2.1==(k:Int))=decide (k=(pl m).2.2.1.toNat):=fun k=>by
      rw [Bool.eq_iff_iff,beq_iff_eq,decide_eq_true_eq]
      omega
    unfold gridF
    cases hd:(pl m).2.2.2 with
    | true =>
      rw [if_pos rfl]
      refine ⟨h1,by rw [List.length_set]; exact h2,fun k hk=>?_⟩
      rw [sinkL_succ,ed k,eq,hd]
      refine ⟨by simpa using (h3 k hk).1,?_⟩
      show (z.2.set (pl m).2.2.1.toNat (m:Int)).getD k 0=_
      rw [getD_set (by omega)]
      by_cases hkk:k=(pl m).2.2.1.toNat
      · simp [hkk]
      · rw [if_neg hkk,(h3 k hk).2]; simp [hkk]
    | false =>
      rw [if_neg (by simp)]
      refine ⟨by rw [List.length_set]; exact h1,h2,fun k hk=>?_⟩
      rw [sinkL_succ,ed k,eq,hd]
      refine ⟨?_,by simpa using (h3 k hk).2⟩
      show (z.1.set (pl m).2.2.1.toNat (z.1.getD (pl m).2.2.1.toNat []++[(m:Int)])).getD k []=_
      rw [getD_set (by omega)]
      by_cases hkk:k=(pl m).2.2.1.toNat
      · rw [if_pos hkk,← hkk,(h3 k hk).1]; simp
      · rw [if_neg hkk,(h3 k hk).1]; simp [hkk]
def wlinkF (d s x:Int) (t:Nat) (z:List DLink):List DLink:=z++[(2*d+(t:Int),2*s+(t:Int),2,x)]
def wsinkF (d:Int) (sn:List Int) (k:Nat) (z:List DLink):List DLink:=foldN (wlinkF d (sn.getD k 0) (k:Int)) 2 z
theorem wsinkF_len (d:Int) (sn:List Int) (k:Nat) (z:List DLink):(wsinkF d sn k z).length=z.length+2:=by
  show ((z++_)++_).length=_
  rw [List.length_append,List.length_append]; rfl
def netLF (d:Nat→Int) (sn:Nat→List Int) (i:Nat) (z:List DLink):List DLink:=foldN (wsinkF (d i) (sn i)) (sn i).length z
theorem wsink_len (d:Int) (sn:List Int) (z:List DLink):∀ k,(foldN (wsinkF d sn) k z).length=z.length+2*k
  | 0=>rfl
  | k+1=>by
    have:=wsink_len d sn z k
    show (wsinkF d sn k (foldN (wsinkF d sn) k z)).length=_
    rw [wsinkF_len,this]; omega
theorem netL_len (d:Nat→Int) (sn:Nat→List Int) (z:List DLink) {n c:Nat} (h:∀ i,i < n→(sn i).length≤c):∀ m,m≤n→(foldN (netLF d sn) m z).length≤z.length+2*(c*m)
  | 0,_=>by simp [foldN]
  | m+1,hm=>by
    have h1:=netL_len d sn z h m (by omega)
    have h2:=h m (by omega)
    show (foldN (wsinkF (d m) (sn m)) (sn m).length (foldN (netLF d sn) m z)).length≤_
    rw [wsink_len,Nat.mul_add c]
    omega
def appF {α:Type} (f:Nat→α) (i:Nat) (s:List α):List α:=s++[f i]
theorem appF_len {α:Type} (f:Nat→α):∀ n,(foldN (appF f) n []).length=n
  | 0=>rfl
  | n+1=>by
    have:=appF_len f n
    show (appF f n (foldN (appF f) n [])).length=_
    generalize foldN (appF f) n []=z at this
    unfold appF
    rw [List.length_append,this]; rfl
theorem appF_get {α:Type} (f:Nat→α) (d:α):∀ n i,i < n→(foldN (appF f) n []).getD i d=f i
  | n+1,i,h=>by
    have hl:=appF_len f n
    have ih:=appF_get f d n i
    show (appF f n (foldN (appF f) n [])).getD i d=_
    generalize foldN (appF f) n []=s at hl ih
    unfold appF
    rcases Nat.lt_or_ge i n with hi | hi
    · rw [getD_left (by rw [hl]; exact hi)]; exact ih hi
    · have:i=n:=by omega
      subst this
      rw [getD_right (by rw [hl]; exact Nat.le_refl _),hl,Nat.sub_self]; rfl
end Go.Proofs.Xd
end
section
/- The links of a cell: the program's way. -/
namespace Go.Proofs.YtgmpfbpemmohnaaGreatDoor
open Go Go.Proofs Go.Proofs.Sv Go.Proofs.Xv Go.Proofs.Xl Go.Proofs.Xd
theorem r138 (a:Y139):u138 a=some (transV a.1 a.2.2.2.1):=by
  unfold u138 transV
  split
  · rfl
  split
  · rfl
  split
  · rfl
  split
  · rfl
  split
  · rfl
  · rfl
theorem r98 (b:Y46) (df:DF b.1 b.2.1) {i:Nat} (hi:i < b.2.1.1.length) (f:Int) (h0:0≤f) (h1:f≤1000):u98 b (insOf b.2.1 i) f=some (cellLinksD f (arcOf (celI b i)) (celI b i).2.2.2.1.length):=by
  obtain ⟨x1,x2,x3⟩:=inst_cell' df hi
  obtain ⟨c1,c2,c3,c4⟩:=cell_arcs x2
  unfold u98
  rw [gd_pos ⟨x1,trivial⟩,lt_eq]
  show lp (u98L1 f (celI b i)) ([],0)=_
  generalize celI b i=c at c1 c2 c3 c4
  refine lp_fold (n:=c.2.2.2.1.length) (by omega) (fun (j:Nat) (s:List DLink)=>(s,(j:Int))) (carcF f (arcOf c)) (fun j s=>s.length≤4*j) (J:=fun s=>some s) (F:=u98L1 f c) (fun g j s hj hI=>?_) (fun j s hj hI=>?_) (fun g s _=>all_end) [] (Nat.le_refl _)
  · have e4:((j:Int)).toNat=j:=rfl
    obtain ⟨a1,a2,a3,a4⟩:=c4 j hj
    have hI:s.length≤4*j:=hI
    refine (if_pos (by simpa using hj)).trans ?_
    rw [e4,gd_pos ⟨⟨by omega,by omega⟩,trivial⟩,lt_eq,r138,vl_some,gd_pos ⟨rfl,trivial⟩,lt_eq]
    show lp (u98L3 f (arcOf c j) (j:Int) (transV (arcOf c j).1 (arcOf c j).2.2.2.1) g) (0,s)=g (carcF f (arcOf c) j s,_)
    obtain ⟨t1,t2⟩:=transV_ok (arcOf c j).1 (arcOf c j).2.2.2.1
    have ec:carcF f (arcOf c) j s=foldN (clinkF f (arcOf c j).2.1 (arcOf c j).2.2.1 (j:Int) (transV (arcOf c j).1 (arcOf c j).2.2.2.1)) (transV (arcOf c j).1 (arcOf c j).2.2.2.1).length s:=rfl
    rw [ec]
    generalize transV (arcOf c j).1 (arcOf c j).2.2.2.1=tr at t1 t2
    generalize arcOf c j=a at a1 a2 a3 a4
    refine (lp_fold (n:=tr.length) (by omega) (fun (k:Nat) (s:List DLink)=>((k:Int),s)) (clinkF f a.2.1 a.2.2.1 (j:Int) tr) (fun k z=>z.length=s.length+k) (J:=fun z=>u98J2 (j:Int) g z) (F:=u98L3 f a (j:Int) tr g) (fun g3 k z hk hz=>?_) (fun k z hk hz=>?_) (fun g3 z _=>all_end) s rfl).trans ?_
    · have e5:((k:Int)).toNat=k:=rfl
      have ht:=t2 _ (getD_mem (d:=((0,0):Int×Int)) hk)
      have hz:z.length=s.length+k:=hz
      refine (if_pos (by simpa using hk)).trans ?_
      rw [e5,gd_pos ⟨⟨by omega,by omega⟩,hk,trivial⟩,lt_eq]
      show gd _ _=_
      rw [gd_pos ⟨⟨by omega,by omega⟩,⟨by omega,by omega⟩,⟨by omega,by omega⟩,⟨by show _≤2*(f+a.2.1)+(tr.getD k (0,0)).1; omega,by show 2*(f+a.2.1)+(tr.getD k (0,0)).1≤_; omega⟩,⟨by omega,by omega⟩,⟨by omega,by omega⟩,⟨by omega,by omega⟩,⟨by show _≤2*(f+a.2.2.1)+(tr.getD k (0,0)).2; omega,by show 2*(f+a.2.2.1)+(tr.getD k (0,0)).2≤_; omega⟩,⟨by show z.length+1≤_; omega,by show (z.length+1)*32≤_; omega⟩,trivial⟩,lt_eq]
      exact gd_pos ⟨⟨by omega,by omega⟩,trivial⟩
    · have hz:z.length=s.length+k:=hz
      unfold clinkF
      rw [List.length_append,hz]; rfl
    · exact gd_pos ⟨⟨by omega,by omega⟩,trivial⟩
  · have hI:s.length≤4*j:=hI
    have:=carcF_len f (arcOf c) j s
    show _≤4*(j+1)
    omega
end Go.Proofs.YtgmpfbpemmohnaaGreatDoor
end
section
/- The view of a block: the program's way. -/
namespace Go.Proofs.YtgmpfbpemmohnaaGreatDoor
open Go Go.Proofs Go.Proofs.Sv Go.Proofs.Xv Go.Proofs.Xl Go.Proofs.Xd
def instLV (b:Y46) (i:Nat) (s:Int×List DLink):Int×List DLink:=instLF (fun i=>(insOf b.2.1 i).2.2.length) (fun i=>arcOf (celI b i)) (fun i=>(celI b i).2.2.2.1.length) i s
def drvV (b:Y46) (i:Nat):Int:=drvN (plcOf b.2.1) i (plcs b.2.1).length
def clinksV (b:Y46):List DLink:=(foldN (instLV b) b.2.1.1.length (0,[])).2
def linksV (b:Y46):List DLink:=foldN (netLF (drvV b) (fun i=>sinksV b.2.1 i)) b.2.2.length (clinksV b)
def loadsL (b:Y46):List Int:=foldN (appF fun i=>(loadsV b i).getD 0 0) b.2.2.length []
def delaysL (b:Y46):List (List Int):=foldN (appF fun i=>exactV b i) b.2.2.length []
def viewV (b:Y46):Y86:=(b,plcs b.2.1,linksV b,loadsL b,delaysL b,[])
theorem instLV_in {b:Y46} (df:DF b.1 b.2.1) (m:Nat) (hm:m≤b.2.1.1.length):0≤(foldN (instLV b) m (0,[])).1∧(foldN (instLV b) m (0,[])).1≤5*(m:Int)∧(foldN (instLV b) m (0,[])).2.length≤32*m :=
  instLF_in (n:=b.2.1.1.length) (fun i hi=>⟨(df.pin i hi).2,(cell_arcs (inst_cell' df hi).2.1).2.2.1⟩) m hm
def stepV (b:Y46) (i:Nat) (s:List Int×List (List Int)×List DLink):List Int×List (List Int)×List DLink:=(s.1++[(loadsV b i).getD 0 0],s.2.1++[exactV b i],netLF (drvV b) (fun i=>sinksV b.2.1 i) i s.2.2)
theorem stepV_fold (b:Y46) (z:List DLink):∀ m,foldN (stepV b) m ([],[],z)=(foldN (appF fun i=>(loadsV b i).getD 0 0) m [],foldN (appF fun i=>exactV b i) m [],foldN (netLF (drvV b) (fun i=>sinksV b.2.1 i)) m z)
  | 0=>rfl
  | m+1=>by
    show stepV b m (foldN (stepV b) m ([],[],z))=_
    rw [stepV_fold b z m]; rfl
theorem r51 (b:Y46) (hw:wf y46 b) (hb:blockOk b=true):u51 b=some (viewV b):=by
  obtain ⟨hd0,hlen,hwire⟩:=block_design hb
  have df:=df_of hd0
  have hd:=hw.2.1
  have h14:=df.fac.ni14
  have h30:=df.fac.nn30
  have hpl:=df.len
  have hin:b.2.1.1.length≤9223372036854775807:=by omega
  have eN:∀ l,u99 l=some (l.length:Int):=fun _=>rfl
  unfold u51
  rw [r96 b.2.1 hd df.fac.ni14 df.fac.np8 df.pin,vl_some,gd_pos ⟨rfl,trivial⟩,lt_eq]
  refine (lp_fold (n:=b.2.1.1.length) hin (fun (i:Nat) (s:Int×List DLink)=>(s.1,(i:Int),s.2)) (instLV b) (fun i s=>0≤s.1∧s.1≤5*(i:Int)∧s.2.length≤32*i) (J:=fun s=>u51J0 (plcs b.2.1) b s.2) (F:=u51L1 b (plcs b.2.1)) (fun g i s hi hI=>?_) (fun i s hi hI=>?_) (fun g s _=>all_end) (0,[]) ⟨Int.le_refl _,Int.le_refl _,Nat.le_refl _⟩).trans ?_
  · have e3:((i:Int)).toNat=i:=rfl
    obtain ⟨f,z⟩:=s
    obtain ⟨i1,i2,i3⟩:=hI
    have i1:0≤f:=i1
    have i2:f≤5*(i:Int):=i2
    have i3:z.length≤32*i:=i3
    have hp:=df.pin i hi
    have hcl:=cellLinksD_len f (arcOf (celI b i)) (celI b i).2.2.2.1.length
    have hc8:=(cell_arcs (inst_cell' df hi).2.1).2.2.1
    refine (if_pos (by simpa using hi)).trans ?_
    rw [e3,gd_pos ⟨⟨by omega,by omega⟩,trivial⟩,lt_eq]
    show gd ((u98 b (insOf b.2.1 i) f).isSome=true∧_∧True) _=_
    rw [r98 b df hi f i1 (by omega),vl_some,gd_pos ⟨rfl,⟨by omega,by omega⟩,trivial⟩,lt_eq]
    show gd ((u99 (insOf b.2.1 i).2.2).isSome=true∧in64 (f+vl (u99 (insOf b.2.1 i).2.2))∧True) _=_
    rw [eN,vl_some,gd_pos ⟨rfl,⟨by omega,by omega⟩,trivial⟩,lt_eq]
    exact gd_pos ⟨⟨by omega,by omega⟩,trivial⟩
  · obtain ⟨f,z⟩:=s
    obtain ⟨i1,i2,i3⟩:=hI
    have i1:0≤f:=i1
    have i2:f≤5*(i:Int):=i2
    have i3:z.length≤32*i:=i3
    have hp:=df.pin i hi
    have hcl:=cellLinksD_len f (arcOf (celI b i)) (celI b i).2.2.2.1.length
    have hc8:=(cell_arcs (inst_cell' df hi).2.1).2.2.1
    refine ⟨by show 0≤f+((insOf b.2.1 i).2.2.length:Int); omega,by show f+((insOf b.2.1 i).2.2.length:Int)≤_; omega,?_⟩
    show (z++cellLinksD f (arcOf (celI b i)) (celI b i).2.2.2.1.length).length≤_
    rw [List.length_append]; omega
  have hz:=(instLV_in df _ (Nat.le_refl _)).2.2
  have ecl:clinksV b=(foldN (instLV b) b.2.1.1.length (0,[])).2:=rfl
  unfold viewV linksV loadsL delaysL
  rw [ecl]
  generalize (foldN (instLV b) b.2.1.1.length (0,[])).2=z at hz
  show u51J0 (plcs b.2.1) b z=_
  have hn30:b.2.2.length≤30:=by omega
  rw [u51J0,gd_pos ⟨⟨by omega,rfl,by omega,by omega⟩,trivial⟩,gd_pos ⟨⟨by omega,rfl,by omega,by omega⟩,trivial⟩]
  show lp (u51L3 (plcs b.2.1) b z) (0,List.replicate b.2.2.length [],List.replicate b.2.2.length 0)=_
  have hnet:∀ i,i < (plcs b.2.1).length→inB (plcOf b.2.1 i).2.2.1 0 ((b.2.2.length:Int) - 1)=true:=fun i hi=>by rw [hlen]; exact df.plc _ (plc_mem hi)
  have gf:=grid_fold (plcOf b.2.1) b.2.2.length
  refine (lp_fold (n:=(plcs b.2.1).length) (by omega) (fun (i:Nat) (s:List (List Int)×List Int)=>((i:Int),s.1,s.2)) (gridF (plcOf b.2.1)) (fun i s=>s.1.length=b.2.2.length∧s.2.length=b.2.2.length∧∀ k:Nat,(s.1.getD k []).length≤i) (J:=fun s=>u51J2 b (plcs b.2.1) z s) (F:=u51L3 (plcs b.2.1) b z) (fun g i s hi hI=>?_) (fun i s hi hI=>?_) (fun g s _=>all_end) (List.replicate b.2.2.length [],List.replicate b.2.2.length 0) ⟨List.length_replicate,List.length_replicate,fun k=>?_⟩).trans ?_
  · obtain ⟨gr,dr⟩:=s
    obtain ⟨g1,g2,g3⟩:=hI
    have g1:gr.length=b.2.2.length:=g1
    have g2:dr.length=b.2.2.length:=g2
    have g3:∀ k:Nat,(gr.getD k []).length≤i:=g3
    have hp:=inB_iff.1 (hnet i hi)
    have e3:((i:Int)).toNat=i:=rfl
    have j4:∀ x y,u51J4 (i:Int) g (x,y)=g (((i+1:Nat):Int),y,x):=fun x y=>gd_pos ⟨⟨by omega,by omega⟩,trivial⟩
    have g4:=g3 (plcOf b.2.1 i).2.2.1.toNat
    refine (if_pos (by simpa using hi)).trans ?_
    rw [e3,gd_pos ⟨⟨by omega,by omega⟩,hi,trivial⟩,lt_eq]
    show (if (plcOf b.2.1 i).2.2.2=true then _ else _)=g (_,(gridF (plcOf b.2.1) i (gr,dr)).1,(gridF (plcOf b.2.1) i (gr,dr)).2)
    unfold gridF
    cases (plcOf b.2.1 i).2.2.2 with
    | true =>
      rw [if_pos rfl,if_pos rfl]
      show gd (ix (plcOf b.2.1 i).2.2.1 dr.length∧_∧True) _=_
      rw [gd_pos ⟨⟨by omega,by omega⟩,by show (plcOf b.2.1 i).2.2.1.toNat < _; omega,trivial⟩,j4]
    | false =>
      rw [if_neg (by simp),if_neg (by simp)]
      show gd (ix (plcOf b.2.1 i).2.2.1 gr.length∧_) _=_
      rw [gd_pos ⟨⟨by omega,by omega⟩,by show (plcOf b.2.1 i).2.2.1.toNat < _; omega,⟨by show (gr.getD (plcOf b.2.1 i).2.2.1.toNat []).length+1≤_; omega,by show ((gr.getD (plcOf b.2.1 i).2.2.1.toNat []).length+1)*8≤_; omega⟩,⟨by show 0≤(plcOf b.2.1 i).2.2.1; omega,by show (plcOf b.2.1 i).2.2.1 < _; omega⟩,⟨by show (plcOf b.2.1 i).2.2.1.toNat < _; omega,rfl⟩,trivial⟩,lt_eq,j4]
  · obtain ⟨gr,dr⟩:=s
    obtain ⟨g1,g2,g3⟩:=hI
    have g1:gr.length=b.2.2.length:=g1
    have g2:dr.length=b.2.2.length:=g2
    have g3:∀ k:Nat,(gr.getD k []).length≤i:=g3
    have hp:=inB_iff.1 (hnet i hi)
    unfold gridF
    split
    · exact ⟨g1,by show (dr.set _ _).length=_; rw [List.length_set]; exact g2,fun k=>by have:=g3 k; show (gr.getD k []).length≤_; omega⟩
    · refine ⟨by show (gr.set _ _).length=_; rw [List.length_set]; exact g1,g2,fun k=>?_⟩
      show ((gr.set (plcOf b.2.1 i).2.2.1.toNat (gr.getD (plcOf b.2.1 i).2.2.1.toNat []++[(i:Int)])).getD k []).length≤_
      rw [getD_set (by omega)]
      have:=g3 k
      have:=g3 (plcOf b.2.1 i).2.2.1.toNat
      split
      · rw [List.length_append]; show _+1≤_; omega
      · omega
  · show ((List.replicate b.2.2.length ([]:List Int)).getD k []).length≤0
    rw [List.getD_eq_getElem?_getD,List.getElem?_replicate]
    split <;> exact Nat.le_refl _
  obtain ⟨gl,dl,gd'⟩:=gf (plcs b.2.1).length hnet
  generalize foldN (gridF (plcOf b.2.1)) (plcs b.2.1).length (List.replicate b.2.2.length [],List.replicate b.2.2.length 0)=s at gl dl gd'
  obtain ⟨gr,dr⟩:=s
  have gl:gr.length=b.2.2.length:=gl
  have dl:dr.length=b.2.2.length:=dl
  have hgr:∀ k:Nat,k < b.2.2.length→gr.getD k []=sinksV b.2.1 k:=fun k hk=>(gd' k hk).1
  have hdr:∀ k:Nat,k < b.2.2.length→dr.getD k 0=drvV b k:=fun k hk=>(gd' k hk).2
  show lp (u51L6 dr gr b (plcs b.2.1)) (0,[],[],z)=_
  refine (lp_fold (n:=b.2.2.length) (by omega) (fun (i:Nat) (s:List Int×List (List Int)×List DLink)=>((i:Int),s.1,s.2.1,s.2.2)) (stepV b) (fun i s=>s.1.length=i∧s.2.1.length=i∧s.2.2.length≤500+160*i) (J:=fun s=>some (b,plcs b.2.1,s.2.2,s.1,s.2.1,[])) (F:=u51L6 dr gr b (plcs b.2.1)) (fun g i s hi hI=>?_) (fun i s hi hI=>?_) (fun g s _=>all_end) ([],[],z) ⟨rfl,rfl,by show z.length≤_; omega⟩).trans ?_
  · obtain ⟨s1,s2,s3⟩:=s
    obtain ⟨i1,i2,i3⟩:=hI
    have i1:s1.length=i:=i1
    have i2:s2.length=i:=i2
    have i3:s3.length≤500+160*i:=i3
    have hno:=net_ok hb hi
    have n1:=hno.wf.n1
    have hs78:=hno.s78
    have hll:=hno.loads.1
    have e3:((i:Int)).toNat=i:=rfl
    refine (if_pos (by simpa using hi)).trans ?_
    rw [r100 b hw hno,vl_some,gd_pos ⟨rfl,⟨by omega,by omega⟩,by show 0 < _; omega,⟨by show s1.length+1≤_; omega,by show (s1.length+1)*8≤_; omega⟩,trivial⟩,lt_eq,r40 b hw hno,vl_some,gd_pos ⟨rfl,⟨by show s2.length+1≤_; omega,by show (s2.length+1)*24≤_; omega⟩,trivial⟩,lt_eq,gd_pos ⟨⟨by omega,by omega⟩,trivial⟩]
    have hsn:=hgr i hi
    have hdn:=hdr i hi
    have hdv:=drvN_in (plcOf b.2.1) i (plcs b.2.1).length
    have hdv:0≤drvV b i∧drvV b i≤((plcs b.2.1).length:Int):=hdv
    show lp (u51L8 dr (i:Int) gr s2 (exactV b i) s1 (loadsV b i) g) (0,s3)=g (_,s1++[(loadsV b i).getD 0 0],s2++[exactV b i],netLF (drvV b) (fun i=>sinksV b.2.1 i) i s3)
    refine (lp_fold (n:=(sinksV b.2.1 i).length) (by omega) (fun (k:Nat) (s:List DLink)=>((k:Int),s)) (wsinkF (drvV b i) (sinksV b.2.1 i)) (fun k y=>y.length=s3.length+2*k) (J:=fun y=>u51J7 (i:Int) g (s2++[exactV b i],s1++[(loadsV b i).getD 0 0],y)) (F:=u51L8 dr (i:Int) gr s2 (exactV b i) s1 (loadsV b i) g) (fun g8 k y hk hy=>?_) (fun k y hk hy=>?_) (fun g8 y _=>?_) s3 rfl).trans ?_
    · have hy:y.length=s3.length+2*k:=hy
      obtain ⟨k1,k2⟩:=sinksV_at hk
      have e4:((k:Int)).toNat=k:=rfl
      show u51L8 dr (i:Int) gr s2 (exactV b i) s1 (loadsV b i) g g8 ((k:Int),y)=_
      rw [u51L8,e3,hsn,if_pos (by simpa using hk),gd_pos ⟨⟨by omega,by omega⟩,trivial⟩]
      show _=g8 (_,wsinkF (drvV b i) (sinksV b.2.1 i) k y)
      refine (lp_fold (n:=2) (by decide) (fun (t:Nat) (x:List DLink)=>((t:Int),x)) (wlinkF (drvV b i) ((sinksV b.2.1 i).getD k 0) (k:Int)) (fun t x=>x.length=y.length+t) (J:=fun x=>u51J9 (k:Int) g8 x) (F:=u51L10 dr (i:Int) gr (k:Int) g8) (fun g10 t x ht hx=>?_) (fun t x ht hx=>?_) (fun g10 x _=>?_) y rfl).trans ?_
      · have hx:x.length=y.length+t:=hx
        show u51L10 dr (i:Int) gr (k:Int) g8 g10 ((t:Int),x)=_
        rw [u51L10,e3,e4,hsn,hdn,if_pos (decide_eq_true (by omega)),gd_pos ⟨⟨by omega,by omega⟩,by omega,⟨by omega,by omega⟩,⟨by omega,by omega⟩,⟨by omega,by omega⟩,⟨by omega,by omega⟩,⟨by show x.length+1≤_; omega,by show (x.length+1)*32≤_; omega⟩,trivial⟩,lt_eq]
        exact gd_pos ⟨⟨by omega,by omega⟩,trivial⟩
      · have hx:x.length=y.length+t:=hx
        unfold wlinkF
        rw [List.length_append,hx]; rfl
      · show u51L10 dr (i:Int) gr (k:Int) g8 g10 (((2:Nat):Int),x)=_
        rw [u51L10]
        exact if_neg (by decide)
      · exact gd_pos ⟨⟨by omega,by omega⟩,trivial⟩
    · have hy:y.length=s3.length+2*k:=hy
      rw [wsinkF_len,hy]; omega
    · show u51L8 dr (i:Int) gr s2 (exactV b i) s1 (loadsV b i) g g8 (((sinksV b.2.1 i).length:Int),y)=_
      rw [u51L8,e3,hsn]
      exact if_neg (by simp)
    · exact gd_pos ⟨⟨by omega,by omega⟩,trivial⟩
  · obtain ⟨s1,s2,s3⟩:=s
    obtain ⟨i1,i2,i3⟩:=hI
    have i1:s1.length=i:=i1
    have i2:s2.length=i:=i2
    have i3:s3.length≤500+160*i:=i3
    have hs78:=(net_ok hb hi).s78
    refine ⟨by show (s1++_).length=_; rw [List.length_append,i1]; rfl,by show (s2++_).length=_; rw [List.length_append,i2]; rfl,?_⟩
    show (netLF (drvV b) (fun i=>sinksV b.2.1 i) i s3).length≤_
    unfold netLF
    rw [wsink_len]
    show s3.length+2*(sinksV b.2.1 i).length≤500+160*(i+1)
    omega
  · rw [stepV_fold]
end Go.Proofs.YtgmpfbpemmohnaaGreatDoor
end
section
/- Axes of tables: rising; the place of a number between the elements. -/
namespace Go.Proofs.Xd
open Go Go.Proofs.Xv Go.Proofs.Xl
end Go.Proofs.Xd
end
section
/- Where the places of a design lie; who drives a net. Plain facts. -/
namespace Go.Proofs.Xd
open Go Go.Proofs Go.Proofs.Xl
/-! ### The number of a place -/
def offs (x:Nat→DInst):Nat→Nat
  | 0=>0
  | i+1=>offs x i+(x i).2.2.length
theorem instP_get (x:DInst) (i:Int) (d:DPlace) (s:List DPlace):∀ n k,k < n→(foldN (instP x i) n s).getD (s.length+k) d=(i,(k:Int),x.2.2.getD k 0,(k:Int)==(x.2.2.length:Int) - 1)
  | n+1,k,h=>by
    have hl:=instP_len x i s n
    have ih:=instP_get x i d s n k
    show (instP x i n (foldN (instP x i) n s)).getD _ d=_
    generalize foldN (instP x i) n s=z at hl ih
    unfold instP
    rcases Nat.lt_or_ge k n with hk | hk
    · rw [getD_left (by omega)]; exact ih hk
    · have:k=n:=by omega
      subst this
      rw [getD_right (by omega),hl,Nat.sub_self]; rfl
theorem instP_old (x:DInst) (i:Int) (d:DPlace) (s:List DPlace):∀ n j,j < s.length→(foldN (instP x i) n s).getD j d=s.getD j d
  | 0,_,_=>rfl
  | n+1,j,h=>by
    have hl:=instP_len x i s n
    have ih:=instP_old x i d s n j h
    show (instP x i n (foldN (instP x i) n s)).getD _ d=_
    generalize foldN (instP x i) n s=z at hl ih
    unfold instP
    rw [getD_left (by omega)]; exact ih
theorem placesF_offs (x:Nat→DInst):∀ n,(foldN (placesF x) n []).length=offs x n
  | 0=>rfl
  | n+1=>by
    have:=placesF_offs x n
    show (placesF x n (foldN (placesF x) n [])).length=_
    unfold placesF
    rw [instP_len]
    show (foldN (placesF x) n []).length+_=_
    rw [this]; rfl
theorem placesF_get (x:Nat→DInst) (d:DPlace):∀ n i k,i < n→k < (x i).2.2.length→(foldN (placesF x) n []).getD (offs x i+k) d=((i:Int),(k:Int),(x i).2.2.getD k 0,(k:Int)==((x i).2.2.length:Int) - 1)
  | n+1,i,k,hi,hk=>by
    have hl:=placesF_offs x n
    have ih:=placesF_get x d n i k
    show (placesF x n (foldN (placesF x) n [])).getD _ d=_
    generalize foldN (placesF x) n []=z at hl ih
    unfold placesF
    rcases Nat.lt_or_ge i n with h | h
    · have hlt:offs x i+k < z.length:=by
        rw [hl]
        have:∀ m,i < m→offs x i+(x i).2.2.length≤offs x m:=by
          intro m
          induction m with
          | zero=>intro h; omega
          | succ m ih =>
            intro h
            show _≤offs x m+_
            rcases Nat.lt_or_ge i m with h' | h'
            · have:=ih h'; omega
            · have:i=m:=by omega
              subst this; omega
        have:=this n h
        omega
      rw [instP_old _ _ _ _ _ _ hlt]
      exact ih h hk
    · have:i=n:=by omega
      subst this
      rw [← hl]
      exact instP_get _ _ _ _ _ _ hk
theorem portP_old (y:Nat→DPort) (d:DPlace) (s:List DPlace):∀ n j,j < s.length→(foldN (portP y) n s).getD j d=s.getD j d
  | 0,_,_=>rfl
  | n+1,j,h=>by
    have hl:=portP_len y s n
    have ih:=portP_old y d s n j h
    show (portP y n (foldN (portP y) n s)).getD _ d=_
    generalize foldN (portP y) n s=z at hl ih
    unfold portP
    rw [getD_left (by omega)]; exact ih
theorem portP_get (y:Nat→DPort) (d:DPlace) (s:List DPlace):∀ n k,k < n→(foldN (portP y) n s).getD (s.length+k) d=(-1,(k:Int),(y k).2.2,(y k).2.1==1)
  | n+1,k,h=>by
    have hl:=portP_len y s n
    have ih:=portP_get y d s n k
    show (portP y n (foldN (portP y) n s)).getD _ d=_
    generalize foldN (portP y) n s=z at hl ih
    unfold portP
    rcases Nat.lt_or_ge k n with hk | hk
    · rw [getD_left (by omega)]; exact ih hk
    · have:k=n:=by omega
      subst this
      rw [getD_right (by omega),hl,Nat.sub_self]; rfl
theorem offs_inv (x:Nat→DInst):∀ n j,j < offs x n→∃ i k,i < n∧k < (x i).2.2.length∧j=offs x i+k
  | n+1,j,h=>by
    have h:j < offs x n+(x n).2.2.length:=h
    rcases Nat.lt_or_ge j (offs x n) with hj | hj
    · obtain ⟨i,k,h1,h2,h3⟩:=offs_inv x n j hj
      exact ⟨i,k,by omega,h2,h3⟩
    · exact ⟨n,j - offs x n,by omega,by omega,by omega⟩
theorem offs_lt (x:Nat→DInst) {i n k:Nat} (hi:i < n) (hk:k < (x i).2.2.length):offs x i+k < offs x n:=by
  induction n with
  | zero=>omega
  | succ n ih =>
    show _ < offs x n+(x n).2.2.length
    rcases Nat.lt_or_ge i n with h | h
    · have:=ih h; omega
    · have:i=n:=by omega
      subst this; omega
theorem places_len (ni np:Nat) (x:Nat→DInst) (y:Nat→DPort):(placesN ni np x y).length=offs x ni+np:=by
  unfold placesN
  rw [portP_len,placesF_offs]
theorem places_inst (ni np:Nat) (x:Nat→DInst) (y:Nat→DPort) (d:DPlace) {i k:Nat} (hi:i < ni) (hk:k < (x i).2.2.length):(placesN ni np x y).getD (offs x i+k) d=((i:Int),(k:Int),(x i).2.2.getD k 0,(k:Int)==((x i).2.2.length:Int) - 1):=by
  unfold placesN
  rw [portP_old _ _ _ _ _ (by rw [placesF_offs]; exact offs_lt x hi hk)]
  exact placesF_get x d ni i k hi hk
theorem places_port (ni np:Nat) (x:Nat→DInst) (y:Nat→DPort) (d:DPlace) {k:Nat} (hk:k < np):(placesN ni np x y).getD (offs x ni+k) d=(-1,(k:Int),(y k).2.2,(y k).2.1==1):=by
  unfold placesN
  rw [← placesF_offs x ni]
  exact portP_get _ _ _ _ _ hk
theorem place_only (ni np:Nat) (x:Nat→DInst) (y:Nat→DPort) (d:DPlace) {i k:Nat} (hi:i < ni) (hk:k < (x i).2.2.length) {j:Nat} (hj:j < (placesN ni np x y).length):(((placesN ni np x y).getD j d).1==(i:Int)&&((placesN ni np x y).getD j d).2.1==(k:Int))=decide (j=offs x i+k):=by
  rw [Bool.eq_iff_iff,Bool.and_eq_true,beq_iff_eq,beq_iff_eq,decide_eq_true_eq]
  rw [places_len] at hj
  constructor
  · rintro ⟨h1,h2⟩
    rcases Nat.lt_or_ge j (offs x ni) with h | h
    · obtain ⟨i',k',h3,h4,h5⟩:=offs_inv x ni j h
      subst h5
      rw [places_inst ni np x y d h3 h4] at h1 h2
      have e1:i'=i:=Int.ofNat.inj h1
      have e2:k'=k:=Int.ofNat.inj h2
      rw [e1,e2]
    · have e:j=offs x ni+(j - offs x ni):=by omega
      rw [e,places_port ni np x y d (by omega)] at h1
      have h1:(-1:Int)=(i:Int):=h1
      omega
  · rintro rfl
    rw [places_inst ni np x y d hi hk]
    exact ⟨rfl,rfl⟩
/-! ### Drivers -/
def cntF (P:Nat→Bool) (m:Nat):Nat:=foldN (fun i s=>if P i=true then s+1 else s) m 0
theorem cntF_succ (P:Nat→Bool) (m:Nat):cntF P (m+1)=if P m=true then cntF P m+1 else cntF P m:=rfl
theorem cntF_one {P:Nat→Bool}:∀ {m i:Nat},i < m→P i=true→1≤cntF P m
  | m+1,i,h,hp=>by
    rw [cntF_succ]
    rcases Nat.lt_or_ge i m with h' | h'
    · have:=cntF_one h' hp; split <;> omega
    · have:i=m:=by omega
      subst this
      rw [if_pos hp]; omega
theorem cntF_two {P:Nat→Bool}:∀ {m i j:Nat},i < j→j < m→P i=true→P j=true→2≤cntF P m
  | m+1,i,j,h1,h2,hi,hj=>by
    rw [cntF_succ]
    rcases Nat.lt_or_ge j m with h' | h'
    · have:=cntF_two h1 h' hi hj; split <;> omega
    · have:j=m:=by omega
      subst this
      have:=cntF_one h1 hi
      rw [if_pos hj]; omega
theorem cntF_ex {P:Nat→Bool}:∀ {m:Nat},1≤cntF P m→∃ i,i < m∧P i=true
  | 0,h=>by simp [cntF,foldN] at h
  | m+1,h=>by
    rw [cntF_succ] at h
    by_cases hp:P m=true
    · exact ⟨m,by omega,hp⟩
    · rw [if_neg hp] at h
      obtain ⟨i,h1,h2⟩:=cntF_ex h
      exact ⟨i,by omega,h2⟩
def drvB (pl:Nat→DPlace) (t:Int) (j:Nat):Bool:=(pl j).2.2.1==t&&(pl j).2.2.2
theorem drvN_last {pl:Nat→DPlace} {t:Int}:∀ {m i:Nat},i < m→drvB pl t i=true→(∀ j,i < j→j < m→drvB pl t j=false)→drvN pl t m=(i:Int)
  | m+1,i,h,hi,hn=>by
    have e:drvN pl t (m+1)=if drvB pl t m=true then (m:Int) else drvN pl t m:=rfl
    rw [e]
    rcases Nat.lt_or_ge i m with h' | h'
    · rw [if_neg (by rw [hn m h' (by omega)]; simp)]
      exact drvN_last h' hi (fun j h1 h2=>hn j h1 (by omega))
    · have:i=m:=by omega
      subst this
      rw [if_pos hi]
theorem drv_one {pl:Nat→DPlace} {t:Int} {m:Nat} (h:cntF (drvB pl t) m=1):∃ i,i < m∧drvB pl t i=true∧(∀ j,j < m→drvB pl t j=decide (j=i))∧drvN pl t m=(i:Int):=by
  obtain ⟨i,h1,h2⟩:=cntF_ex (Nat.le_of_eq h.symm)
  have hu:∀ j,j < m→drvB pl t j=true→j=i:=fun j hj hd=>by
    rcases Nat.lt_trichotomy i j with h' | h' | h'
    · have:=cntF_two h' hj h2 hd; omega
    · exact h'.symm
    · have:=cntF_two h' h1 hd h2; omega
  refine ⟨i,h1,h2,fun j hj=>?_,drvN_last h1 h2 (fun j hij hj=>?_)⟩
  · rw [Bool.eq_iff_iff,decide_eq_true_eq]
    exact ⟨hu j hj,fun e=>by rw [e]; exact h2⟩
  · rw [← Bool.not_eq_true]
    intro hd
    have:=hu j hj hd
    omega
theorem cntF_add (P:Nat→Bool) (m:Nat):∀ n,cntF P (m+n)=cntF P m+cntF (fun i=>P (m+i)) n
  | 0=>rfl
  | n+1=>by
    rw [← Nat.add_assoc,cntF_succ,cntF_succ,cntF_add P m n]
    split <;> omega
theorem cntF_last {P:Nat→Bool} {n:Nat} (h:∀ i,i < n→P i=false):cntF P (n+1)=if P n=true then 1 else 0:=by
  have:∀ m,m≤n→cntF P m=0:=by
    intro m
    induction m with
    | zero=>intro _; rfl
    | succ m ih=>intro hm; rw [cntF_succ,h m (by omega),if_neg (by simp),ih (by omega)]
  rw [cntF_succ,this n (Nat.le_refl _)]
theorem inst_cnt {ni np:Nat} {x:Nat→DInst} {y:Nat→DPort} {d:DPlace} {nn:Nat} (hx:∀ i,i < ni→1≤(x i).2.2.length∧inB ((x i).2.2.getD ((x i).2.2.length - 1) 0) 0 ((nn:Int) - 1)=true):∀ n,n≤ni→(foldN (instF x) n (List.replicate nn 0)).length=nn∧∀ t:Nat,t < nn→(foldN (instF x) n (List.replicate nn 0)).getD t 0=(cntF (drvB (fun j=>(placesN ni np x y).getD j d) t) (offs x n):Nat)
  | 0,_=>⟨List.length_replicate,fun t ht=>by
    show (List.replicate nn (0:Int)).getD t 0=_
    rw [List.getD_eq_getElem?_getD,List.getElem?_replicate,if_pos ht]; rfl⟩
  | n+1,hn=>by
    obtain ⟨h1,h2⟩:=inst_cnt (np:=np) (y:=y) (d:=d) hx n (by omega)
    obtain ⟨h3,h4⟩:=hx n (by omega)
    have h4:=inB_iff.1 h4
    have e:foldN (instF x) (n+1) (List.replicate nn 0)=instF x n (foldN (instF x) n (List.replicate nn 0)):=rfl
    rw [e]
    generalize foldN (instF x) n (List.replicate nn 0)=v at h1 h2
    unfold instF incAt
    refine ⟨by rw [List.length_set]; exact h1,fun t ht=>?_⟩
    rw [getD_set (by omega)]
    show _=((cntF _ (offs x n+(x n).2.2.length):Nat):Int)
    rw [cntF_add]
    have hk:∀ k,k < (x n).2.2.length→drvB (fun j=>(placesN ni np x y).getD j d) t (offs x n+k)=((x n).2.2.getD k 0==(t:Int)&&(k:Int)==((x n).2.2.length:Int) - 1):=fun k hk=>by
      unfold drvB
      show (((placesN ni np x y).getD (offs x n+k) d).2.2.1==(t:Int)&&((placesN ni np x y).getD (offs x n+k) d).2.2.2)=_
      rw [places_inst ni np x y d (by omega) hk]
    obtain ⟨m,hm⟩:∃ m,(x n).2.2.length=m+1:=⟨(x n).2.2.length - 1,by omega⟩
    have hm1:(x n).2.2.length - 1=m:=by omega
    rw [hm1] at h4
    rw [hm1,hm,cntF_last (fun i hi=>by rw [hk i (by omega),hm]; simp; omega),hk m (by omega),hm]
    have e1:((m:Int)==((m+1:Nat):Int) - 1)=true:=by simp
    rw [e1,Bool.and_true]
    have e2:((x n).2.2.getD m 0==(t:Int))=decide (t=((x n).2.2.getD m 0).toNat):=by
      rw [Bool.eq_iff_iff,beq_iff_eq,decide_eq_true_eq]
      omega
    rw [e2]
    by_cases ht':t=((x n).2.2.getD m 0).toNat
    · rw [if_pos ht',← ht',h2 t ht,decide_eq_true rfl,if_pos rfl]; rfl
    · rw [if_neg ht',h2 t ht,decide_eq_false ht',if_neg (by simp)]; omega
theorem port_cnt {ni np:Nat} {x:Nat→DInst} {y:Nat→DPort} {d:DPlace} {nn:Nat} (hx:∀ i,i < ni→1≤(x i).2.2.length∧inB ((x i).2.2.getD ((x i).2.2.length - 1) 0) 0 ((nn:Int) - 1)=true) (hy:∀ i,i < np→inB (y i).2.2 0 ((nn:Int) - 1)=true):∀ n,n≤np→(foldN (portF y) n (foldN (instF x) ni (List.replicate nn 0))).length=nn∧∀ t:Nat,t < nn→(foldN (portF y) n (foldN (instF x) ni (List.replicate nn 0))).getD t 0=(cntF (drvB (fun j=>(placesN ni np x y).getD j d) t) (offs x ni+n):Nat)
  | 0,_=>inst_cnt hx ni (Nat.le_refl _)
  | n+1,hn=>by
    obtain ⟨h1,h2⟩:=port_cnt (d:=d) hx hy n (by omega)
    have h4:=inB_iff.1 (hy n (by omega))
    have e:foldN (portF y) (n+1) (foldN (instF x) ni (List.replicate nn 0))=portF y n (foldN (portF y) n (foldN (instF x) ni (List.replicate nn 0))):=rfl
    rw [e]
    generalize foldN (portF y) n (foldN (instF x) ni (List.replicate nn 0))=v at h1 h2
    have hk:∀ t:Nat,drvB (fun j=>(placesN ni np x y).getD j d) t (offs x ni+n)=((y n).2.2==(t:Int)&&(y n).2.1==1):=fun t=>by
      unfold drvB
      show (((placesN ni np x y).getD (offs x ni+n) d).2.2.1==(t:Int)&&((placesN ni np x y).getD (offs x ni+n) d).2.2.2)=_
      rw [places_port ni np x y d (by omega)]
    have e2:∀ t:Nat,((y n).2.2==(t:Int))=decide (t=(y n).2.2.toNat):=fun t=>by
      rw [Bool.eq_iff_iff,beq_iff_eq,decide_eq_true_eq]
      omega
    unfold portF
    split
    · rename_i hd
      unfold incAt
      refine ⟨by rw [List.length_set]; exact h1,fun t ht=>?_⟩
      rw [getD_set (by omega),← Nat.add_assoc,cntF_succ,hk,e2,hd]
      by_cases ht':t=(y n).2.2.toNat
      · rw [if_pos ht',← ht',h2 t ht]; simp
      · rw [if_neg ht',h2 t ht]; simp [ht']
    · rename_i hd
      refine ⟨h1,fun t ht=>?_⟩
      rw [h2 t ht,← Nat.add_assoc,cntF_succ,hk]
      simp [hd]
end Go.Proofs.Xd
end
section
/- Rounded division; loops with a measure; whole roots. Plain facts. -/
namespace Go.Proofs.Xd
open Go Go.Proofs Go.Proofs.Xl
/-! ### Whole roots -/
end Go.Proofs.Xd
end
section
/- What the links of a block are: where they lead. Plain facts. -/
namespace Go.Proofs.Xd
open Go Go.Proofs Go.Proofs.Xl
def cLink (f:Int) (a:DArc) (j:Nat) (t:Nat):DLink:=(2*(f+a.2.1)+((transV a.1 a.2.2.2.1).getD t (0,0)).1,2*(f+a.2.2.1)+((transV a.1 a.2.2.2.1).getD t (0,0)).2,1,(j:Int))
def wLink (d s:Int) (k t:Nat):DLink:=(2*d+(t:Int),2*s+(t:Int),2,(k:Int))
theorem clinkF_mem {f a b x:Int} {tr:List (Int×Int)} {s:List DLink} {l:DLink}:∀ k,l∈foldN (clinkF f a b x tr) k s→l∈s∨∃ t,t < k∧l=(2*(f+a)+(tr.getD t (0,0)).1,2*(f+b)+(tr.getD t (0,0)).2,1,x)
  | 0,h=>.inl h
  | k+1,h=>by
    rcases List.mem_append.1 (show l∈foldN (clinkF f a b x tr) k s++[_] from h) with h | h
    · rcases clinkF_mem k h with h | ⟨t,ht,e⟩
      · exact .inl h
      · exact .inr ⟨t,by omega,e⟩
    · exact .inr ⟨k,by omega,List.mem_singleton.1 h⟩
theorem carcF_mem {f:Int} {arcs:Nat→DArc} {s:List DLink} {l:DLink}:∀ m,l∈foldN (carcF f arcs) m s→l∈s∨∃ j t,j < m∧t < (transV (arcs j).1 (arcs j).2.2.2.1).length∧l=cLink f (arcs j) j t
  | 0,h=>.inl h
  | m+1,h=>by
    rcases clinkF_mem _ (show l∈foldN (clinkF f _ _ (m:Int) _) _ (foldN (carcF f arcs) m s) from h) with h | ⟨t,ht,e⟩
    · rcases carcF_mem m h with h | ⟨j,t,hj,ht,e⟩
      · exact .inl h
      · exact .inr ⟨j,t,by omega,ht,e⟩
    · exact .inr ⟨m,t,by omega,ht,e⟩
theorem instLF_fst {nets:Nat→Nat} {arcs:Nat→Nat→DArc} {ms:Nat→Nat} {x:Nat→DInst} (hx:∀ i,nets i=(x i).2.2.length):∀ m,(foldN (instLF nets arcs ms) m (0,[])).1=(offs x m:Int)
  | 0=>rfl
  | m+1=>by
    show (foldN (instLF nets arcs ms) m (0,[])).1+(nets m:Int)=((offs x m+(x m).2.2.length:Nat):Int)
    rw [instLF_fst hx m,hx m]; omega
theorem instLF_mem {nets:Nat→Nat} {arcs:Nat→Nat→DArc} {ms:Nat→Nat} {x:Nat→DInst} (hx:∀ i,nets i=(x i).2.2.length) {l:DLink}:∀ m,l∈(foldN (instLF nets arcs ms) m (0,[])).2→∃ i j t,i < m∧j < ms i∧t < (transV (arcs i j).1 (arcs i j).2.2.2.1).length∧l=cLink (offs x i:Int) (arcs i j) j t
  | 0,h=>by cases h
  | m+1,h=>by
    rcases List.mem_append.1 (show l∈(foldN (instLF nets arcs ms) m (0,[])).2++cellLinksD _ _ _ from h) with h | h
    · obtain ⟨i,j,t,hi,hr⟩:=instLF_mem hx m h
      exact ⟨i,j,t,by omega,hr⟩
    · rcases carcF_mem _ h with h | ⟨j,t,hj,ht,e⟩
      · cases h
      · rw [instLF_fst hx m] at e
        exact ⟨m,j,t,by omega,hj,ht,e⟩
theorem wsinkF_mem {d:Int} {sn:List Int} {z:List DLink} {l:DLink}:∀ k,l∈foldN (wsinkF d sn) k z→l∈z∨∃ j t,j < k∧t < 2∧l=wLink d (sn.getD j 0) j t
  | 0,h=>.inl h
  | k+1,h=>by
    have h:l∈(foldN (wsinkF d sn) k z++[wLink d (sn.getD k 0) k 0])++[wLink d (sn.getD k 0) k 1]:=h
    rcases List.mem_append.1 h with h | h
    · rcases List.mem_append.1 h with h | h
      · rcases wsinkF_mem k h with h | ⟨j,t,hj,ht,e⟩
        · exact .inl h
        · exact .inr ⟨j,t,by omega,ht,e⟩
      · exact .inr ⟨k,0,by omega,by omega,List.mem_singleton.1 h⟩
    · exact .inr ⟨k,1,by omega,by omega,List.mem_singleton.1 h⟩
theorem netLF_mem {d:Nat→Int} {sn:Nat→List Int} {z:List DLink} {l:DLink}:∀ m,l∈foldN (netLF d sn) m z→l∈z∨∃ i j t,i < m∧j < (sn i).length∧t < 2∧l=wLink (d i) ((sn i).getD j 0) j t
  | 0,h=>.inl h
  | m+1,h=>by
    rcases wsinkF_mem _ (show l∈foldN (wsinkF (d m) (sn m)) _ (foldN (netLF d sn) m z) from h) with h | ⟨j,t,hj,ht,e⟩
    · rcases netLF_mem m h with h | ⟨i,j,t,hi,hr⟩
      · exact .inl h
      · exact .inr ⟨i,j,t,by omega,hr⟩
    · exact .inr ⟨m,j,t,by omega,hj,ht,e⟩
/-! ### The links of a cell, appended one by one -/
theorem clinkF_app (f a b x:Int) (tr:List (Int×Int)) (s:List DLink):∀ k,foldN (clinkF f a b x tr) k s=s++foldN (clinkF f a b x tr) k []
  | 0=>(List.append_nil _).symm
  | k+1=>by
    show foldN (clinkF f a b x tr) k s++[_]=s++(foldN (clinkF f a b x tr) k []++[_])
    rw [clinkF_app f a b x tr s k,List.append_assoc]
theorem carcF_app (f:Int) (arcs:Nat→DArc) (s:List DLink):∀ m,foldN (carcF f arcs) m s=s++cellLinksD f arcs m
  | 0=>(List.append_nil _).symm
  | m+1=>by
    show carcF f arcs m (foldN (carcF f arcs) m s)=s++carcF f arcs m (cellLinksD f arcs m)
    rw [carcF_app f arcs s m]
    unfold carcF
    rw [clinkF_app,clinkF_app _ _ _ _ _ (cellLinksD f arcs m),List.append_assoc]
end Go.Proofs.Xd
end
section
/- The links of a block: the reference's way. -/
namespace Go.Proofs.YtgmpfbpemmohnaaGreatDoor
open Go Go.Proofs Go.Proofs.Sv Go.Proofs.Xv Go.Proofs.Xl Go.Proofs.Xd
theorem r94 (l:List DLink) (f t a b k i:Int) (hf:0≤f∧f≤1000) (ht:0≤t∧t≤1000) (ha:0≤a∧a≤1) (hb:0≤b∧b≤1) (hl:l.length≤100000):u94 l f t a b k i=some (l++[(2*f+a,2*t+b,k,i)]) :=
  gd_pos ⟨⟨by omega,by omega⟩,⟨by omega,by omega⟩,⟨by omega,by omega⟩,⟨by omega,by omega⟩,⟨by show l.length+1≤_; omega,by show (l.length+1)*32≤_; omega⟩,trivial⟩
def fitsV (k s:Int) (x y:Nat):Bool:=if (k==1)=true then s==3||(s==1)==((x:Int)==(y:Int)) else if (k==2)=true then (x:Int)==0 else if (k==3)=true then (x:Int)==1 else false
def arcE (k s f t i:Int) (x y:Nat) (l:List DLink):List DLink:=if fitsV k s x y=true then l++[(2*f+(x:Int),2*t+(y:Int),1,i)] else l
theorem arcE_len (k s f t i:Int) (x y:Nat) (l:List DLink):(arcE k s f t i x y l).length≤l.length+1:=by
  unfold arcE
  split
  · rw [List.length_append]; exact Nat.le_refl _
  · omega
theorem arcE_fold (k s f t i:Int) (x:Nat) (l:List DLink):∀ n,(foldN (arcE k s f t i x) n l).length≤l.length+n
  | 0=>Nat.le_refl _
  | n+1=>by
    have h:=arcE_fold k s f t i x l n
    have:=arcE_len k s f t i x n (foldN (arcE k s f t i x) n l)
    show (arcE k s f t i x n (foldN (arcE k s f t i x) n l)).length≤_
    omega
theorem r91 (a:Y139) (l:List DLink) (f t i:Int) (hf:0≤f∧f≤1000) (ht:0≤t∧t≤1000) (hl:l.length≤90000):u91 l a f t i=some (foldN (fun x s=>foldN (arcE a.1 a.2.2.2.1 f t i x) 2 s) 2 l):=by
  unfold u91
  refine lp_fold (n:=2) (by decide) (fun (x:Nat) (s:List DLink)=>((x:Int),s)) (fun x s=>foldN (arcE a.1 a.2.2.2.1 f t i x) 2 s) (fun x s=>s.length≤l.length+2*x) (J:=fun s=>some s) (F:=u91L1 f t i a) (fun g x s hx hI=>?_) (fun x s hx hI=>?_) (fun g s _=>by
    show u91L1 f t i a g (((2:Nat):Int),s)=_
    rw [u91L1]
    exact if_neg (by decide)) l (Nat.le_refl _)
  · have hI:s.length≤l.length+2*x:=hI
    refine (if_pos (decide_eq_true (by omega))).trans ?_
    refine (lp_fold (n:=2) (by decide) (fun (y:Nat) (s:List DLink)=>((y:Int),s)) (arcE a.1 a.2.2.2.1 f t i x) (fun y s=>s.length≤l.length+2*x+y) (J:=fun s=>u91J2 (x:Int) g s) (F:=u91L3 f t (x:Int) i a g) (fun g' y s hy hI=>?_) (fun y s hy hI=>?_) (fun g' s _=>by
      show u91L3 f t (x:Int) i a g g' (((2:Nat):Int),s)=_
      rw [u91L3]
      exact if_neg (by decide)) s hI).trans ?_
    · have hI:s.length≤l.length+2*x+y:=hI
      have j4:∀ v,u91J4 (y:Int) g' v=g' (((y+1:Nat):Int),v):=fun v=>gd_pos ⟨⟨by omega,by omega⟩,trivial⟩
      have j5:∀ v,u91J5 (y:Int) s f t (x:Int) i g' v=g' (((y+1:Nat):Int),if v=true then s++[(2*f+(x:Int),2*t+(y:Int),1,i)] else s):=fun v=>by
        cases v with
        | true=>rw [u91J5,if_pos rfl,if_pos rfl,r94 s f t x y 1 i hf ht (by omega) (by omega) (by omega),gd_pos ⟨rfl,trivial⟩,vl_some,lt_eq,j4]
        | false=>rw [u91J5,if_neg (by simp),if_neg (by simp),j4]
      refine (if_pos (decide_eq_true (by omega))).trans ?_
      show _=g' (((y+1:Nat):Int),arcE a.1 a.2.2.2.1 f t i x y s)
      unfold arcE fitsV
      rw [j5,j5,j5,j5]
      by_cases h1:(a.1==1)=true
      · rw [if_pos h1,if_pos h1]
      rw [if_neg h1,if_neg h1]
      by_cases h2:(a.1==2)=true
      · rw [if_pos h2,if_pos h2]
      rw [if_neg h2,if_neg h2]
      by_cases h3:(a.1==3)=true
      · rw [if_pos h3,if_pos h3]
      rw [if_neg h3,if_neg h3]
    · have hI:s.length≤l.length+2*x+y:=hI
      have:=arcE_len a.1 a.2.2.2.1 f t i x y s
      omega
    · exact gd_pos ⟨⟨by omega,by omega⟩,trivial⟩
  · have hI:s.length≤l.length+2*x:=hI
    have:=arcE_fold a.1 a.2.2.2.1 f t i x s 2
    omega
theorem arc_eq {k s:Int} (h:(k=1∧(s=1∨s=2∨s=3))∨k=2∨k=3) (fo A B i:Int) (l:List DLink):foldN (fun x z=>foldN (arcE k s (fo+A) (fo+B) i x) 2 z) 2 l=foldN (clinkF fo A B i (transV k s)) (transV k s).length l:=by
  rcases h with ⟨rfl,rfl | rfl | rfl⟩ | rfl | rfl <;> rfl
theorem find_first {b:Nat→Bool} {n m:Nat} (hm:m < n) (h1:b m=true) (h2:∀ j,j < m→b j=false):(List.range n).find? b=some m:=by
  rw [List.find?_range_eq_some]
  refine ⟨h1,List.mem_range.2 hm,fun j hj=>?_⟩
  rw [h2 j hj]; rfl
theorem r92 (d:Y43) (hd:wf y43 d) {l:List Y134} (df:DF l d) {i k:Nat} (hi:i < d.1.length) (hk:k < (insOf d i).2.2.length):u92 d (i:Int) (k:Int)=some ((offs (insOf d) i+k:Nat):Int)∧offs (insOf d) i+k < (plcs d).length:=by
  have hl:=df.len
  have hlt:offs (insOf d) i+k < (plcs d).length:=by
    have:=offs_lt (insOf d) hi hk
    unfold plcs
    rw [places_len]; omega
  refine ⟨?_,hlt⟩
  unfold u92
  rw [r106 d hd df.fac.ni14 df.fac.np8 df.pin,vl_some,gd_pos ⟨rfl,trivial⟩,lt_eq]
  have ho:∀ j,j < (plcs d).length→((plcOf d j).1==(i:Int)&&(plcOf d j).2.1==(k:Int))=decide (j=offs (insOf d) i+k):=fun j hj=>place_only d.1.length d.2.2.length (insOf d) (prtOf d) (dflt y146) hi hk hj
  have key:=idx_some (n:=(plcs d).length) (by omega) (fun j=>(plcOf d j).1==(i:Int)&&(plcOf d j).2.1==(k:Int)) (F:=u92L1 (plcs d) (i:Int) (k:Int)) (fun g j hj=>by
    have e3:((j:Int)).toNat=j:=rfl
    refine (if_pos (by simpa using hj)).trans ?_
    rw [e3,gd_pos ⟨⟨by omega,by omega⟩,hj,(fun _=>⟨by omega,by omega⟩),(fun _=>hj),trivial⟩,gd_pos ⟨⟨by omega,by omega⟩,trivial⟩]) (fun g=>all_end)
  refine key.trans ?_
  rw [find_first hlt (by rw [ho _ hlt,decide_eq_true rfl]) (fun j hj=>by rw [ho j (by omega)]; exact decide_eq_false (by omega))]
theorem drv_cnt {b:Y46} (hb:blockOk b=true) {t:Nat} (ht:t < b.2.2.length):cntF (drvB (plcOf b.2.1) t) (plcs b.2.1).length=1:=by
  obtain ⟨hd,hlen,_⟩:=block_design hb
  have df:=df_of hd
  have hD:designB _ _ _ _ _ _ _ _ _=true:=hd
  unfold designB at hD
  rw [Bool.and_eq_true] at hD
  have hx:∀ i,i < b.2.1.1.length→1≤(insOf b.2.1 i).2.2.length∧inB ((insOf b.2.1 i).2.2.getD ((insOf b.2.1 i).2.2.length - 1) 0) 0 ((b.2.1.2.1.length:Int) - 1)=true:=fun i hi=>by
    have h1:=(df.pin i hi).1
    exact ⟨h1,df.fac.net.1 i hi _ (by omega)⟩
  obtain ⟨p1,p2⟩:=port_cnt (d:=dflt y146) hx (fun i hi=>df.fac.net.2 i hi) b.2.1.2.2.length (Nat.le_refl _)
  have hall:=all_getD (p:=fun x=>x==1) hD.2 (i:=t) (by
    unfold driveN
    rw [p1]; omega)
  have h1:(driveN b.2.1.1.length b.2.1.2.2.length b.2.1.2.1.length (insOf b.2.1) (prtOf b.2.1)).getD t 0=1:=beq_iff_eq.1 hall
  have h2:=p2 t (by omega)
  unfold driveN at h1
  rw [h1] at h2
  have h3:(plcs b.2.1).length=offs (insOf b.2.1) b.2.1.1.length+b.2.1.2.2.length:=places_len _ _ _ _
  rw [h3]
  exact Int.ofNat.inj h2.symm
theorem r93 (b:Y46) (hw:wf y46 b) (hb:blockOk b=true) {t:Nat} (ht:t < b.2.2.length):u93 b.2.1 (t:Int)=some (drvV b t)∧0≤drvV b t∧(drvV b t).toNat < (plcs b.2.1).length:=by
  have df:=df_of (block_design hb).1
  have hl:=df.len
  obtain ⟨i,h1,h2,h3,h4⟩:=drv_one (drv_cnt hb ht)
  have hv:drvV b t=(i:Int):=h4
  refine ⟨?_,by omega,by omega⟩
  unfold u93
  rw [r106 b.2.1 hw.2.1 df.fac.ni14 df.fac.np8 df.pin,vl_some,gd_pos ⟨rfl,trivial⟩,lt_eq]
  have key:=idx_some (n:=(plcs b.2.1).length) (by omega) (drvB (plcOf b.2.1) t) (F:=u93L1 (plcs b.2.1) (t:Int)) (fun g j hj=>by
    have e3:((j:Int)).toNat=j:=rfl
    refine (if_pos (by simpa using hj)).trans ?_
    rw [e3,gd_pos ⟨⟨by omega,by omega⟩,hj,(fun _=>⟨by omega,by omega⟩),(fun _=>hj),trivial⟩,gd_pos ⟨⟨by omega,by omega⟩,trivial⟩]
    rfl) (fun g=>all_end)
  refine key.trans ?_
  rw [find_first h1 h2 (fun j hj=>by rw [h3 j (by omega)]; exact decide_eq_false (by omega)),hv]
end Go.Proofs.YtgmpfbpemmohnaaGreatDoor
end

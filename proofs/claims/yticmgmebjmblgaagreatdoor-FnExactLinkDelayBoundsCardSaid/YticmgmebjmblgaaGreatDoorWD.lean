/- The links of a block. Plain facts. -/
import Derived.Test.YticmgmebjmblgaaGreatDoorWC
import Derived.Test.YticmgmebjmblgaaGreatDoorWA
section
/- The links of a block. Plain facts. -/
namespace Go.Proofs.Xd
open Go Go.Proofs Go.Proofs.Xl
abbrev DLink:=Int×Int×Int×Int
def transV (k s:Int):List (Int×Int):=if (k==2)=true then [(0,0),(0,1)] else if (k==3)=true then [(1,0),(1,1)] else if (k != 1)=true then [] else if (s==1)=true then [(0,0),(1,1)] else if (s==2)=true then [(0,1),(1,0)] else [(0,0),(0,1),(1,0),(1,1)]
theorem transV_ok (k s:Int):(transV k s).length≤4∧∀ t∈transV k s,0≤t.1∧t.1≤1∧0≤t.2∧t.2≤1:=by
  unfold transV
  split
  · exact ⟨by decide,by decide⟩
  split
  · exact ⟨by decide,by decide⟩
  split
  · exact ⟨by decide,by decide⟩
  split
  · exact ⟨by decide,by decide⟩
  split
  · exact ⟨by decide,by decide⟩
  · exact ⟨by decide,by decide⟩
def clinkF (f a b x:Int) (tr:List (Int×Int)) (k:Nat) (s:List DLink):List DLink:=s++[(2*(f+a)+(tr.getD k (0,0)).1,2*(f+b)+(tr.getD k (0,0)).2,1,x)]
theorem clinkF_len (f a b x:Int) (tr:List (Int×Int)) (s:List DLink):∀ k,(foldN (clinkF f a b x tr) k s).length=s.length+k
  | 0=>rfl
  | k+1=>by
    have:=clinkF_len f a b x tr s k
    show (clinkF f a b x tr k (foldN (clinkF f a b x tr) k s)).length=_
    generalize foldN (clinkF f a b x tr) k s=z at this
    unfold clinkF
    rw [List.length_append,this]; rfl
def carcF (f:Int) (arcs:Nat→DArc) (j:Nat) (s:List DLink):List DLink:=foldN (clinkF f (arcs j).2.1 (arcs j).2.2.1 (j:Int) (transV (arcs j).1 (arcs j).2.2.2.1)) (transV (arcs j).1 (arcs j).2.2.2.1).length s
theorem carcF_len (f:Int) (arcs:Nat→DArc) (j:Nat) (s:List DLink):(carcF f arcs j s).length≤s.length+4:=by
  unfold carcF
  rw [clinkF_len]
  have:=(transV_ok (arcs j).1 (arcs j).2.2.2.1).1
  omega
def cellLinksD (f:Int) (arcs:Nat→DArc) (m:Nat):List DLink:=foldN (carcF f arcs) m []
theorem cellLinksD_len (f:Int) (arcs:Nat→DArc):∀ m,(cellLinksD f arcs m).length≤4*m
  | 0=>Nat.le_refl _
  | m+1=>by
    have h1:=cellLinksD_len f arcs m
    have h2:=carcF_len f arcs m (cellLinksD f arcs m)
    show (carcF f arcs m (cellLinksD f arcs m)).length≤_
    omega
def instLF (nets:Nat→Nat) (arcs:Nat→Nat→DArc) (ms:Nat→Nat) (i:Nat) (s:Int×List DLink):Int×List DLink:=(s.1+(nets i:Int),s.2++cellLinksD s.1 (arcs i) (ms i))
theorem instLF_in {nets:Nat→Nat} {arcs:Nat→Nat→DArc} {ms:Nat→Nat} {n:Nat} (h:∀ i,i < n→nets i≤5∧ms i≤8):∀ m,m≤n→0≤(foldN (instLF nets arcs ms) m (0,[])).1∧(foldN (instLF nets arcs ms) m (0,[])).1≤5*(m:Int)∧(foldN (instLF nets arcs ms) m (0,[])).2.length≤32*m
  | 0,_=>⟨Int.le_refl _,Int.le_refl _,Nat.le_refl _⟩
  | m+1,hm=>by
    obtain ⟨h1,h2,h3⟩:=instLF_in h m (by omega)
    obtain ⟨h4,h5⟩:=h m (by omega)
    show 0≤(instLF nets arcs ms m (foldN (instLF nets arcs ms) m (0,[]))).1∧(instLF nets arcs ms m (foldN (instLF nets arcs ms) m (0,[]))).1≤_∧(instLF nets arcs ms m (foldN (instLF nets arcs ms) m (0,[]))).2.length≤_
    generalize foldN (instLF nets arcs ms) m (0,[])=z at h1 h2 h3
    unfold instLF
    have:=cellLinksD_len z.1 (arcs m) (ms m)
    refine ⟨by show 0≤z.1+(nets m:Int); omega,by show z.1+(nets m:Int)≤_; omega,?_⟩
    show (z.2++cellLinksD z.1 (arcs m) (ms m)).length≤_
    rw [List.length_append]; omega
def gridF (pl:Nat→DPlace) (i:Nat) (s:List (List Int)×List Int):List (List Int)×List Int:=if (pl i).2.2.2=true then (s.1,s.2.set (pl i).2.2.1.toNat (i:Int)) else (s.1.set (pl i).2.2.1.toNat (s.1.getD (pl i).2.2.1.toNat []++[(i:Int)]),s.2)
def drvN (pl:Nat→DPlace) (t:Int) (m:Nat):Int:=foldN (fun i s=>if ((pl i).2.2.1==t&&(pl i).2.2.2)=true then (i:Int) else s) m 0
theorem drvN_in (pl:Nat→DPlace) (t:Int):∀ m,0≤drvN pl t m∧drvN pl t m≤m
  | 0=>⟨Int.le_refl _,Int.le_refl _⟩
  | m+1=>by
    have:=drvN_in pl t m
    have e:drvN pl t (m+1)=if ((pl m).2.2.1==t&&(pl m).2.2.2)=true then (m:Int) else drvN pl t m:=rfl
    rw [e]
    split <;> omega
theorem sinkL_succ (pl:Nat→DPlace) (t:Int) (m:Nat):foldN (sinkL pl t) (m+1) []=if ((pl m).2.2.1==t&&!(pl m).2.2.2)=true then foldN (sinkL pl t) m []++[(m:Int)] else foldN (sinkL pl t) m []:=rfl
theorem getD_set {α:Type} {l:List α} {i j:Nat} {x d:α} (hi:i < l.length):(l.set i x).getD j d=if j=i then x else l.getD j d:=by
  by_cases h:j=i
  · subst h; simp [hi]
  · rw [if_neg h]; simp [List.getD_eq_getElem?_getD,List.getElem?_set_ne (Ne.symm h)]
theorem grid_fold (pl:Nat→DPlace) (n:Nat):∀ m,(∀ i,i < m→inB (pl i).2.2.1 0 ((n:Int) - 1)=true)→(foldN (gridF pl) m (List.replicate n [],List.replicate n 0)).1.length=n∧(foldN (gridF pl) m (List.replicate n [],List.replicate n 0)).2.length=n ∧
    ∀ k:Nat,k < n→(foldN (gridF pl) m (List.replicate n [],List.replicate n 0)).1.getD k []=foldN (sinkL pl k) m []∧(foldN (gridF pl) m (List.replicate n [],List.replicate n 0)).2.getD k 0=drvN pl k m
  | 0,_=>⟨List.length_replicate,List.length_replicate,fun k hk=>by
    constructor
    · show (List.replicate n ([]:List Int)).getD k []=[]
      rw [List.getD_eq_getElem?_getD,List.getElem?_replicate,if_pos hk]; rfl
    · show (List.replicate n (0:Int)).getD k 0=0
      rw [List.getD_eq_getElem?_getD,List.getElem?_replicate,if_pos hk]; rfl⟩
  | m+1,h=>by
    obtain ⟨h1,h2,h3⟩:=grid_fold pl n m (fun i hi=>h i (by omega))
    have hm:=inB_iff.1 (h m (by omega))
    have e:foldN (gridF pl) (m+1) (List.replicate n [],List.replicate n 0)=gridF pl m (foldN (gridF pl) m (List.replicate n [],List.replicate n 0)):=rfl
    rw [e]
    generalize foldN (gridF pl) m (List.replicate n [],List.replicate n 0)=z at h1 h2 h3
    have hlt:(pl m).2.2.1.toNat < n:=by omega
    have ed:∀ k:Nat,drvN pl k (m+1)=if ((pl m).2.2.1==(k:Int)&&(pl m).2.2.2)=true then (m:Int) else drvN pl k m:=fun _=>rfl
    have eq:∀ k:Nat,((pl m).2.2.1==(k:Int))=decide (k=(pl m).2.2.1.toNat):=fun k=>by
      rw [Bool.eq_iff_iff,beq_iff_eq,decide_eq_true_eq]
      omega
    unfold gridF
    cases hd:(pl m).2.2.2 with
    | true =>
      rw [if_pos rfl]
      refine ⟨h1,by rw [List.length_set]; exact h2,fun k hk=>?_⟩
      rw [sinkL_succ,ed k,eq,hd]
      refine ⟨by simpa using (h3 k hk).1,?_⟩
      show (z.2.set (pl m).2.2.1.toNat (m:Int)).getD k 0=_
      rw [getD_set (by omega)]
      by_cases hkk:k=(pl m).2.2.1.toNat
      · simp [hkk]
      · rw [if_neg hkk,(h3 k hk).2]; simp [hkk]
    | false =>
      rw [if_neg (by simp)]
      refine ⟨by rw [List.length_set]; exact h1,h2,fun k hk=>?_⟩
      rw [sinkL_succ,ed k,eq,hd]
      refine ⟨?_,by simpa using (h3 k hk).2⟩
      show (z.1.set (pl m).2.2.1.toNat (z.1.getD (pl m).2.2.1.toNat []++[(m:Int)])).getD k []=_
      rw [getD_set (by omega)]
      by_cases hkk:k=(pl m).2.2.1.toNat
      · rw [if_pos hkk,← hkk,(h3 k hk).1]; simp
      · rw [if_neg hkk,(h3 k hk).1]; simp [hkk]
def wlinkF (d s x:Int) (t:Nat) (z:List DLink):List DLink:=z++[(2*d+(t:Int),2*s+(t:Int),2,x)]
def wsinkF (d:Int) (sn:List Int) (k:Nat) (z:List DLink):List DLink:=foldN (wlinkF d (sn.getD k 0) (k:Int)) 2 z
theorem wsinkF_len (d:Int) (sn:List Int) (k:Nat) (z:List DLink):(wsinkF d sn k z).length=z.length+2:=by
  show ((z++_)++_).length=_
  rw [List.length_append,List.length_append]; rfl
def netLF (d:Nat→Int) (sn:Nat→List Int) (i:Nat) (z:List DLink):List DLink:=foldN (wsinkF (d i) (sn i)) (sn i).length z
theorem wsink_len (d:Int) (sn:List Int) (z:List DLink):∀ k,(foldN (wsinkF d sn) k z).length=z.length+2*k
  | 0=>rfl
  | k+1=>by
    have:=wsink_len d sn z k
    show (wsinkF d sn k (foldN (wsinkF d sn) k z)).length=_
    rw [wsinkF_len,this]; omega
theorem netL_len (d:Nat→Int) (sn:Nat→List Int) (z:List DLink) {n c:Nat} (h:∀ i,i < n→(sn i).length≤c):∀ m,m≤n→(foldN (netLF d sn) m z).length≤z.length+2*(c*m)
  | 0,_=>by simp [foldN]
  | m+1,hm=>by
    have h1:=netL_len d sn z h m (by omega)
    have h2:=h m (by omega)
    show (foldN (wsinkF (d m) (sn m)) (sn m).length (foldN (netLF d sn) m z)).length≤_
    rw [wsink_len,Nat.mul_add c]
    omega
def appF {α:Type} (f:Nat→α) (i:Nat) (s:List α):List α:=s++[f i]
theorem appF_len {α:Type} (f:Nat→α):∀ n,(foldN (appF f) n []).length=n
  | 0=>rfl
  | n+1=>by
    have:=appF_len f n
    show (appF f n (foldN (appF f) n [])).length=_
    generalize foldN (appF f) n []=z at this
    unfold appF
    rw [List.length_append,this]; rfl
theorem appF_get {α:Type} (f:Nat→α) (d:α):∀ n i,i < n→(foldN (appF f) n []).getD i d=f i
  | n+1,i,h=>by
    have hl:=appF_len f n
    have ih:=appF_get f d n i
    show (appF f n (foldN (appF f) n [])).getD i d=_
    generalize foldN (appF f) n []=s at hl ih
    unfold appF
    rcases Nat.lt_or_ge i n with hi | hi
    · rw [getD_left (by rw [hl]; exact hi)]; exact ih hi
    · have:i=n:=by omega
      subst this
      rw [getD_right (by rw [hl]; exact Nat.le_refl _),hl,Nat.sub_self]; rfl
end Go.Proofs.Xd
end
section
/- The links of a cell: the program's way. -/
namespace Go.Proofs.YticmgmebjmblgaaGreatDoor
open Go Go.Proofs Go.Proofs.Sv Go.Proofs.Xv Go.Proofs.Xl Go.Proofs.Xd
theorem r148 (a:Y102):u148 a=some (transV a.1 a.2.2.2.1):=by
  unfold u148 transV
  split
  · rfl
  split
  · rfl
  split
  · rfl
  split
  · rfl
  split
  · rfl
  · rfl
theorem r94 (b:Y45) (df:DF b.1 b.2.1) {i:Nat} (hi:i < b.2.1.1.length) (f:Int) (h0:0≤f) (h1:f≤1000):u94 b (insOf b.2.1 i) f=some (cellLinksD f (arcOf (celI b i)) (celI b i).2.2.2.1.length):=by
  obtain ⟨x1,x2,x3⟩:=inst_cell' df hi
  obtain ⟨c1,c2,c3,c4⟩:=cell_arcs x2
  unfold u94
  rw [gd_pos ⟨x1,trivial⟩,lt_eq]
  show lp (u94L1 f (celI b i)) ([],0)=_
  generalize celI b i=c at c1 c2 c3 c4
  refine lp_fold (n:=c.2.2.2.1.length) (by omega) (fun (j:Nat) (s:List DLink)=>(s,(j:Int))) (carcF f (arcOf c)) (fun j s=>s.length≤4*j) (J:=fun s=>some s) (F:=u94L1 f c) (fun g j s hj hI=>?_) (fun j s hj hI=>?_) (fun g s _=>all_end) [] (Nat.le_refl _)
  · have e4:((j:Int)).toNat=j:=rfl
    obtain ⟨a1,a2,a3,a4⟩:=c4 j hj
    have hI:s.length≤4*j:=hI
    refine (if_pos (by simpa using hj)).trans ?_
    rw [e4,gd_pos ⟨⟨by omega,by omega⟩,trivial⟩,lt_eq,r148,vl_some,gd_pos ⟨rfl,trivial⟩,lt_eq]
    show lp (u94L3 f (arcOf c j) (j:Int) (transV (arcOf c j).1 (arcOf c j).2.2.2.1) g) (0,s)=g (carcF f (arcOf c) j s,_)
    obtain ⟨t1,t2⟩:=transV_ok (arcOf c j).1 (arcOf c j).2.2.2.1
    have ec:carcF f (arcOf c) j s=foldN (clinkF f (arcOf c j).2.1 (arcOf c j).2.2.1 (j:Int) (transV (arcOf c j).1 (arcOf c j).2.2.2.1)) (transV (arcOf c j).1 (arcOf c j).2.2.2.1).length s:=rfl
    rw [ec]
    generalize transV (arcOf c j).1 (arcOf c j).2.2.2.1=tr at t1 t2
    generalize arcOf c j=a at a1 a2 a3 a4
    refine (lp_fold (n:=tr.length) (by omega) (fun (k:Nat) (s:List DLink)=>((k:Int),s)) (clinkF f a.2.1 a.2.2.1 (j:Int) tr) (fun k z=>z.length=s.length+k) (J:=fun z=>u94J2 (j:Int) g z) (F:=u94L3 f a (j:Int) tr g) (fun g3 k z hk hz=>?_) (fun k z hk hz=>?_) (fun g3 z _=>all_end) s rfl).trans ?_
    · have e5:((k:Int)).toNat=k:=rfl
      have ht:=t2 _ (getD_mem (d:=((0,0):Int×Int)) hk)
      have hz:z.length=s.length+k:=hz
      refine (if_pos (by simpa using hk)).trans ?_
      rw [e5,gd_pos ⟨⟨by omega,by omega⟩,hk,trivial⟩,lt_eq]
      show gd _ _=_
      rw [gd_pos ⟨⟨by omega,by omega⟩,⟨by omega,by omega⟩,⟨by omega,by omega⟩,⟨by show _≤2*(f+a.2.1)+(tr.getD k (0,0)).1; omega,by show 2*(f+a.2.1)+(tr.getD k (0,0)).1≤_; omega⟩,⟨by omega,by omega⟩,⟨by omega,by omega⟩,⟨by omega,by omega⟩,⟨by show _≤2*(f+a.2.2.1)+(tr.getD k (0,0)).2; omega,by show 2*(f+a.2.2.1)+(tr.getD k (0,0)).2≤_; omega⟩,⟨by show z.length+1≤_; omega,by show (z.length+1)*32≤_; omega⟩,trivial⟩,lt_eq]
      exact gd_pos ⟨⟨by omega,by omega⟩,trivial⟩
    · have hz:z.length=s.length+k:=hz
      unfold clinkF
      rw [List.length_append,hz]; rfl
    · exact gd_pos ⟨⟨by omega,by omega⟩,trivial⟩
  · have hI:s.length≤4*j:=hI
    have:=carcF_len f (arcOf c) j s
    show _≤4*(j+1)
    omega
end Go.Proofs.YticmgmebjmblgaaGreatDoor
end
section
/- The view of a block: the program's way. -/
namespace Go.Proofs.YticmgmebjmblgaaGreatDoor
open Go Go.Proofs Go.Proofs.Sv Go.Proofs.Xv Go.Proofs.Xl Go.Proofs.Xd
def instLV (b:Y45) (i:Nat) (s:Int×List DLink):Int×List DLink:=instLF (fun i=>(insOf b.2.1 i).2.2.length) (fun i=>arcOf (celI b i)) (fun i=>(celI b i).2.2.2.1.length) i s
def drvV (b:Y45) (i:Nat):Int:=drvN (plcOf b.2.1) i (plcs b.2.1).length
def clinksV (b:Y45):List DLink:=(foldN (instLV b) b.2.1.1.length (0,[])).2
def linksV (b:Y45):List DLink:=foldN (netLF (drvV b) (fun i=>sinksV b.2.1 i)) b.2.2.length (clinksV b)
def loadsL (b:Y45):List Int:=foldN (appF fun i=>(loadsV b i).getD 0 0) b.2.2.length []
def delaysL (b:Y45):List (List Int):=foldN (appF fun i=>exactV b i) b.2.2.length []
def viewV (b:Y45):Y110:=(b,plcs b.2.1,linksV b,loadsL b,delaysL b,[])
theorem instLV_in {b:Y45} (df:DF b.1 b.2.1) (m:Nat) (hm:m≤b.2.1.1.length):0≤(foldN (instLV b) m (0,[])).1∧(foldN (instLV b) m (0,[])).1≤5*(m:Int)∧(foldN (instLV b) m (0,[])).2.length≤32*m :=
  instLF_in (n:=b.2.1.1.length) (fun i hi=>⟨(df.pin i hi).2,(cell_arcs (inst_cell' df hi).2.1).2.2.1⟩) m hm
def stepV (b:Y45) (i:Nat) (s:List Int×List (List Int)×List DLink):List Int×List (List Int)×List DLink:=(s.1++[(loadsV b i).getD 0 0],s.2.1++[exactV b i],netLF (drvV b) (fun i=>sinksV b.2.1 i) i s.2.2)
theorem stepV_fold (b:Y45) (z:List DLink):∀ m,foldN (stepV b) m ([],[],z)=(foldN (appF fun i=>(loadsV b i).getD 0 0) m [],foldN (appF fun i=>exactV b i) m [],foldN (netLF (drvV b) (fun i=>sinksV b.2.1 i)) m z)
  | 0=>rfl
  | m+1=>by
    show stepV b m (foldN (stepV b) m ([],[],z))=_
    rw [stepV_fold b z m]; rfl
theorem r44 (b:Y45) (hw:wf y45 b) (hb:blockOk b=true):u44 b=some (viewV b):=by
  obtain ⟨hd0,hlen,hwire⟩:=block_design hb
  have df:=df_of hd0
  have hd:=hw.2.1
  have h14:=df.fac.ni14
  have h30:=df.fac.nn30
  have hpl:=df.len
  have hin:b.2.1.1.length≤9223372036854775807:=by omega
  have eN:∀ l,u95 l=some (l.length:Int):=fun _=>rfl
  unfold u44
  rw [r92 b.2.1 hd df.fac.ni14 df.fac.np8 df.pin,vl_some,gd_pos ⟨rfl,trivial⟩,lt_eq]
  refine (lp_fold (n:=b.2.1.1.length) hin (fun (i:Nat) (s:Int×List DLink)=>(s.1,(i:Int),s.2)) (instLV b) (fun i s=>0≤s.1∧s.1≤5*(i:Int)∧s.2.length≤32*i) (J:=fun s=>u44J0 (plcs b.2.1) b s.2) (F:=u44L1 b (plcs b.2.1)) (fun g i s hi hI=>?_) (fun i s hi hI=>?_) (fun g s _=>all_end) (0,[]) ⟨Int.le_refl _,Int.le_refl _,Nat.le_refl _⟩).trans ?_
  · have e3:((i:Int)).toNat=i:=rfl
    obtain ⟨f,z⟩:=s
    obtain ⟨i1,i2,i3⟩:=hI
    have i1:0≤f:=i1
    have i2:f≤5*(i:Int):=i2
    have i3:z.length≤32*i:=i3
    have hp:=df.pin i hi
    have hcl:=cellLinksD_len f (arcOf (celI b i)) (celI b i).2.2.2.1.length
    have hc8:=(cell_arcs (inst_cell' df hi).2.1).2.2.1
    refine (if_pos (by simpa using hi)).trans ?_
    rw [e3,gd_pos ⟨⟨by omega,by omega⟩,trivial⟩,lt_eq]
    show gd ((u94 b (insOf b.2.1 i) f).isSome=true∧_∧True) _=_
    rw [r94 b df hi f i1 (by omega),vl_some,gd_pos ⟨rfl,⟨by omega,by omega⟩,trivial⟩,lt_eq]
    show gd ((u95 (insOf b.2.1 i).2.2).isSome=true∧in64 (f+vl (u95 (insOf b.2.1 i).2.2))∧True) _=_
    rw [eN,vl_some,gd_pos ⟨rfl,⟨by omega,by omega⟩,trivial⟩,lt_eq]
    exact gd_pos ⟨⟨by omega,by omega⟩,trivial⟩
  · obtain ⟨f,z⟩:=s
    obtain ⟨i1,i2,i3⟩:=hI
    have i1:0≤f:=i1
    have i2:f≤5*(i:Int):=i2
    have i3:z.length≤32*i:=i3
    have hp:=df.pin i hi
    have hcl:=cellLinksD_len f (arcOf (celI b i)) (celI b i).2.2.2.1.length
    have hc8:=(cell_arcs (inst_cell' df hi).2.1).2.2.1
    refine ⟨by show 0≤f+((insOf b.2.1 i).2.2.length:Int); omega,by show f+((insOf b.2.1 i).2.2.length:Int)≤_; omega,?_⟩
    show (z++cellLinksD f (arcOf (celI b i)) (celI b i).2.2.2.1.length).length≤_
    rw [List.length_append]; omega
  have hz:=(instLV_in df _ (Nat.le_refl _)).2.2
  have ecl:clinksV b=(foldN (instLV b) b.2.1.1.length (0,[])).2:=rfl
  unfold viewV linksV loadsL delaysL
  rw [ecl]
  generalize (foldN (instLV b) b.2.1.1.length (0,[])).2=z at hz
  show u44J0 (plcs b.2.1) b z=_
  have hn30:b.2.2.length≤30:=by omega
  rw [u44J0,gd_pos ⟨⟨by omega,rfl,by omega,by omega⟩,trivial⟩,gd_pos ⟨⟨by omega,rfl,by omega,by omega⟩,trivial⟩]
  show lp (u44L3 (plcs b.2.1) b z) (0,List.replicate b.2.2.length [],List.replicate b.2.2.length 0)=_
  have hnet:∀ i,i < (plcs b.2.1).length→inB (plcOf b.2.1 i).2.2.1 0 ((b.2.2.length:Int) - 1)=true:=fun i hi=>by rw [hlen]; exact df.plc _ (plc_mem hi)
  have gf:=grid_fold (plcOf b.2.1) b.2.2.length
  refine (lp_fold (n:=(plcs b.2.1).length) (by omega) (fun (i:Nat) (s:List (List Int)×List Int)=>((i:Int),s.1,s.2)) (gridF (plcOf b.2.1)) (fun i s=>s.1.length=b.2.2.length∧s.2.length=b.2.2.length∧∀ k:Nat,(s.1.getD k []).length≤i) (J:=fun s=>u44J2 b (plcs b.2.1) z s) (F:=u44L3 (plcs b.2.1) b z) (fun g i s hi hI=>?_) (fun i s hi hI=>?_) (fun g s _=>all_end) (List.replicate b.2.2.length [],List.replicate b.2.2.length 0) ⟨List.length_replicate,List.length_replicate,fun k=>?_⟩).trans ?_
  · obtain ⟨gr,dr⟩:=s
    obtain ⟨g1,g2,g3⟩:=hI
    have g1:gr.length=b.2.2.length:=g1
    have g2:dr.length=b.2.2.length:=g2
    have g3:∀ k:Nat,(gr.getD k []).length≤i:=g3
    have hp:=inB_iff.1 (hnet i hi)
    have e3:((i:Int)).toNat=i:=rfl
    have j4:∀ x y,u44J4 (i:Int) g (x,y)=g (((i+1:Nat):Int),y,x):=fun x y=>gd_pos ⟨⟨by omega,by omega⟩,trivial⟩
    have g4:=g3 (plcOf b.2.1 i).2.2.1.toNat
    refine (if_pos (by simpa using hi)).trans ?_
    rw [e3,gd_pos ⟨⟨by omega,by omega⟩,hi,trivial⟩,lt_eq]
    show (if (plcOf b.2.1 i).2.2.2=true then _ else _)=g (_,(gridF (plcOf b.2.1) i (gr,dr)).1,(gridF (plcOf b.2.1) i (gr,dr)).2)
    unfold gridF
    cases (plcOf b.2.1 i).2.2.2 with
    | true =>
      rw [if_pos rfl,if_pos rfl]
      show gd (ix (plcOf b.2.1 i).2.2.1 dr.length∧_∧True) _=_
      rw [gd_pos ⟨⟨by omega,by omega⟩,by show (plcOf b.2.1 i).2.2.1.toNat < _; omega,trivial⟩,j4]
    | false =>
      rw [if_neg (by simp),if_neg (by simp)]
      show gd (ix (plcOf b.2.1 i).2.2.1 gr.length∧_) _=_
      rw [gd_pos ⟨⟨by omega,by omega⟩,by show (plcOf b.2.1 i).2.2.1.toNat < _; omega,⟨by show (gr.getD (plcOf b.2.1 i).2.2.1.toNat []).length+1≤_; omega,by show ((gr.getD (plcOf b.2.1 i).2.2.1.toNat []).length+1)*8≤_; omega⟩,⟨by show 0≤(plcOf b.2.1 i).2.2.1; omega,by show (plcOf b.2.1 i).2.2.1 < _; omega⟩,⟨by show (plcOf b.2.1 i).2.2.1.toNat < _; omega,rfl⟩,trivial⟩,lt_eq,j4]
  · obtain ⟨gr,dr⟩:=s
    obtain ⟨g1,g2,g3⟩:=hI
    have g1:gr.length=b.2.2.length:=g1
    have g2:dr.length=b.2.2.length:=g2
    have g3:∀ k:Nat,(gr.getD k []).length≤i:=g3
    have hp:=inB_iff.1 (hnet i hi)
    unfold gridF
    split
    · exact ⟨g1,by show (dr.set _ _).length=_; rw [List.length_set]; exact g2,fun k=>by have:=g3 k; show (gr.getD k []).length≤_; omega⟩
    · refine ⟨by show (gr.set _ _).length=_; rw [List.length_set]; exact g1,g2,fun k=>?_⟩
      show ((gr.set (plcOf b.2.1 i).2.2.1.toNat (gr.getD (plcOf b.2.1 i).2.2.1.toNat []++[(i:Int)])).getD k []).length≤_
      rw [getD_set (by omega)]
      have:=g3 k
      have:=g3 (plcOf b.2.1 i).2.2.1.toNat
      split
      · rw [List.length_append]; show _+1≤_; omega
      · omega
  · show ((List.replicate b.2.2.length ([]:List Int)).getD k []).length≤0
    rw [List.getD_eq_getElem?_getD,List.getElem?_replicate]
    split <;> exact Nat.le_refl _
  obtain ⟨gl,dl,gd'⟩:=gf (plcs b.2.1).length hnet
  generalize foldN (gridF (plcOf b.2.1)) (plcs b.2.1).length (List.replicate b.2.2.length [],List.replicate b.2.2.length 0)=s at gl dl gd'
  obtain ⟨gr,dr⟩:=s
  have gl:gr.length=b.2.2.length:=gl
  have dl:dr.length=b.2.2.length:=dl
  have hgr:∀ k:Nat,k < b.2.2.length→gr.getD k []=sinksV b.2.1 k:=fun k hk=>(gd' k hk).1
  have hdr:∀ k:Nat,k < b.2.2.length→dr.getD k 0=drvV b k:=fun k hk=>(gd' k hk).2
  show lp (u44L6 dr gr b (plcs b.2.1)) (0,[],[],z)=_
  refine (lp_fold (n:=b.2.2.length) (by omega) (fun (i:Nat) (s:List Int×List (List Int)×List DLink)=>((i:Int),s.1,s.2.1,s.2.2)) (stepV b) (fun i s=>s.1.length=i∧s.2.1.length=i∧s.2.2.length≤500+160*i) (J:=fun s=>some (b,plcs b.2.1,s.2.2,s.1,s.2.1,[])) (F:=u44L6 dr gr b (plcs b.2.1)) (fun g i s hi hI=>?_) (fun i s hi hI=>?_) (fun g s _=>all_end) ([],[],z) ⟨rfl,rfl,by show z.length≤_; omega⟩).trans ?_
  · obtain ⟨s1,s2,s3⟩:=s
    obtain ⟨i1,i2,i3⟩:=hI
    have i1:s1.length=i:=i1
    have i2:s2.length=i:=i2
    have i3:s3.length≤500+160*i:=i3
    have hno:=net_ok hb hi
    have n1:=hno.wf.n1
    have hs78:=hno.s78
    have hll:=hno.loads.1
    have e3:((i:Int)).toNat=i:=rfl
    refine (if_pos (by simpa using hi)).trans ?_
    rw [r96 b hw hno,vl_some,gd_pos ⟨rfl,⟨by omega,by omega⟩,by show 0 < _; omega,⟨by show s1.length+1≤_; omega,by show (s1.length+1)*8≤_; omega⟩,trivial⟩,lt_eq,r97 b hw hno,vl_some,gd_pos ⟨rfl,⟨by show s2.length+1≤_; omega,by show (s2.length+1)*24≤_; omega⟩,trivial⟩,lt_eq,gd_pos ⟨⟨by omega,by omega⟩,trivial⟩]
    have hsn:=hgr i hi
    have hdn:=hdr i hi
    have hdv:=drvN_in (plcOf b.2.1) i (plcs b.2.1).length
    have hdv:0≤drvV b i∧drvV b i≤((plcs b.2.1).length:Int):=hdv
    show lp (u44L8 dr (i:Int) gr s2 (exactV b i) s1 (loadsV b i) g) (0,s3)=g (_,s1++[(loadsV b i).getD 0 0],s2++[exactV b i],netLF (drvV b) (fun i=>sinksV b.2.1 i) i s3)
    refine (lp_fold (n:=(sinksV b.2.1 i).length) (by omega) (fun (k:Nat) (s:List DLink)=>((k:Int),s)) (wsinkF (drvV b i) (sinksV b.2.1 i)) (fun k y=>y.length=s3.length+2*k) (J:=fun y=>u44J7 (i:Int) g (s2++[exactV b i],s1++[(loadsV b i).getD 0 0],y)) (F:=u44L8 dr (i:Int) gr s2 (exactV b i) s1 (loadsV b i) g) (fun g8 k y hk hy=>?_) (fun k y hk hy=>?_) (fun g8 y _=>?_) s3 rfl).trans ?_
    · have hy:y.length=s3.length+2*k:=hy
      obtain ⟨k1,k2⟩:=sinksV_at hk
      have e4:((k:Int)).toNat=k:=rfl
      show u44L8 dr (i:Int) gr s2 (exactV b i) s1 (loadsV b i) g g8 ((k:Int),y)=_
      rw [u44L8,e3,hsn,if_pos (by simpa using hk),gd_pos ⟨⟨by omega,by omega⟩,trivial⟩]
      show _=g8 (_,wsinkF (drvV b i) (sinksV b.2.1 i) k y)
      refine (lp_fold (n:=2) (by decide) (fun (t:Nat) (x:List DLink)=>((t:Int),x)) (wlinkF (drvV b i) ((sinksV b.2.1 i).getD k 0) (k:Int)) (fun t x=>x.length=y.length+t) (J:=fun x=>u44J9 (k:Int) g8 x) (F:=u44L10 dr (i:Int) gr (k:Int) g8) (fun g10 t x ht hx=>?_) (fun t x ht hx=>?_) (fun g10 x _=>?_) y rfl).trans ?_
      · have hx:x.length=y.length+t:=hx
        show u44L10 dr (i:Int) gr (k:Int) g8 g10 ((t:Int),x)=_
        rw [u44L10,e3,e4,hsn,hdn,if_pos (decide_eq_true (by omega)),gd_pos ⟨⟨by omega,by omega⟩,by omega,⟨by omega,by omega⟩,⟨by omega,by omega⟩,⟨by omega,by omega⟩,⟨by omega,by omega⟩,⟨by show x.length+1≤_; omega,by show (x.length+1)*32≤_; omega⟩,trivial⟩,lt_eq]
        exact gd_pos ⟨⟨by omega,by omega⟩,trivial⟩
      · have hx:x.length=y.length+t:=hx
        unfold wlinkF
        rw [List.length_append,hx]; rfl
      · show u44L10 dr (i:Int) gr (k:Int) g8 g10 (((2:Nat):Int),x)=_
        rw [u44L10]
        exact if_neg (by decide)
      · exact gd_pos ⟨⟨by omega,by omega⟩,trivial⟩
    · have hy:y.length=s3.length+2*k:=hy
      rw [wsinkF_len,hy]; omega
    · show u44L8 dr (i:Int) gr s2 (exactV b i) s1 (loadsV b i) g g8 (((sinksV b.2.1 i).length:Int),y)=_
      rw [u44L8,e3,hsn]
      exact if_neg (by simp)
    · exact gd_pos ⟨⟨by omega,by omega⟩,trivial⟩
  · obtain ⟨s1,s2,s3⟩:=s
    obtain ⟨i1,i2,i3⟩:=hI
    have i1:s1.length=i:=i1
    have i2:s2.length=i:=i2
    have i3:s3.length≤500+160*i:=i3
    have hs78:=(net_ok hb hi).s78
    refine ⟨by show (s1++_).length=_; rw [List.length_append,i1]; rfl,by show (s2++_).length=_; rw [List.length_append,i2]; rfl,?_⟩
    show (netLF (drvV b) (fun i=>sinksV b.2.1 i) i s3).length≤_
    unfold netLF
    rw [wsink_len]
    show s3.length+2*(sinksV b.2.1 i).length≤500+160*(i+1)
    omega
  · rw [stepV_fold]
end Go.Proofs.YticmgmebjmblgaaGreatDoor
end
section
/- Axes of tables: rising; the place of a number between the elements. -/
namespace Go.Proofs.Xd
open Go Go.Proofs.Xv Go.Proofs.Xl
theorem axis_inc {xs:List Int} (h:isAxis xs=true):∀ i,0 < i→i < xs.length→xs.getD (i - 1) 0 < xs.getD i 0:=by
  simp only [isAxis,Bool.and_eq_true,decide_eq_true_eq] at h
  intro i h0 hi
  have:=not_any.1 h.2 i hi
  simp only [Bool.and_eq_false_iff,decide_eq_false_iff_not] at this
  omega
theorem axis_mono {xs:List Int} (h:isAxis xs=true):∀ k i,i+k < xs.length→0 < k→xs.getD i 0 < xs.getD (i+k) 0:=by
  intro k
  induction k with
  | zero=>intro i _ h0; omega
  | succ k ih =>
    intro i hi _
    have h1:=axis_inc h (i+(k+1)) (by omega) hi
    have e:i+(k+1) - 1=i+k:=by omega
    rw [e] at h1
    by_cases hk:k=0
    · subst hk; exact h1
    · have:=ih i (by omega) (by omega); omega
theorem axis_lt {xs:List Int} (h:isAxis xs=true) {i j:Nat} (hij:i < j) (hj:j < xs.length):xs.getD i 0 < xs.getD j 0:=by
  have:=axis_mono h (j - i) i (by omega) (by omega)
  have e:i+(j - i)=j:=by omega
  rwa [e] at this
theorem axis_in {xs:List Int} (h:isAxis xs=true) {i:Nat} (hi:i < xs.length):0≤xs.getD i 0∧xs.getD i 0≤100000:=by
  simp only [isAxis,Bool.and_eq_true,decide_eq_true_eq] at h
  have h1:=h.1.2
  rw [List.all_eq_true] at h1
  have e:xs.getD i 0=xs[i]:=by rw [List.getD_eq_getElem?_getD,List.getElem?_eq_getElem hi]; rfl
  rw [e]
  exact inB_iff.1 (h1 _ (List.getElem_mem hi))
theorem table_in {t:DTbl} (h:isTable t=true) {i:Nat} (hi:i < t.2.2.length) : -1000000≤t.2.2.getD i 0∧t.2.2.getD i 0≤1000000:=by
  simp only [isTable,Bool.and_eq_true,decide_eq_true_eq] at h
  have h1:=h.2
  rw [List.all_eq_true] at h1
  have e:t.2.2.getD i 0=t.2.2[i]:=by rw [List.getD_eq_getElem?_getD,List.getElem?_eq_getElem hi]; rfl
  rw [e]
  exact inB_iff.1 (h1 _ (List.getElem_mem hi))
theorem axis_at {xs:List Int} (h:isAxis xs=true) {x:Int} (h0:xs.getD 0 0≤x) (h1:x≤xs.getD (xs.length - 1) 0):∃ p,p < xs.length∧(∀ i,i < p→xs.getD i 0 < x)∧(∀ i,p≤i→i < xs.length→x≤xs.getD i 0):=by
  have key:∀ m,m≤xs.length→(∃ p,p < m∧(∀ i,i < p→xs.getD i 0 < x)∧x≤xs.getD p 0)∨∀ i,i < m→xs.getD i 0 < x:=by
    intro m
    induction m with
    | zero=>exact fun _=>.inr fun i hi=>by omega
    | succ m ih =>
      intro hm
      rcases ih (by omega) with ⟨p,hp,h2,h3⟩ | h2
      · exact .inl ⟨p,by omega,h2,h3⟩
      · by_cases hx:x≤xs.getD m 0
        · exact .inl ⟨m,by omega,h2,hx⟩
        · exact .inr fun i hi=>by
            by_cases him:i=m
            · subst him; omega
            · exact h2 i (by omega)
  have hl:=axis_len h
  rcases key xs.length (Nat.le_refl _) with ⟨p,hp,h2,h3⟩ | h2
  · refine ⟨p,hp,h2,fun i hpi hi=>?_⟩
    by_cases he:p=i
    · subst he; exact h3
    · have:=axis_lt h (by omega:p < i) hi; omega
  · have:=h2 (xs.length - 1) (by omega); omega
theorem lp_of {σ ρ:Type} {F:(σ→Option ρ)→σ→Option ρ} {s:σ} {r:Option ρ} (k:Nat) (hk:k≤9223372036854775807) (h:∀ n,itF F (n+k) s=r):lp F s=r:=by
  have e:big=(big - k)+k:=by have:=big_gt hk; omega
  unfold lp
  rw [e]
  exact h _
theorem mid_nat (i j:Nat):((i:Int)+(j:Int)).fdiv ((2:Int) ^ Int.toNat (1:Int))=((((i+j) / 2:Nat)):Int):=by
  have e:(2:Int) ^ Int.toNat (1:Int)=2:=by decide
  rw [e,Int.fdiv_eq_ediv_of_nonneg _ (by omega)]
  omega
theorem mul_bd {x y A B:Int} (h1 : -A≤x) (h2:x≤A) (h3:0≤y) (h4:y≤B) (hA:0≤A) : -(A*B)≤x*y∧x*y≤A*B:=by
  have a1:x*y≤A*y:=Int.mul_le_mul_of_nonneg_right h2 h3
  have a2:A*y≤A*B:=Int.mul_le_mul_of_nonneg_left h4 hA
  have a3 : -A*y≤x*y:=Int.mul_le_mul_of_nonneg_right h1 h3
  rw [Int.neg_mul] at a3
  omega
theorem row_ix {p q n1 n2:Nat} (hp:p < n1) (hq:q < n2):p*n2+q < n1*n2:=by
  have h1:(p+1)*n2≤n1*n2:=Nat.mul_le_mul_right _ hp
  rw [Nat.add_mul,Nat.one_mul] at h1
  omega
end Go.Proofs.Xd
end
section
/- Division that rounds, and what a table says at a place: the program's functions and the reference's. -/
namespace Go.Proofs.YticmgmebjmblgaaGreatDoor
open Go Go.Proofs Go.Proofs.Xv Go.Proofs.Xl Go.Proofs.Xd
theorem r208 (a b:Int):u208 a b=some (decide (a < b)):=by
  unfold u208
  have e:∀ a,u227 a=some (a != a):=fun _=>rfl
  rw [e,e,gd_pos ⟨rfl,fun _=>rfl,trivial⟩,vl_some,vl_some]
  simp
theorem r183 {xs:List Int} {x:Int} (hn:xs.length≤4611686018427387903) {p:Nat} (hp:p < xs.length) (h1:∀ i,i < p→xs.getD i 0 < x) (h2:∀ i,p≤i→i < xs.length→x≤xs.getD i 0):u183 xs x=some ((p:Int),xs.getD p 0==x):=by
  have key:∀ (m i j:Nat),i≤p→p≤j→j≤xs.length→j - i < m→itF (u183L1 xs x) m ((i:Int),(j:Int))=some ((p:Int),xs.getD p 0==x):=by
    intro m
    induction m with
    | zero=>intro i j _ _ _ h; omega
    | succ m ih =>
      intro i j hi hj hjn hm
      show u183L1 xs x (itF (u183L1 xs x) m) ((i:Int),(j:Int))=_
      rw [u183L1]
      by_cases hij:i < j
      · have hmid:(i+j) / 2 < xs.length:=by omega
        have e3:((((i+j) / 2:Nat)):Int).toNat=(i+j) / 2:=rfl
        rw [if_pos (by simpa using hij),mid_nat,gd_pos ⟨⟨by omega,by omega⟩,⟨by omega,by omega⟩,⟨⟨by decide,by decide⟩,by omega,by omega⟩,⟨by omega,by omega⟩,trivial⟩,e3,r208,gd_pos ⟨⟨by omega,by omega⟩,rfl,trivial⟩,vl_some]
        by_cases hc:xs.getD ((i+j) / 2) 0 < x
        · rw [if_pos (by simpa using hc),gd_pos ⟨⟨by omega,by omega⟩,trivial⟩]
          have hpm:(i+j) / 2 < p:=by
            apply Nat.lt_of_not_le
            intro hle
            have:=h2 _ hle hmid; omega
          have:=ih ((i+j) / 2+1) j (by omega) hj hjn (by omega)
          simpa using this
        · rw [if_neg (by simpa using hc)]
          have hpm:p≤(i+j) / 2:=by
            apply Nat.le_of_not_lt
            intro hle
            have:=h1 _ hle; omega
          exact ih i ((i+j) / 2) hi hpm (by omega) (by omega)
      · have e:i=p:=by omega
        subst e
        rw [if_neg (by simpa using hij),u183J0]
        have e3:((i:Int)).toNat=i:=rfl
        have e4:decide ((i:Int) < (xs.length:Int))=true:=by simpa using hp
        have e5:∀ a,u209 a=some (a != a):=fun _=>rfl
        rw [e3,e4,e5,e5,gd_pos ⟨fun _=>⟨by omega,by omega⟩,fun _=>⟨by omega,by omega⟩,fun _=>rfl,fun _=>rfl,trivial⟩,vl_some,vl_some]
        simp
  unfold u183
  have:=key big 0 xs.length (by omega) (by omega) (Nat.le_refl _) (by simp only [big]; omega)
  exact this
def clampI (xs:List Int) (x:Int):Int:=min (max x (xs.getD 0 0)) (xs.getD (xs.length - 1) 0)
theorem r153 {xs:List Int} (x:Int) (h:isAxis xs=true):∃ (p:Nat) (a b:Int),p < xs.length∧u134 xs x=some ((p:Int),a,b) ∧
    ((a=1∧b=0∧u153 xs x=some ([((p:Int),1)],1)) ∨
      (p+1 < xs.length∧0 < a∧0 < b∧a+b≤100000∧u153 xs x=some ([((p:Int),a),((p:Int)+1,b)],a+b))):=by
  obtain ⟨l1,l4⟩:=axis_len h
  have e1:((xs.length:Int) - 1).toNat=xs.length - 1:=by omega
  have c0:xs.getD 0 0≤clampI xs x:=by
    have:xs.getD 0 0≤xs.getD (xs.length - 1) 0:=by
      by_cases hl:xs.length=1
      · rw [hl]; exact Int.le_refl _
      · have:=axis_lt h (by omega:0 < xs.length - 1) (by omega); omega
    unfold clampI; omega
  have c1:clampI xs x≤xs.getD (xs.length - 1) 0:=by unfold clampI; omega
  obtain ⟨p,hp,h1,h2⟩:=axis_at h c0 c1
  have down:∀ (q:Nat) (r:Option (Int×Int×Int)),(∀ g,u134L1 xs (clampI xs x) g (q:Int)=r)→(∀ i,q < i→i < xs.length→clampI xs x < xs.getD i 0)→q < xs.length→lp (u134L1 xs (clampI xs x)) ((xs.length:Int) - 1)=r:=by
    intro q r hq hgt hlt
    have key:∀ (m k:Nat),q+k < xs.length→k < m→itF (u134L1 xs (clampI xs x)) m ((q+k:Nat):Int)=r:=by
      intro m
      induction m with
      | zero=>intro k _ h; omega
      | succ m ih =>
        intro k hk hm
        show u134L1 xs (clampI xs x) (itF (u134L1 xs (clampI xs x)) m) ((q+k:Nat):Int)=r
        by_cases h0:k=0
        · subst h0; exact hq _
        · have hg:=hgt (q+k) (by omega) hk
          have e3:(((q+k:Nat):Int)).toNat=q+k:=rfl
          have n1:¬ (clampI xs x=xs.getD (q+k) 0):=by omega
          have n2:¬ (xs.getD (q+k) 0 < clampI xs x):=by omega
          rw [u134L1,if_pos (by simp; omega),gd_pos ⟨⟨by omega,by omega⟩,trivial⟩,e3,if_neg (by simpa using n1),gd_pos ⟨⟨by omega,by omega⟩,trivial⟩,if_neg (by simpa using n2),gd_pos ⟨⟨by omega,by omega⟩,trivial⟩]
          have e4:(((q+k:Nat):Int)) - 1=((q+(k - 1):Nat):Int):=by omega
          rw [e4]
          exact ih (k - 1) (by omega) (by omega)
    have:=key big (xs.length - 1 - q) (by omega) (by simp only [big]; omega)
    have e5:((q+(xs.length - 1 - q):Nat):Int)=(xs.length:Int) - 1:=by omega
    rw [e5] at this
    exact this
  have e3:∀ n:Nat,((n:Int)).toNat=n:=fun _=>rfl
  by_cases hf:xs.getD p 0=clampI xs x
  · refine ⟨p,1,0,hp,?_,.inl ⟨rfl,rfl,?_⟩⟩
    · unfold u134
      rw [gd_pos ⟨⟨by omega,by omega⟩,trivial⟩,gd_pos ⟨⟨by omega,by omega⟩,⟨by omega,by omega⟩,trivial⟩,e1]
      change lt (clampI xs x) _=_
      rw [lt_eq,gd_pos ⟨⟨by omega,by omega⟩,trivial⟩]
      refine down p _ (fun g=>?_) (fun i hi hl=>?_) hp
      · rw [u134L1,if_pos (by simp),gd_pos ⟨⟨by omega,by omega⟩,trivial⟩,e3,if_pos (by simpa using hf.symm)]
      · have:=axis_lt h hi hl; omega
    · unfold u153
      rw [gd_pos ⟨⟨by omega,by omega⟩,⟨by omega,by omega⟩,⟨by omega,by omega⟩,trivial⟩,e1]
      change lt (clampI xs x) _=_
      rw [lt_eq,r183 (by omega) hp h1 h2,gd_pos ⟨rfl,trivial⟩,vl_some,lt_eq,if_pos (by simpa using hf)]
  · have hgt:clampI xs x < xs.getD p 0:=by have:=h2 p (Nat.le_refl _) hp; omega
    have hp0:0 < p:=by
      apply Nat.pos_of_ne_zero
      intro h0; subst h0; omega
    obtain ⟨q,rfl⟩:∃ q,p=q+1:=⟨p - 1,by omega⟩
    have hlt:=h1 q (by omega)
    have b1:=axis_in h hp
    have b2:=axis_in h (by omega:q < xs.length)
    refine ⟨q,xs.getD (q+1) 0 - clampI xs x,clampI xs x - xs.getD q 0,by omega,?_,.inr ⟨hp,by omega,by omega,by omega,?_⟩⟩
    · unfold u134
      rw [gd_pos ⟨⟨by omega,by omega⟩,trivial⟩,gd_pos ⟨⟨by omega,by omega⟩,⟨by omega,by omega⟩,trivial⟩,e1]
      change lt (clampI xs x) _=_
      rw [lt_eq,gd_pos ⟨⟨by omega,by omega⟩,trivial⟩]
      refine down q _ (fun g=>?_) (fun i hi hl=>?_) (by omega)
      · have e6:((q:Int)+1).toNat=q+1:=by omega
        have n1:¬ (clampI xs x=xs.getD q 0):=by omega
        rw [u134L1,if_pos (by simp),gd_pos ⟨⟨by omega,by omega⟩,trivial⟩,e3,if_neg (by simpa using n1),gd_pos ⟨⟨by omega,by omega⟩,trivial⟩,if_pos (by simpa using hlt),e6,gd_pos ⟨⟨by omega,by omega⟩,⟨by omega,by omega⟩,⟨by omega,by omega⟩,⟨by omega,by omega⟩,⟨by omega,by omega⟩,trivial⟩]
      · by_cases hq:i=q+1
        · subst hq; exact hgt
        · have:=axis_lt h (by omega:q+1 < i) hl; omega
    · have e6:(((q+1:Nat):Int) - 1).toNat=q:=by omega
      have e7:((q+1:Nat):Int) - 1=(q:Int):=by omega
      unfold u153
      rw [gd_pos ⟨⟨by omega,by omega⟩,⟨by omega,by omega⟩,⟨by omega,by omega⟩,trivial⟩,e1]
      change lt (clampI xs x) _=_
      rw [lt_eq,r183 (by omega) hp h1 h2,gd_pos ⟨rfl,trivial⟩,vl_some,lt_eq,if_neg (by simpa using hf),e6,e3,gd_pos ⟨⟨by omega,by omega⟩,⟨by omega,by omega⟩,⟨by omega,by omega⟩,⟨by omega,by omega⟩,⟨by omega,by omega⟩,⟨by omega,by omega⟩,⟨by omega,by omega⟩,⟨by omega,by omega⟩,⟨by omega,by omega⟩,⟨by omega,by omega⟩,trivial⟩,lt_eq,e7]
      congr 2
      omega
end Go.Proofs.YticmgmebjmblgaaGreatDoor
end
section
/- What a table says at a place: the program's function and the reference's agree. -/
namespace Go.Proofs.YticmgmebjmblgaaGreatDoor
open Go Go.Proofs Go.Proofs.Xv Go.Proofs.Xl Go.Proofs.Xd
def celV (t:Y106) (r q:Nat):Int:=t.2.2.getD (r*t.2.1.length+q) 0
def rowX (t:Y106) (r q:Nat) (w c d:Int):Int:=celV t r q*w*c+celV t r (q+1)*w*d
theorem cel_bd {t:Y106} (ht:isTable t=true) {r q:Nat} (hr:r < t.1.length) (hq:q < t.2.1.length) {w c:Int} (w0:0≤w) (w1:w≤100000) (c0:0≤c) (c1:c≤100000) :
    (-100000000000≤celV t r q*w∧celV t r q*w≤100000000000) ∧ -10000000000000000≤celV t r q*w*c∧celV t r q*w*c≤10000000000000000:=by
  obtain ⟨_,_,_,_,hl,_,_⟩:=table_len ht
  have h:=table_in ht (i:=r*t.2.1.length+q) (by have:=row_ix hr hq; omega)
  have h1:=mul_bd (A:=1000000) h.1 h.2 w0 w1 (by decide)
  have h2:=mul_bd (A:=100000000000) (B:=100000) (x:=celV t r q*w) (by unfold celV; omega) (by unfold celV; omega) c0 c1 (by decide)
  unfold celV at *
  omega
def Sh (n q:Nat) (c d:Int) (M:List (Int×Int)):Prop:=(c=1∧d=0∧M=[((q:Int),1)])∨(q+1 < n∧0 < c∧0 < d∧c+d≤100000∧M=[((q:Int),c),((q:Int)+1,d)])
theorem rowX_bd {t:Y106} (ht:isTable t=true) {r q:Nat} (hr:r < t.1.length) (hq:q < t.2.1.length) {w c d:Int} {M:List (Int×Int)} (hM:Sh t.2.1.length q c d M) (w0:0≤w) (w1:w≤100000) : -20000000000000000≤rowX t r q w c d∧rowX t r q w c d≤20000000000000000:=by
  unfold rowX
  rcases hM with ⟨rfl,rfl,_⟩ | ⟨hq1,c0,d0,hcd,_⟩
  · have h1:=(cel_bd ht hr hq w0 w1 (c:=1) (by decide) (by decide)).2
    rw [Int.mul_zero]; omega
  · have h1:=(cel_bd ht hr hq w0 w1 (c:=c) (by omega) (by omega)).2
    have h2:=(cel_bd ht hr hq1 w0 w1 (c:=d) (by omega) (by omega)).2
    omega
theorem look3 {t:Y106} (ht:isTable t=true) {r q:Nat} (hr:r < t.1.length) (hq:q < t.2.1.length) {w c:Int} (w0:0≤w) (w1:w≤100000) (c0:0≤c) (c1:c≤100000) {R:Int} (hR:R=(r:Int)) {v1:List Y219×Int} {v11:Int} {g1 g3:Int×Int→Option Int} {s:Int} (s0 : -100000000000000000≤s) (s1:s≤100000000000000000) {i:Nat} (hi:i < v1.1.length) (hn:v1.1.length≤2)
    {Q:Int} (hQ:Q=(q:Int)) (he:v1.1.getD i (dflt y219)=(Q,c)):u101L3 t (R,w) v1 v11 g1 g3 (s,(i:Int))=g3 (s+celV t r q*w*c,(i:Int)+1):=by
  subst hR; subst hQ
  obtain ⟨_,a4,_,b4,hl,_,h16⟩:=table_len ht
  have hix:=row_ix hr hq
  have hb:=cel_bd ht hr hq w0 w1 c0 c1
  have e3:((i:Int)).toNat=i:=rfl
  have em:(r:Int)*(t.2.1.length:Int)=((r*t.2.1.length:Nat):Int):=by simp
  have ek:(((r*t.2.1.length:Nat):Int)+(q:Int)).toNat=r*t.2.1.length+q:=by omega
  rw [u101L3,if_pos (by simpa using hi),e3,gd_pos ⟨⟨by omega,by omega⟩,hi,trivial⟩,lt_eq,he]
  unfold celV at hb ⊢
  show gd (in64 ((r:Int)*(t.2.1.length:Int))∧in64 ((r:Int)*(t.2.1.length:Int)+(q:Int))∧ix ((r:Int)*(t.2.1.length:Int)+(q:Int)) t.2.2.length∧in64 (t.2.2.getD ((r:Int)*(t.2.1.length:Int)+(q:Int)).toNat 0*w)∧in64 (t.2.2.getD ((r:Int)*(t.2.1.length:Int)+(q:Int)).toNat 0*w*c)∧in64 (s+t.2.2.getD ((r:Int)*(t.2.1.length:Int)+(q:Int)).toNat 0*w*c)∧True) (lt (s+t.2.2.getD ((r:Int)*(t.2.1.length:Int)+(q:Int)).toNat 0*w*c) fun v18=>gd _ (g3 (v18,(i:Int)+1)))=_
  rw [em,ek,gd_pos ⟨⟨by omega,by omega⟩,⟨by omega,by omega⟩,⟨by omega,by omega⟩,⟨by omega,by omega⟩,⟨by omega,by omega⟩,⟨by omega,by omega⟩,trivial⟩,lt_eq,gd_pos ⟨⟨by omega,by omega⟩,trivial⟩]
theorem lookE {t:Y106} {v12:Y219} {v1:List Y219×Int} {v11:Nat} (hv:v11≤2) {g1 g3:Int×Int→Option Int} {s:Int}:u101L3 t v12 v1 (v11:Int) g1 g3 (s,(v1.1.length:Int))=g1 (s,(v11:Int)+1):=by
  rw [u101L3,if_neg (by simp),u101J2,gd_pos ⟨⟨by omega,by omega⟩,trivial⟩]
theorem itF_s {σ ρ:Type} {F:(σ→Option ρ)→σ→Option ρ} {n:Nat} {s:σ}:itF F (n+1) s=F (itF F n) s:=rfl
theorem nat01:((0:Nat):Int)+1=((1:Nat):Int):=rfl
theorem nat12:((1:Nat):Int)+1=((2:Nat):Int):=rfl
theorem lookR {t:Y106} (ht:isTable t=true) {r q:Nat} (hr:r < t.1.length) (hq:q < t.2.1.length) {w c d:Int} {M:List (Int×Int)} (hM:Sh t.2.1.length q c d M) (w0:0≤w) (w1:w≤100000) {R T:Int} (hR:R=(r:Int)) {v11:Nat} (hv:v11≤2) {g1:Int×Int→Option Int} {s:Int} (s0 : -50000000000000000≤s) (s1:s≤50000000000000000) :
    lp (u101L3 t (R,w) (M,T) (v11:Int) g1) (s,0)=g1 (s+rowX t r q w c d,(v11:Int)+1):=by
  unfold rowX
  rcases hM with ⟨rfl,rfl,rfl⟩ | ⟨hq1,c0,d0,hcd,rfl⟩
  · refine lp_of 2 (by decide) fun n=>?_
    rw [itF_s]
    refine (look3 (v1:=([((q:Int),1)],T)) (i:=0) (s:=s) (c:=1) ht hr hq w0 w1 (by decide) (by decide) hR (by omega) (by omega) (Nat.le_refl 1) (Nat.le_succ 1) rfl rfl).trans ?_
    rw [Int.mul_zero,Int.add_zero,itF_s,nat01]
    exact lookE (v1:=([((q:Int),1)],T)) hv
  · have hb:=(cel_bd ht hr hq w0 w1 (c:=c) (by omega) (by omega)).2
    refine lp_of 3 (by decide) fun n=>?_
    rw [itF_s]
    refine (look3 (v1:=([((q:Int),c),((q:Int)+1,d)],T)) (i:=0) (s:=s) (c:=c) ht hr hq w0 w1 (by omega) (by omega) hR (by omega) (by omega) (Nat.le_succ 1) (Nat.le_refl 2) rfl rfl).trans ?_
    rw [itF_s,nat01]
    refine (look3 (v1:=([((q:Int),c),((q:Int)+1,d)],T)) (i:=1) (s:=s+celV t r q*w*c) (c:=d) (q:=q+1) ht hr hq1 w0 w1 (by omega) (by omega) hR (by omega) (by omega) (Nat.le_refl 2) (Nat.le_refl 2) (Int.natCast_succ q).symm rfl).trans ?_
    rw [← Int.add_assoc,itF_s,nat12]
    exact lookE (v1:=([((q:Int),c),((q:Int)+1,d)],T)) hv
theorem slook6 {t:Y106} (ht:isTable t=true) {p u r q k:Nat} (hpu:r=p+u) (hr:r < t.1.length) (hq:q < t.2.1.length) {w c W:Int} (w0:0≤w) (w1:w≤100000) (c0:0≤c) (c1:c≤100000) (hW:W=w*c) {v0 v1:Int×Int×Int} (h0:v0.1=(p:Int)) {q0:Nat} (h1:v1.1=(q0:Int)) (hk:q=q0+k) (hk2:k≤1) (hu:u≤1) {g3:Int×Int→Option Int} {s:Int} (s0 : -100000000000000000≤s) (s1:s≤100000000000000000) :
    u79J6 (k:Int) s t v0 (u:Int) v1 g3 W=g3 (s+celV t r q*w*c,(k:Int)+1):=by
  obtain ⟨_,a4,_,b4,hl,_,h16⟩:=table_len ht
  have hix:=row_ix hr hq
  have hb:=cel_bd ht hr hq w0 w1 c0 c1
  subst hpu; subst hk
  have em:((p:Int)+(u:Int))*(t.2.1.length:Int)=(((p+u)*t.2.1.length:Nat):Int):=by simp
  have ek:((((p+u)*t.2.1.length:Nat):Int)+(q0:Int)+(k:Int)).toNat=(p+u)*t.2.1.length+(q0+k):=by omega
  have hW2:W*celV t (p+u) (q0+k)=celV t (p+u) (q0+k)*w*c:=by rw [hW,Int.mul_comm,← Int.mul_assoc]
  rw [u79J6]
  by_cases hp:0 < W
  · unfold celV at hb hW2 ⊢
    rw [if_pos (by simpa using hp),h0,h1,em,ek,hW2,gd_pos ⟨⟨by omega,by omega⟩,⟨by omega,by omega⟩,⟨by omega,by omega⟩,⟨by omega,by omega⟩,⟨by omega,by omega⟩,⟨by omega,by omega⟩,⟨by omega,by omega⟩,trivial⟩,lt_eq,u79J4,gd_pos ⟨⟨by omega,by omega⟩,trivial⟩]
  · have hW0:W=0:=by
      have:0≤w*c:=Int.mul_nonneg w0 c0
      omega
    have e0:celV t (p+u) (q0+k)*w*c=0:=by rw [← hW2,hW0,Int.zero_mul]
    rw [if_neg (by simpa using hp),u79J4,gd_pos ⟨⟨by omega,by omega⟩,trivial⟩,e0,Int.add_zero]
theorem slook6z {t:Y106} {u k:Nat} {v0 v1:Int×Int×Int} (hk2:k≤1) {g3:Int×Int→Option Int} {s W:Int} (hW:W=0):u79J6 (k:Int) s t v0 (u:Int) v1 g3 W=g3 (s,(k:Int)+1):=by
  subst hW
  rw [u79J6,if_neg (by simp),u79J4,gd_pos ⟨⟨by omega,by omega⟩,trivial⟩]
theorem in_mul {w c:Int} (w0:0≤w) (w1:w≤100000) (c0:0≤c) (c1:c≤100000):in64 (w*c)∧True:=by
  have:=mul_bd (A:=100000) (B:=100000) (x:=w) (y:=c) (by omega) w1 c0 c1 (by decide)
  exact ⟨⟨by omega,by omega⟩,trivial⟩
theorem slook3 {t:Y106} {u k:Nat} (hk:k≤1) {v0 v1:Int×Int×Int} {g1 g3:Int×Int→Option Int} {s w e:Int} (hw:(if (u:Int)=1 then v0.2.2 else v0.2.1)=w) (he:(if k=0 then v1.2.1 else v1.2.2)=e) (w0:0≤w) (w1:w≤100000) (e0:0≤e) (e1:e≤100000) :
    u79L3 t v0 (u:Int) v1 g1 g3 (s,(k:Int))=u79J6 (k:Int) s t v0 (u:Int) v1 g3 (w*e):=by
  have key:∀ W,W=w→u79J5 (k:Int) s t v0 (u:Int) v1 g3 W=u79J6 (k:Int) s t v0 (u:Int) v1 g3 (w*e):=by
    intro W hW
    subst hW
    rw [u79J5]
    by_cases h0:k=0
    · subst h0
      have he':v1.2.1=e:=he
      rw [if_pos (by rfl),he',gd_pos (in_mul w0 w1 e0 e1)]
    · rw [if_neg h0] at he
      rw [if_neg (by simpa using h0),he,gd_pos (in_mul w0 w1 e0 e1)]
  rw [u79L3,if_pos (by simp; omega)]
  by_cases hu:(u:Int)=1
  · rw [if_pos hu] at hw
    rw [if_pos (by simpa using hu)]
    exact key _ hw
  · rw [if_neg hu] at hw
    rw [if_neg (by simpa using hu)]
    exact key _ hw
theorem slookE {t:Y106} {u:Nat} (hu:u≤1) {v0 v1:Int×Int×Int} {g1 g3:Int×Int→Option Int} {s:Int}:u79L3 t v0 (u:Int) v1 g1 g3 (s,((2:Nat):Int))=g1 (s,(u:Int)+1):=by
  rw [u79L3,if_neg (by simp),u79J2,gd_pos ⟨⟨by omega,by omega⟩,trivial⟩]
theorem slookR {t:Y106} (ht:isTable t=true) {p u r q:Nat} (hpu:r=p+u) (hu:u≤1) (hr:r < t.1.length) (hq:q < t.2.1.length) {a b w c d:Int} {M:List (Int×Int)} (hM:Sh t.2.1.length q c d M) (hw:(if (u:Int)=1 then b else a)=w) (w0:0≤w) (w1:w≤100000) {g1:Int×Int→Option Int} {s:Int} (s0 : -50000000000000000≤s) (s1:s≤50000000000000000) :
    lp (u79L3 t ((p:Int),a,b) (u:Int) ((q:Int),c,d) g1) (s,0)=g1 (s+rowX t r q w c d,(u:Int)+1):=by
  have hcd:0≤c∧c≤100000∧0≤d∧d≤100000:=by
    rcases hM with ⟨rfl,rfl,_⟩ | ⟨_,_,_,_,_⟩ <;> omega
  obtain ⟨c0,c1,d0,d1⟩:=hcd
  have hb:=(cel_bd ht hr hq w0 w1 c0 c1).2
  refine lp_of 3 (by decide) fun n=>?_
  rw [itF_s]
  refine (slook3 (k:=0) (e:=c) (by decide) hw rfl w0 w1 c0 c1).trans ?_
  refine (slook6 ht hpu hr hq w0 w1 c0 c1 rfl rfl (q0:=q) rfl (k:=0) rfl (by decide) hu (by omega) (by omega)).trans ?_
  rw [itF_s,nat01]
  refine (slook3 (k:=1) (e:=d) (by decide) hw rfl w0 w1 d0 d1).trans ?_
  unfold rowX
  rcases hM with ⟨rfl,rfl,_⟩ | ⟨hq1,_,_,_,_⟩
  · refine (slook6z (by decide) (Int.mul_zero w)).trans ?_
    rw [itF_s,nat12,slookE hu,Int.mul_zero,Int.add_zero]
  · refine (slook6 ht hpu hr hq1 w0 w1 d0 d1 rfl rfl (q0:=q) rfl (k:=1) rfl (by decide) hu (by omega) (by omega)).trans ?_
    rw [itF_s,nat12,slookE hu,Int.add_assoc]
theorem slookZ {t:Y106} {p u q:Nat} (hu:u≤1) {a b c d:Int} (hw:(if (u:Int)=1 then b else a)=0) (c0:0≤c) (c1:c≤100000) (d0:0≤d) (d1:d≤100000) {g1:Int×Int→Option Int} {s:Int} :
    lp (u79L3 t ((p:Int),a,b) (u:Int) ((q:Int),c,d) g1) (s,0)=g1 (s,(u:Int)+1):=by
  refine lp_of 3 (by decide) fun n=>?_
  rw [itF_s]
  refine (slook3 (k:=0) (e:=c) (by decide) hw rfl (by decide) (by decide) c0 c1).trans ?_
  refine (slook6z (by decide) (Int.zero_mul _)).trans ?_
  rw [itF_s,nat01]
  refine (slook3 (k:=1) (e:=d) (by decide) hw rfl (by decide) (by decide) d0 d1).trans ?_
  refine (slook6z (by decide) (Int.zero_mul _)).trans ?_
  rw [itF_s,nat12,slookE hu]
theorem shape {xs:List Int} (x:Int) (h:isAxis xs=true):∃ (p:Nat) (a b:Int) (L:List (Int×Int)),p < xs.length∧Sh xs.length p a b L∧u134 xs x=some ((p:Int),a,b)∧u153 xs x=some (L,a+b):=by
  obtain ⟨p,a,b,hp,h1,h2⟩:=r153 x h
  rcases h2 with ⟨rfl,rfl,h3⟩ | ⟨h3,h4,h5,h6,h7⟩
  · exact ⟨p,1,0,_,hp,.inl ⟨rfl,rfl,rfl⟩,h1,h3⟩
  · exact ⟨p,a,b,_,hp,.inr ⟨h3,h4,h5,h6,rfl⟩,h1,h7⟩
theorem look1 {t:Y106} (ht:isTable t=true) {p q:Nat} (hp:p < t.1.length) (hq:q < t.2.1.length) {a b c d:Int} {L M:List (Int×Int)} (hL:Sh t.1.length p a b L) (hM:Sh t.2.1.length q c d M) (T U m:Int) :
    lp (u101L1 t (M,U) (L,T) m) (0,0)=u101J0 (L,T) (M,U) m (rowX t p q a c d+(if b=0 then 0 else rowX t (p+1) q b c d)):=by
  have e3:∀ n:Nat,((n:Int)).toNat=n:=fun _=>rfl
  rcases hL with ⟨rfl,rfl,rfl⟩ | ⟨hp1,a0,b0,hab,rfl⟩
  · refine lp_of 2 (by decide) fun n=>?_
    rw [itF_s,u101L1,if_pos (by simp),gd_pos ⟨⟨by decide,by simp⟩,by simp,trivial⟩,lt_eq]
    refine (lookR (v11:=0) ht hp hq hM (w:=1) (by decide) (by decide) rfl (by decide) (by decide) (by decide)).trans ?_
    rw [itF_s,nat01,u101L1,if_neg (by simp),if_pos rfl,Int.zero_add,Int.add_zero]
  · have hb:=rowX_bd ht hp hq hM (w:=a) (by omega) (by omega)
    refine lp_of 3 (by decide) fun n=>?_
    rw [itF_s,u101L1,if_pos (by simp),gd_pos ⟨⟨by decide,by simp⟩,by simp,trivial⟩,lt_eq]
    refine (lookR (v11:=0) ht hp hq hM (w:=a) (by omega) (by omega) rfl (by decide) (by decide) (by decide)).trans ?_
    rw [itF_s,nat01,u101L1,if_pos (by simp),gd_pos ⟨⟨by decide,by simp⟩,by simp,trivial⟩,lt_eq]
    refine (lookR (v11:=1) ht hp1 hq hM (w:=b) (by omega) (by omega) (Int.natCast_succ p).symm (by decide) (by omega) (by omega)).trans ?_
    rw [itF_s,nat12,u101L1,if_neg (by simp),if_neg (by omega),Int.zero_add]
theorem slook1 {t:Y106} (ht:isTable t=true) {p q:Nat} (hp:p < t.1.length) (hq:q < t.2.1.length) {a b c d:Int} {L M:List (Int×Int)} (hL:Sh t.1.length p a b L) (hM:Sh t.2.1.length q c d M) (m:Int) :
    lp (u79L1 t ((p:Int),a,b) ((q:Int),c,d) m) (0,0)=u79J0 ((p:Int),a,b) ((q:Int),c,d) m (rowX t p q a c d+(if b=0 then 0 else rowX t (p+1) q b c d)):=by
  have hab:0≤a∧a≤100000∧0≤b∧b≤100000∧(b≠0→p+1 < t.1.length):=by
    rcases hL with ⟨rfl,rfl,_⟩ | ⟨_,_,_,_,_⟩ <;> omega
  obtain ⟨a0,a1,b0,b1,hp1⟩:=hab
  have hcd:0≤c∧c≤100000∧0≤d∧d≤100000:=by
    rcases hM with ⟨rfl,rfl,_⟩ | ⟨_,_,_,_,_⟩ <;> omega
  obtain ⟨c0,c1,d0,d1⟩:=hcd
  have hb:=rowX_bd ht hp hq hM a0 a1
  refine lp_of 3 (by decide) fun n=>?_
  rw [itF_s,u79L1,if_pos (by simp)]
  refine (slookR (u:=0) (p:=p) (r:=p) (w:=a) ht rfl (by decide) hp hq hM rfl a0 a1 (by decide) (by decide)).trans ?_
  rw [itF_s,nat01,u79L1,if_pos (by simp)]
  by_cases hz:b=0
  · subst hz
    refine (slookZ (u:=1) (by decide) rfl c0 c1 d0 d1).trans ?_
    rw [itF_s,nat12,u79L1,if_neg (by simp),if_pos rfl,Int.zero_add,Int.add_zero]
  · refine (slookR (u:=1) (p:=p) (r:=p+1) (w:=b) ht rfl (by decide) (hp1 hz) hq hM rfl b0 b1 (by omega) (by omega)).trans ?_
    rw [itF_s,nat12,u79L1,if_neg (by simp),if_neg hz,Int.zero_add]
end Go.Proofs.YticmgmebjmblgaaGreatDoor
end

/- The links of a block: both ways are the same, and what they are. -/
import Derived.Test.YtgmpfbpemmohnaaGreatDoorWE
import Derived.Test.YtgmpfbpemmohnaaGreatDoorFn16c
section
/- The links of a block: both ways are the same, and what they are. -/
namespace Go.Proofs.YtgmpfbpemmohnaaGreatDoor
open Go Go.Proofs Go.Proofs.Sv Go.Proofs.Xv Go.Proofs.Xl Go.Proofs.Xd
theorem arc_facts {c:Y134} (h:cellOk isArcS c=true) {j:Nat} (hj:j < c.2.2.2.1.length):isArcS c.2.2.1.length (pinOf c) (arcOf c j)=true:=by
  have h:cellB isArcS _ _ _ _ _ _ _ _ _=true:=h
  unfold cellB arcsB at h
  simp only [Bool.and_eq_true,decide_eq_true_eq] at h
  have:=not_any.1 h.1.1.1.2.2 j hj
  rw [Bool.or_eq_false_iff,Bool.not_eq_false'] at this
  exact this.1
theorem arc_comb {n:Nat} {p:Nat→DPin} {a:DArc} (h:isArcS n p a=true) (hk:a.1≤3):((a.1=1∧(a.2.2.2.1=1∨a.2.2.2.1=2∨a.2.2.2.1=3))∨a.1=2∨a.1=3)∧areTables a.2.2.2.2.1 true=true∧areTables a.2.2.2.2.2 true=true:=by
  unfold isArcS at h
  simp only [Bool.and_eq_true] at h
  obtain ⟨_,h⟩:=h
  by_cases h1:a.1=1
  · rw [if_pos h1] at h
    simp only [Bool.and_eq_true] at h
    have:=inB_iff.1 h.1.1.2
    exact ⟨.inl ⟨h1,by omega⟩,h.1.2,h.2⟩
  rw [if_neg h1] at h
  by_cases h2:a.1=2∨a.1=3
  · rw [if_pos h2] at h
    simp only [Bool.and_eq_true] at h
    exact ⟨.inr h2,h.1.2,h.2⟩
  rw [if_neg h2] at h
  by_cases h3:a.1=4∨a.1=5
  · omega
  · rw [if_neg h3] at h; cases h
theorem trans_none {k s:Int} (h:3 < k):transV k s=[]:=by
  unfold transV
  rw [if_neg (by rw [beq_iff_eq]; omega),if_neg (by rw [beq_iff_eq]; omega),if_pos (by rw [bne_iff_ne]; omega)]
def cellF (b:Y46) (i:Nat) (s:List DLink):List DLink:=s++cellLinksD (offs (insOf b.2.1) i) (arcOf (celI b i)) (celI b i).2.2.2.1.length
theorem cellF_fold (b:Y46):∀ n,foldN (cellF b) n []=(foldN (instLV b) n (0,[])).2
  | 0=>rfl
  | n+1=>by
    show cellF b n (foldN (cellF b) n [])=(foldN (instLV b) n (0,[])).2++cellLinksD (foldN (instLV b) n (0,[])).1 (arcOf (celI b n)) (celI b n).2.2.2.1.length
    have h1:(foldN (instLV b) n (0,[])).1=(offs (insOf b.2.1) n:Int):=instLF_fst (fun _=>rfl) n
    rw [cellF_fold b n,h1]; rfl
theorem sink_place {b:Y46} (df:DF b.1 b.2.1) {t:Int} {k:Nat} (hk:k < (sinksV b.2.1 t).length):0≤(sinksV b.2.1 t).getD k 0∧(sinksV b.2.1 t).getD k 0≤1000:=by
  have:=sinksV_at hk
  have:=df.len
  omega
theorem r49 (b:Y46) (hw:wf y46 b) (hb:blockOk b=true):u49 b=some (linksV b):=by
  obtain ⟨hd0,hlen,hwire⟩:=block_design hb
  have df:=df_of hd0
  have hd:=hw.2.1
  have h14:=df.fac.ni14
  have h30:=df.fac.nn30
  have hpl:=df.len
  unfold u49
  refine (lp_fold (n:=b.2.1.1.length) (by omega) (fun (i:Nat) (s:List DLink)=>((i:Int),s)) (cellF b) (fun i s=>s.length≤32*i) (J:=u49J0 b) (F:=u49L1 b) (fun g i s hi hI=>?_) (fun i s hi hI=>?_) (fun g s _=>all_end) [] (Nat.le_refl _)).trans ?_
  · have hI:s.length≤32*i:=hI
    have e3:((i:Int)).toNat=i:=rfl
    obtain ⟨x1,x2,x3⟩:=inst_cell' df hi
    obtain ⟨c1,c2,c3,c4⟩:=cell_arcs x2
    have hfind:=fun k hk=>r92 b.2.1 hd df (i:=i) (k:=k) hi hk
    refine (if_pos (by simpa using hi)).trans ?_
    rw [e3,gd_pos ⟨⟨by omega,by omega⟩,x1,trivial⟩,lt_eq]
    refine (lp_fold (n:=(celI b i).2.2.2.1.length) (by omega) (fun (j:Nat) (z:List DLink)=>((j:Int),z)) (carcF (offs (insOf b.2.1) i) (arcOf (celI b i))) (fun j z=>z.length≤s.length+4*j) (J:=u49J2 (i:Int) g) (F:=u49L3 (celI b i) b (i:Int) g) (fun g' j z hj hz=>?_) (fun j z hj hz=>?_) (fun g' z _=>all_end) s (Nat.le_refl _)).trans ?_
    · have hz:z.length≤s.length+4*j:=hz
      have e4:((j:Int)).toNat=j:=rfl
      obtain ⟨a1,a2,a3,a4⟩:=c4 j hj
      have ha:=arc_facts x2 hj
      have j4:∀ v,u49J4 (j:Int) g' v=g' (((j+1:Nat):Int),v):=fun v=>gd_pos ⟨⟨by omega,by omega⟩,trivial⟩
      refine (if_pos (by simpa using hj)).trans ?_
      rw [e4,gd_pos ⟨⟨by omega,by omega⟩,trivial⟩]
      show (if decide ((arcOf (celI b i) j).1≤3)=true then _ else _)=g' (((j+1:Nat):Int),carcF (offs (insOf b.2.1) i) (arcOf (celI b i)) j z)
      by_cases hk:(arcOf (celI b i) j).1≤3
      · refine (if_pos (decide_eq_true hk)).trans ?_
        obtain ⟨k1,k2,k3⟩:=arc_comb ha hk
        obtain ⟨A,hA⟩:∃ A:Nat,(arcOf (celI b i) j).2.1=(A:Int):=⟨(arcOf (celI b i) j).2.1.toNat,by omega⟩
        obtain ⟨B,hB⟩:∃ B:Nat,(arcOf (celI b i) j).2.2.1=(B:Int):=⟨(arcOf (celI b i) j).2.2.1.toNat,by omega⟩
        obtain ⟨fA,lA⟩:=hfind A (by omega)
        obtain ⟨fB,lB⟩:=hfind B (by omega)
        have hs:=r91 (arcOf (celI b i) j) z ((offs (insOf b.2.1) i+A:Nat):Int) ((offs (insOf b.2.1) i+B:Nat):Int) (j:Int) (by omega) (by omega) (by omega)
        have ee:=arc_eq k1 (offs (insOf b.2.1) i:Int) (A:Int) (B:Int) (j:Int) z
        rw [← Int.natCast_add,← Int.natCast_add] at ee
        rw [ee] at hs
        show gd (ix (j:Int) (celI b i).2.2.2.1.length∧ix (j:Int) (celI b i).2.2.2.1.length∧(u92 b.2.1 (i:Int) (arcOf (celI b i) j).2.1).isSome=true∧ix (j:Int) (celI b i).2.2.2.1.length∧(u92 b.2.1 (i:Int) (arcOf (celI b i) j).2.2.1).isSome=true∧(u91 z (arcOf (celI b i) j) (vl (u92 b.2.1 (i:Int) (arcOf (celI b i) j).2.1)) (vl (u92 b.2.1 (i:Int) (arcOf (celI b i) j).2.2.1)) (j:Int)).isSome=true∧True) (lt (vl (u91 z (arcOf (celI b i) j) (vl (u92 b.2.1 (i:Int) (arcOf (celI b i) j).2.1)) (vl (u92 b.2.1 (i:Int) (arcOf (celI b i) j).2.2.1)) (j:Int))) fun v=>u49J4 (j:Int) g' v)=_
        rw [hA,hB,fA,fB,vl_some,vl_some,hs,vl_some,gd_pos ⟨⟨by omega,by omega⟩,⟨by omega,by omega⟩,rfl,⟨by omega,by omega⟩,rfl,rfl,trivial⟩,lt_eq,j4]
        unfold carcF
        rw [hA,hB]
      · refine (if_neg (by simpa using hk)).trans ?_
        rw [j4]
        unfold carcF
        rw [trans_none (by omega)]
        rfl
    · have hz:z.length≤s.length+4*j:=hz
      have:=carcF_len (offs (insOf b.2.1) i) (arcOf (celI b i)) j z
      omega
    · rw [carcF_app]
      exact gd_pos ⟨⟨by omega,by omega⟩,trivial⟩
  · have hI:s.length≤32*i:=hI
    obtain ⟨x1,x2,x3⟩:=inst_cell' df hi
    have c3:=(cell_arcs x2).2.2.1
    have:=cellLinksD_len (offs (insOf b.2.1) i) (arcOf (celI b i)) (celI b i).2.2.2.1.length
    unfold cellF
    rw [List.length_append]
    omega
  · have hcl:(foldN (cellF b) b.2.1.1.length []).length≤500:=by
      have:=instLV_in df b.2.1.1.length (Nat.le_refl _)
      rw [cellF_fold]
      omega
    have hcv:foldN (cellF b) b.2.1.1.length []=clinksV b:=cellF_fold b _
    unfold linksV
    rw [hcv] at hcl ⊢
    generalize clinksV b=z at hcl ⊢
    unfold u49J0
    rw [hlen]
    refine lp_fold (n:=b.2.1.2.1.length) (by omega) (fun (i:Nat) (s:List DLink)=>((i:Int),s)) (netLF (drvV b) (fun i=>sinksV b.2.1 i)) (fun i s=>s.length≤500+160*i) (J:=fun s=>some s) (F:=u49L6 b) (fun g i s hi hI=>?_) (fun i s hi hI=>?_) (fun g s _=>all_end) z hcl
    · have hI:s.length≤500+160*i:=hI
      have hi':i < b.2.2.length:=by omega
      have hs78:=(net_ok hb hi').s78
      obtain ⟨d1,d2,d3⟩:=r93 b hw hb hi'
      have es:u90 b.2.1 (i:Int)=some (sinksV b.2.1 i):=r90 b.2.1 hd df _
      refine (if_pos (by simpa using hi)).trans ?_
      rw [d1,vl_some,gd_pos ⟨rfl,trivial⟩,lt_eq,es,vl_some,gd_pos ⟨rfl,trivial⟩,lt_eq]
      refine (lp_fold (n:=(sinksV b.2.1 i).length) (by omega) (fun (k:Nat) (y:List DLink)=>((k:Int),y)) (wsinkF (drvV b i) (sinksV b.2.1 i)) (fun k y=>y.length=s.length+2*k) (J:=u49J7 (i:Int) g) (F:=u49L8 (drvV b i) (sinksV b.2.1 i) (i:Int) g) (fun g8 k y hk hy=>?_) (fun k y hk hy=>?_) (fun g8 y _=>all_end) s rfl).trans ?_
      · have hy:y.length=s.length+2*k:=hy
        have e4:((k:Int)).toNat=k:=rfl
        have hsp:=sink_place df hk
        have p1:=r94 y (drvV b i) ((sinksV b.2.1 i).getD k 0) 0 0 2 (k:Int) (by omega) hsp ⟨by omega,by omega⟩ ⟨by omega,by omega⟩ (by omega)
        have p2:=r94 (y++[(2*drvV b i+0,2*(sinksV b.2.1 i).getD k 0+0,2,(k:Int))]) (drvV b i) ((sinksV b.2.1 i).getD k 0) 1 1 2 (k:Int) (by omega) hsp ⟨by omega,by omega⟩ ⟨by omega,by omega⟩ (by rw [List.length_append]; show y.length+1≤_; omega)
        refine (if_pos (by simpa using hk)).trans ?_
        rw [e4,p1,vl_some,gd_pos ⟨⟨by omega,by omega⟩,hk,rfl,trivial⟩,lt_eq,p2,vl_some,gd_pos ⟨⟨by omega,by omega⟩,hk,rfl,trivial⟩,lt_eq]
        exact gd_pos ⟨⟨by omega,by omega⟩,trivial⟩
      · have hy:y.length=s.length+2*k:=hy
        rw [wsinkF_len,hy]; omega
      · exact gd_pos ⟨⟨by omega,by omega⟩,trivial⟩
    · have hI:s.length≤500+160*i:=hI
      have hs78:=(net_ok hb (show i < b.2.2.length by omega)).s78
      unfold netLF
      rw [wsink_len]
      show s.length+2*(sinksV b.2.1 i).length≤_
      omega
theorem links_len {b:Y46} (hb:blockOk b=true):(linksV b).length≤6000:=by
  have df:=df_of (block_design hb).1
  have h14:=df.fac.ni14
  have h1:=instLV_in df b.2.1.1.length (Nat.le_refl _)
  have h2:=netL_len (drvV b) (fun i=>sinksV b.2.1 i) (clinksV b) (n:=b.2.2.length) (c:=78) (fun i hi=>(net_ok hb hi).s78) b.2.2.length (Nat.le_refl _)
  have h3:=(block_design hb).2.1
  have h30:=df.fac.nn30
  have h4:(clinksV b).length=(foldN (instLV b) b.2.1.1.length (0,[])).2.length:=rfl
  unfold linksV
  omega
theorem link_is {b:Y46} {l:DLink} (h:l∈linksV b):(∃ i j t,i < b.2.1.1.length∧j < (celI b i).2.2.2.1.length∧t < (transV (arcOf (celI b i) j).1 (arcOf (celI b i) j).2.2.2.1).length∧l=cLink (offs (insOf b.2.1) i:Int) (arcOf (celI b i) j) j t) ∨
    ∃ i k t,i < b.2.2.length∧k < (sinksV b.2.1 i).length∧t < 2∧l=wLink (drvV b i) ((sinksV b.2.1 i).getD k 0) k t:=by
  rcases netLF_mem _ h with h | h
  · exact .inl (instLF_mem (fun _=>rfl) _ h)
  · exact .inr h
end Go.Proofs.YtgmpfbpemmohnaaGreatDoor
end
section
/- Whole roots by halving; roots of a number and of its fourfold. Plain facts. -/
namespace Go.Proofs.Xd
open Go Go.Proofs Go.Proofs.Xl
end Go.Proofs.Xd
end
section
/- Slews and delays of links: the program's way and the reference's way. -/
namespace Go.Proofs.YtgmpfbpemmohnaaGreatDoor
open Go Go.Proofs Go.Proofs.Sv Go.Proofs.Xv Go.Proofs.Xl Go.Proofs.Xd
structure LinkC (b:Y46) (l:DLink) (a:DArc) (n:Nat):Prop where
  kind:l.2.2.1=1
  pix:ix (l.2.1.tdiv 2) (plcs b.2.1).length
  plt:(l.2.1.tdiv 2).toNat < (plcs b.2.1).length
  iix:ix (plcOf b.2.1 (l.2.1.tdiv 2).toNat).1 b.2.1.1.length
  cix:ix (insOf b.2.1 (plcOf b.2.1 (l.2.1.tdiv 2).toNat).1.toNat).2.1 b.1.length
  aix:ix l.2.2.2 (b.1.getD (insOf b.2.1 (plcOf b.2.1 (l.2.1.tdiv 2).toNat).1.toNat).2.1.toNat (dflt y134)).2.2.2.1.length
  arc:(b.1.getD (insOf b.2.1 (plcOf b.2.1 (l.2.1.tdiv 2).toNat).1.toNat).2.1.toNat (dflt y134)).2.2.2.1.getD l.2.2.2.toNat (dflt y139)=a
  net:(plcOf b.2.1 (l.2.1.tdiv 2).toNat).2.2.1=(n:Int)
  nlt:n < b.2.2.length
  trs:l.2.1.tmod 2=0∨l.2.1.tmod 2=1
  del:areTables a.2.2.2.2.1 true=true
  slw:areTables a.2.2.2.2.2 true=true
structure LinkW (b:Y46) (l:DLink) (n k:Nat):Prop where
  kind:l.2.2.1=2
  pix:ix (l.2.1.tdiv 2) (plcs b.2.1).length
  plt:(l.2.1.tdiv 2).toNat < (plcs b.2.1).length
  net:(plcOf b.2.1 (l.2.1.tdiv 2).toNat).2.2.1=(n:Int)
  nlt:n < b.2.2.length
  idx:l.2.2.2=(k:Int)
  klt:k < (sinksV b.2.1 n).length
end Go.Proofs.YtgmpfbpemmohnaaGreatDoor
end
section
/- Ordering nodes by counts of open links and by waiting: plain facts. -/
namespace Go.Proofs.Xd
open Go.Proofs.Xl
theorem find_ext {α:Type} {l:List α} {p q:α→Bool} (h:∀ a∈l,p a=q a):l.find? p=l.find? q:=by
  induction l with
  | nil=>rfl
  | cons a r ih =>
    rw [List.find?_cons,List.find?_cons,h a (by simp),ih (fun b hb=>h b (by simp [hb]))]
theorem countP_split {α:Type} (l:List α) (p q r:α→Bool) (h:∀ a∈l,(p a).toNat=(q a).toNat+(r a).toNat):l.countP p=l.countP q+l.countP r:=by
  induction l with
  | nil=>rfl
  | cons a t ih =>
    have h1:=h a (by simp)
    have h2:=ih (fun b hb=>h b (by simp [hb]))
    rw [List.countP_cons,List.countP_cons,List.countP_cons]
    cases hp:p a <;> cases hq:q a <;> cases hr:r a <;> simp [hp,hq,hr] at h1 ⊢ <;> omega
theorem countP_ext {α:Type} (l:List α) (p q:α→Bool) (h:∀ a∈l,p a=q a):l.countP p=l.countP q:=by
  induction l with
  | nil=>rfl
  | cons a t ih =>
    rw [List.countP_cons,List.countP_cons,h a (by simp),ih (fun b hb=>h b (by simp [hb]))]
section
variable (M N:Nat) (fr to:Nat→Nat) (lv:Nat→Bool)
def cntO (out:List Nat) (v:Nat):Nat:=(List.range M).countP fun i=>lv i&&to i==v&&!out.contains (fr i)
def decO (o:List Int) (i:Nat):List Int:=o.set (to i) (o.getD (to i) 0 - 1)
def incO (o:List Int) (i:Nat):List Int:=o.set (to i) (o.getD (to i) 0+1)
def open0:List Int:=((List.range M).filter lv).foldl (incO to) (List.replicate N 0)
def stepO (o:List Int) (v:Nat):List Int:=((List.range M).filter fun i=>lv i&&fr i==v).foldl (decO to) (o.set v (-1))
def openV (out:List Nat):List Int:=out.foldl (stepO M fr to lv) (open0 M N to lv)
def nextV (out:List Nat):Option Nat:=(List.range N).find? fun v=>!out.contains v&&cntO M fr to lv out v==0
def ordGo:Nat→List Nat→Option (List Nat)
  | 0,out=>some out
  | k+1,out=>match nextV M N fr to lv out with
    | none=>none
    | some v=>ordGo k (out++[v])
theorem openV_app (out:List Nat) (v:Nat):openV M N fr to lv (out++[v])=stepO M fr to lv (openV M N fr to lv out) v:=by
  unfold openV
  rw [List.foldl_append]
  rfl
theorem set_get {o:List Int} {i v:Nat} (x:Int) (hi:i < o.length):(o.set i x).getD v 0=if v=i then x else o.getD v 0:=by
  rw [List.getD_eq_getElem?_getD,List.getD_eq_getElem?_getD,List.getElem?_set]
  by_cases h:i=v
  · subst h; simp [hi]
  · rw [if_neg h,if_neg (Ne.symm h)]
theorem dec_get (is:List Nat) (o:List Int) (h:∀ i∈is,to i < o.length) (v:Nat):(is.foldl (decO to) o).length=o.length∧(is.foldl (decO to) o).getD v 0=o.getD v 0 - (is.countP fun i=>to i==v):=by
  induction is generalizing o with
  | nil=>simp
  | cons i r ih =>
    have hi:=h i (by simp)
    have hl:(decO to o i).length=o.length:=by simp [decO]
    obtain ⟨h1,h2⟩:=ih (decO to o i) (fun j hj=>by rw [hl]; exact h j (by simp [hj]))
    refine ⟨h1.trans hl,?_⟩
    rw [List.foldl_cons,h2,List.countP_cons]
    unfold decO
    rw [set_get _ hi]
    by_cases hv:v=to i
    · subst hv; simp; omega
    · have:¬ to i=v:=fun e=>hv e.symm
      simp [hv,this]
theorem inc_get (is:List Nat) (o:List Int) (h:∀ i∈is,to i < o.length) (v:Nat):(is.foldl (incO to) o).length=o.length∧(is.foldl (incO to) o).getD v 0=o.getD v 0+(is.countP fun i=>to i==v):=by
  induction is generalizing o with
  | nil=>simp
  | cons i r ih =>
    have hi:=h i (by simp)
    have hl:(incO to o i).length=o.length:=by simp [incO]
    obtain ⟨h1,h2⟩:=ih (incO to o i) (fun j hj=>by rw [hl]; exact h j (by simp [hj]))
    refine ⟨h1.trans hl,?_⟩
    rw [List.foldl_cons,h2,List.countP_cons]
    unfold incO
    rw [set_get _ hi]
    by_cases hv:v=to i
    · subst hv; simp; omega
    · have:¬ to i=v:=fun e=>hv e.symm
      simp [hv,this]
variable {M N fr to lv}
theorem countP_rng (p:Nat→Bool):(List.range M).countP p≤M:=by
  have:=List.countP_le_length (p:=p) (l:=List.range M)
  rwa [List.length_range] at this
theorem open0_get (ht:∀ i,i < M→to i < N) (v:Nat):(open0 M N to lv).length=N∧(open0 M N to lv).getD v 0=cntO M fr to lv [] v:=by
  have hh:∀ i∈(List.range M).filter lv,to i < (List.replicate N (0:Int)).length:=fun i hi=>by
    rw [List.mem_filter,List.mem_range] at hi
    rw [List.length_replicate]
    exact ht i hi.1
  obtain ⟨h1,h2⟩:=inc_get to ((List.range M).filter lv) (List.replicate N 0) hh v
  refine ⟨by rw [open0,h1,List.length_replicate],?_⟩
  rw [open0,h2,List.countP_filter]
  have e0:(List.replicate N (0:Int)).getD v 0=0:=by
    rw [List.getD_eq_getElem?_getD,List.getElem?_replicate]
    split <;> rfl
  rw [e0,Int.zero_add]
  congr 1
  refine countP_ext _ _ _ (fun i _=>?_)
  rw [List.contains_nil,Bool.not_false,Bool.and_true,Bool.and_comm]
structure OInv (M N:Nat) (fr to:Nat→Nat) (lv:Nat→Bool) (out:List Nat) (o:List Int):Prop where
  len:o.length=N
  un:∀ v,v < N→v ∉ out→o.getD v 0=cntO M fr to lv out v
  li:∀ v,v < N→v∈out→o.getD v 0 < 0
  lo:∀ v,v < N → -(1+(out.length:Int)*M)≤o.getD v 0
  hi:∀ v,v < N→o.getD v 0≤M
theorem cnt_step {out:List Nat} {v:Nat} (hv:v ∉ out) (w:Nat):cntO M fr to lv out w=((List.range M).countP fun i=>to i==w&&(lv i&&fr i==v))+cntO M fr to lv (out++[v]) w:=by
  unfold cntO
  refine countP_split _ _ _ _ (fun i _=>?_)
  have hc:(out++[v]).contains (fr i)=(out.contains (fr i)||fr i==v):=by
    rw [List.contains_eq_any_beq,List.contains_eq_any_beq,List.any_append]
    simp
  rw [hc]
  by_cases hf:fr i=v
  · subst hf
    have:out.contains (fr i)=false:=by
      rw [← Bool.not_eq_true,List.contains_iff_mem]; exact hv
    rw [this]
    cases lv i <;> cases (to i==w) <;> simp
  · have:(fr i==v)=false:=by simp [hf]
    rw [this]
    cases lv i <;> cases (to i==w) <;> cases out.contains (fr i) <;> rfl
theorem oinv_0 (ht:∀ i,i < M→to i < N):OInv M N fr to lv [] (open0 M N to lv):=by
  have h:=fun v=>open0_get (fr:=fr) (lv:=lv) ht v
  refine ⟨(h 0).1,fun v _ _=>(h v).2,fun v _ hm=>(nomatch hm),fun v _=>?_,fun v _=>?_⟩
  · rw [(h v).2]
    have:(0:Int)≤(cntO M fr to lv [] v:Int):=Int.natCast_nonneg _
    simp only [List.length_nil]
    omega
  · rw [(h v).2]
    have:cntO M fr to lv [] v≤M:=countP_rng _
    omega
theorem oinv_step (ht:∀ i,i < M→to i < N) {out:List Nat} {o:List Int} (h:OInv M N fr to lv out o) {v:Nat} (hv:v < N) (hn:v ∉ out):OInv M N fr to lv (out++[v]) (stepO M fr to lv o v):=by
  have hl:(o.set v (-1)).length=N:=by rw [List.length_set,h.len]
  have key:=fun w=>dec_get to ((List.range M).filter fun i=>lv i&&fr i==v) (o.set v (-1)) (fun i hi=>by
    rw [List.mem_filter,List.mem_range] at hi
    rw [hl]
    exact ht i hi.1) w
  have kw:∀ w,(stepO M fr to lv o v).getD w 0=(if w=v then -1 else o.getD w 0) - ((List.range M).countP fun i=>to i==w&&(lv i&&fr i==v)):=fun w=>by
    unfold stepO
    rw [(key w).2,set_get _ (by rw [h.len]; exact hv),List.countP_filter]
  have hc:∀ w,(((List.range M).countP fun i=>to i==w&&(lv i&&fr i==v):Nat):Int)≤M:=fun w=>by
    have:=countP_rng (M:=M) (fun i=>to i==w&&(lv i&&fr i==v))
    omega
  have hlen:((out++[v]).length:Int)*M=(out.length:Int)*M+M:=by
    rw [List.length_append,List.length_singleton,Int.natCast_add,Int.add_mul]
    simp
  have hM:(0:Int)≤(out.length:Int)*M:=Int.mul_nonneg (Int.natCast_nonneg _) (Int.natCast_nonneg _)
  refine ⟨(key 0).1.trans hl,fun w hw hm=>?_,fun w hw hm=>?_,fun w hw=>?_,fun w hw=>?_⟩
  · rw [kw,if_neg (fun e=>hm (by simp [e])),h.un w hw (fun e=>hm (by simp [e])),cnt_step hn w]
    omega
  · rw [kw]
    by_cases e:w=v
    · rw [if_pos e]; omega
    · rw [if_neg e]
      have:=h.li w hw (by
        rcases List.mem_append.1 hm with hm | hm
        · exact hm
        · exact (e (List.mem_singleton.1 hm)).elim)
      omega
  · rw [kw,hlen]
    have h1:=hc w
    have h2:=h.lo w hw
    split <;> omega
  · rw [kw]
    have h1:=hc w
    have h2:=h.hi w hw
    split <;> omega
theorem oinv_next {out:List Nat} {o:List Int} (h:OInv M N fr to lv out o):(List.range o.length).find? (fun v=>(0:Int)==o.getD v 0)=nextV M N fr to lv out:=by
  unfold nextV
  rw [h.len]
  refine find_ext (fun v hv=>?_)
  have hv:=List.mem_range.1 hv
  by_cases hm:v∈out
  · have h1:=h.li v hv hm
    have h2:out.contains v=true:=List.contains_iff_mem.2 hm
    have h3:((0:Int)==o.getD v 0)=false:=beq_eq_false_iff_ne.2 (by omega)
    rw [h2,h3]; rfl
  · have h1:=h.un v hv hm
    have h2:out.contains v=false:=by rw [← Bool.not_eq_true,List.contains_iff_mem]; exact hm
    rw [h1,h2,Bool.not_false,Bool.true_and,Bool.eq_iff_iff]
    simp only [beq_iff_eq]
    omega
theorem next_ok {out:List Nat} {v:Nat} (h:nextV M N fr to lv out=some v):v < N∧v ∉ out:=by
  unfold nextV at h
  have h1:=List.mem_of_find?_eq_some h
  have h2:=List.find?_some h
  rw [Bool.and_eq_true,Bool.not_eq_true',← Bool.not_eq_true,List.contains_iff_mem] at h2
  exact ⟨List.mem_range.1 h1,h2.1⟩
/-! ### By waiting -/
def listV (N:Nat) (out:List Nat):List Bool:=out.foldl (fun l v=>l.set v true) (List.replicate N false)
theorem setB_get {o:List Bool} {i v:Nat} (x:Bool) (hi:i < o.length):(o.set i x).getD v false=if v=i then x else o.getD v false:=by
  rw [List.getD_eq_getElem?_getD,List.getD_eq_getElem?_getD,List.getElem?_set]
  by_cases h:i=v
  · subst h; simp [hi]
  · rw [if_neg h,if_neg (Ne.symm h)]
theorem listV_app (out:List Nat) (v:Nat):listV N (out++[v])=(listV N out).set v true:=by
  unfold listV
  rw [List.foldl_append]
  rfl
theorem setsB_get (out:List Nat) (o:List Bool) (h:∀ v∈out,v < o.length) (w:Nat):(out.foldl (fun l v=>l.set v true) o).length=o.length∧(out.foldl (fun l v=>l.set v true) o).getD w false=(out.contains w||o.getD w false):=by
  induction out generalizing o with
  | nil=>simp
  | cons v r ih =>
    obtain ⟨h1,h2⟩:=ih (o.set v true) (fun x hx=>by rw [List.length_set]; exact h x (by simp [hx]))
    rw [List.length_set] at h1
    refine ⟨h1,?_⟩
    rw [List.foldl_cons,h2,setB_get _ (h v (by simp)),List.contains_cons]
    by_cases e:w=v
    · subst e; simp
    · have:(w==v)=false:=by simp [e]
      rw [if_neg e,this,Bool.false_or]
theorem listV_get {out:List Nat} (h:∀ v∈out,v < N) (w:Nat):(listV N out).length=N∧(listV N out).getD w false=out.contains w:=by
  obtain ⟨h1,h2⟩:=setsB_get out (List.replicate N false) (fun v hv=>by rw [List.length_replicate]; exact h v hv) w
  refine ⟨h1.trans List.length_replicate,?_⟩
  have e0:(List.replicate N false).getD w false=false:=by
    rw [List.getD_eq_getElem?_getD,List.getElem?_replicate]
    split <;> rfl
  have:(listV N out).getD w false=(out.contains w||(List.replicate N false).getD w false):=h2
  rw [this,e0,Bool.or_false]
def waitS (fr to:Nat→Nat) (lv:Nat→Bool) (out:List Nat) (k:Nat) (w:List Bool):List Bool:=if (lv k&&!out.contains (fr k))=true then w.set (to k) true else w
theorem wait_get (ht:∀ i,i < M→to i < N) (out:List Nat) (v:Nat):∀ m,m≤M→(foldN (waitS fr to lv out) m (List.replicate N false)).length=N∧(foldN (waitS fr to lv out) m (List.replicate N false)).getD v false=(List.range m).any fun i=>lv i&&to i==v&&!out.contains (fr i):=by
  intro m
  induction m with
  | zero =>
    intro _
    refine ⟨List.length_replicate,?_⟩
    show (List.replicate N false).getD v false=false
    rw [List.getD_eq_getElem?_getD,List.getElem?_replicate]
    split <;> rfl
  | succ m ih =>
    intro hm
    obtain ⟨h1,h2⟩:=ih (by omega)
    rw [List.range_succ,List.any_append,← h2]
    show (waitS fr to lv out m (foldN (waitS fr to lv out) m (List.replicate N false))).length=N∧(waitS fr to lv out m (foldN (waitS fr to lv out) m (List.replicate N false))).getD v false=_
    generalize foldN (waitS fr to lv out) m (List.replicate N false)=w at h1 h2
    unfold waitS
    by_cases hc:(lv m&&!out.contains (fr m))=true
    · rw [if_pos hc]
      refine ⟨by rw [List.length_set,h1],?_⟩
      rw [setB_get _ (by rw [h1]; exact ht m (by omega))]
      rw [Bool.and_eq_true,Bool.not_eq_true'] at hc
      simp only [List.any_cons,List.any_nil,Bool.or_false,hc.1,hc.2,Bool.true_and,Bool.not_false,Bool.and_true]
      by_cases e:v=to m
      · subst e; simp
      · have:(to m==v)=false:=by simp [Ne.symm e]
        rw [if_neg e,this,Bool.or_false]
    · rw [if_neg hc]
      refine ⟨h1,?_⟩
      have:(lv m&&to m==v&&!out.contains (fr m))=false:=by
        rw [Bool.eq_false_iff]
        intro h
        apply hc
        simp only [Bool.and_eq_true] at h ⊢
        exact ⟨h.1.1,h.2⟩
      simp only [List.any_cons,List.any_nil,Bool.or_false,this]
theorem wait_next (ht:∀ i,i < M→to i < N) {out:List Nat} (ho:∀ v∈out,v < N):(List.range N).find? (fun v=>!((listV N out).getD v false||(foldN (waitS fr to lv out) M (List.replicate N false)).getD v false))=nextV M N fr to lv out:=by
  unfold nextV
  refine find_ext (fun v _=>?_)
  rw [(listV_get ho v).2,(wait_get ht out v M (Nat.le_refl _)).2,Bool.not_or]
  congr 1
  rw [Bool.eq_iff_iff,Bool.not_eq_true',beq_iff_eq]
  unfold cntO
  rw [List.countP_eq_zero,← Bool.not_eq_true,List.any_eq_true]
  constructor
  · intro h a ha hp
    exact h ⟨a,ha,hp⟩
  · rintro h ⟨a,ha,hp⟩
    exact h a ha hp
end
end Go.Proofs.Xd
end
section
/- Graphs with broken links: the program's way and the other one say the same. -/
namespace Go.Proofs.YtgmpfbpemmohnaaGreatDoor
open Go Go.Proofs Go.Proofs.Sv Go.Proofs.Xv Go.Proofs.Xl Go.Proofs.Xd
theorem drvN_lt (pl:Nat→DPlace) (t:Int):∀ m,0 < m→drvN pl t m < m
  | 1,_=>by
    have e:drvN pl t 1=if ((pl 0).2.2.1==t&&(pl 0).2.2.2)=true then ((0:Nat):Int) else 0:=rfl
    rw [e]
    split <;> simp
  | m+2,_=>by
    have e:drvN pl t (m+2)=if ((pl (m+1)).2.2.1==t&&(pl (m+1)).2.2.2)=true then ((m+1:Nat):Int) else drvN pl t (m+1):=rfl
    have:=drvN_lt pl t (m+1) (by omega)
    rw [e]
    split <;> omega
theorem link_nodes {b:Y46} (hb:blockOk b=true) {l:DLink} (h:l∈linksV b):0≤l.1∧l.1 < 2*((plcs b.2.1).length:Int)∧0≤l.2.1∧l.2.1 < 2*((plcs b.2.1).length:Int):=by
  obtain ⟨hd,hlen,_⟩:=block_design hb
  have df:=df_of hd
  rcases link_is h with ⟨i,j,t,hi,hj,ht,rfl⟩ | ⟨i,k,t,hi,hk,ht,rfl⟩
  · obtain ⟨x1,x2,x3⟩:=inst_cell' df hi
    obtain ⟨c1,c2,c3,c4⟩:=cell_arcs x2
    obtain ⟨a1,a2,a3,a4⟩:=c4 j hj
    obtain ⟨A,hA⟩:∃ A:Nat,(arcOf (celI b i) j).2.1=(A:Int):=⟨(arcOf (celI b i) j).2.1.toNat,by omega⟩
    obtain ⟨B,hB⟩:∃ B:Nat,(arcOf (celI b i) j).2.2.1=(B:Int):=⟨(arcOf (celI b i) j).2.2.1.toNat,by omega⟩
    have hAn:A < (insOf b.2.1 i).2.2.length:=by omega
    have hBn:B < (insOf b.2.1 i).2.2.length:=by omega
    have lA:offs (insOf b.2.1) i+A < (plcs b.2.1).length:=by
      have:=offs_lt (insOf b.2.1) hi hAn
      unfold plcs
      rw [places_len]; omega
    have lB:offs (insOf b.2.1) i+B < (plcs b.2.1).length:=by
      have:=offs_lt (insOf b.2.1) hi hBn
      unfold plcs
      rw [places_len]; omega
    have tr:=(transV_ok _ _).2 _ (getD_mem (d:=(0,0)) ht)
    have e1:(cLink (offs (insOf b.2.1) i:Int) (arcOf (celI b i) j) j t).1=2*((offs (insOf b.2.1) i:Int)+(A:Int))+((transV (arcOf (celI b i) j).1 (arcOf (celI b i) j).2.2.2.1).getD t (0,0)).1:=by
      rw [← hA]; rfl
    have e2:(cLink (offs (insOf b.2.1) i:Int) (arcOf (celI b i) j) j t).2.1=2*((offs (insOf b.2.1) i:Int)+(B:Int))+((transV (arcOf (celI b i) j).1 (arcOf (celI b i) j).2.2.2.1).getD t (0,0)).2:=by
      rw [← hB]; rfl
    rw [e1,e2]
    omega
  · obtain ⟨q,h1,h2,h3,_⟩:=sinkL_in (plcOf b.2.1) i (plcs b.2.1).length _ (getD_mem (d:=0) hk)
    have h1:(sinksV b.2.1 i).getD k 0=(q:Int):=h1
    have d1:=(drvN_in (plcOf b.2.1) i (plcs b.2.1).length).1
    have d2:=drvN_lt (plcOf b.2.1) i (plcs b.2.1).length (by omega)
    have e1:(wLink (drvV b i) ((sinksV b.2.1 i).getD k 0) k t).1=2*drvN (plcOf b.2.1) i (plcs b.2.1).length+(t:Int):=rfl
    have e2:(wLink (drvV b i) ((sinksV b.2.1 i).getD k 0) k t).2.1=2*(q:Int)+(t:Int):=by
      rw [← h1]; rfl
    rw [e1,e2]
    omega
section
variable (b:Y46)
def nodN:Nat:=2*(plcs b.2.1).length
def frN (i:Nat):Nat:=((linksV b).getD i (dflt y91)).1.toNat
def toN (i:Nat):Nat:=((linksV b).getD i (dflt y91)).2.1.toNat
theorem frto (hb:blockOk b=true) {i:Nat} (hi:i < (linksV b).length):((linksV b).getD i (dflt y91)).1=(frN b i:Int)∧((linksV b).getD i (dflt y91)).2.1=(toN b i:Int)∧frN b i < nodN b∧toN b i < nodN b:=by
  obtain ⟨h1,h2,h3,h4⟩:=link_nodes hb (getD_mem (d:=dflt y91) hi)
  unfold frN toN nodN
  omega
theorem nod_le (hb:blockOk b=true):nodN b≤1000000:=by
  have hl:=(df_of (block_design hb).1).len
  unfold nodN
  omega
theorem r109 (hb:blockOk b=true):u109 (viewV b)=some (nodN b:Int):=by
  have hl:=(df_of (block_design hb).1).len
  have e:∀ s:List Y146,u144 s=some (s.length:Int):=fun _=>rfl
  unfold u109
  rw [e,vl_some,gd_pos ⟨rfl,⟨by show _≤2*((plcs b.2.1).length:Int); omega,by show 2*((plcs b.2.1).length:Int)≤_; omega⟩,trivial⟩,lt_eq]
  unfold nodN
  rw [Int.natCast_mul]
  rfl
theorem r60 (hw:wf y46 b) (hb:blockOk b=true):u60 b=some (nodN b:Int):=by
  have df:=df_of (block_design hb).1
  have hl:=df.len
  unfold u60
  rw [r106 b.2.1 hw.2.1 df.fac.ni14 df.fac.np8 df.pin,vl_some,gd_pos ⟨rfl,⟨by show _≤2*((plcs b.2.1).length:Int); omega,by show 2*((plcs b.2.1).length:Int)≤_; omega⟩,trivial⟩,lt_eq]
  unfold nodN
  rw [Int.natCast_mul]
  rfl
end
/-! ### Broken links -/
def hasB (l:List Int) (x:Int):Bool:=(List.range l.length).any fun j=>l.getD j 0==x
theorem r54 (l:List Int) (x:Int) (hl:l.length≤9223372036854775807):u54 l x=some (hasB l x):=by
  have key:=lp_all hl (fun j=>l.getD j 0==x) (some true) (e:=some false) (F:=u54L1 l x) (fun g i hi=>by
    have e3:((i:Int)).toNat=i:=rfl
    refine (if_pos (decide_eq_true (by omega))).trans ((gd_pos ⟨⟨by omega,by omega⟩,trivial⟩).trans ?_)
    rw [e3]
    by_cases h:(l.getD i 0==x)=true
    · rw [if_pos h,if_pos h]
    · rw [if_neg h,if_neg h]
      exact gd_pos ⟨⟨by omega,by omega⟩,trivial⟩) (fun g=>if_neg (by simp))
  refine key.trans ?_
  unfold hasB
  cases (List.range l.length).any fun j=>l.getD j 0==x <;> rfl
def liveV (M:Nat) (br:List Int):List Bool:=foldN (appF fun k=>!hasB br (k:Int)) M []
theorem r61 (ls:List Y91) (br:List Int) (h1:ls.length≤1048576) (h2:br.length≤1048576):u61 ls br=some (liveV ls.length br):=by
  refine (lp_fold (n:=ls.length) (by omega) (fun i (s:List Bool)=>((i:Int),s)) (appF fun k=>!hasB br (k:Int)) (fun i s=>s.length=i) (J:=fun s=>some s) (F:=u61L1 br ls) (fun g i s hi hs=>?_) (fun i s _ hs=>by show (s++[_]).length=_; simp [hs]) (fun g s _=>if_neg (by simp)) [] rfl).trans rfl
  have e3:((i:Int)).toNat=i:=rfl
  refine (if_pos (decide_eq_true (by omega))).trans ?_
  rw [r54 br _ (by omega),vl_some]
  refine (gd_pos ⟨rfl,⟨by simp only [List.length_singleton]; omega,by simp only [List.length_singleton]; omega⟩,trivial⟩).trans ?_
  exact gd_pos ⟨⟨by omega,by omega⟩,trivial⟩
def brokB (M:Nat) (br:List Int):Bool:=br.all (inB · 0 ((M:Int) - 1))&&incB br
theorem inc_nil:u143 []=some true:=by
  unfold u143
  refine lp_zero (fun n hn=>?_)
  obtain ⟨m,rfl⟩:∃ m,n=m+1:=⟨n - 1,by omega⟩
  rfl
theorem r1430 (xs:List Int) (h:xs.length≤9223372036854775807):u143 xs=some (incB xs):=by
  cases xs with
  | nil=>exact inc_nil
  | cons x r=>exact r143 _ h (by simp)
theorem r107 {b:Y46} (hb:blockOk b=true) (br:List Int) (h:br.length≤1048576):u107 (viewV b) br=some (brokB (linksV b).length br):=by
  have hl:=links_len hb
  have e:u142 (viewV b).2.2.1=some ((linksV b).length:Int):=rfl
  unfold u107
  rw [e,vl_some,r137 br 0 _ (by omega),vl_some,r1430 br (by omega),vl_some,gd_pos ⟨rfl,⟨by omega,by omega⟩,rfl,(fun _=>rfl),trivial⟩]
  rfl
theorem r105 (M:Nat) (br:List Int) (hM:M≤1048576) (h:br.length≤1048576):u105 br (M:Int)=some (brokB M br):=by
  have key:=lp_all (n:=br.length) (by omega) (fun i=>!inB (br.getD i 0) 0 ((M:Int) - 1)||(decide (0 < i)&&decide (br.getD i 0≤br.getD (i - 1) 0))) (some false) (e:=some true) (F:=u105L1 br (M:Int)) (fun g i hi=>by
    have e3:((i:Int)).toNat=i:=rfl
    have e4:((i:Int) - 1).toNat=i - 1:=by omega
    refine (if_pos (decide_eq_true (by omega))).trans ?_
    rw [r69,vl_some,e3,e4]
    refine (gd_pos ⟨⟨by omega,by omega⟩,⟨by omega,by omega⟩,rfl,(fun hc=>⟨by omega,by omega⟩),(fun hc=>⟨by have:=of_decide_eq_true hc.1; omega,by omega⟩),(fun _=>⟨by omega,by omega⟩),trivial⟩).trans ?_
    have ed:decide ((0:Int) < (i:Int))=decide (0 < i):=by
      rw [decide_eq_decide]; omega
    rw [ed]
    by_cases hc:(!inB (br.getD i 0) 0 ((M:Int) - 1)||(decide (0 < i)&&decide (br.getD i 0≤br.getD (i - 1) 0)))=true
    · rw [if_pos hc,if_pos hc]
    · rw [if_neg hc,if_neg hc]
      exact gd_pos ⟨⟨by omega,by omega⟩,trivial⟩) (fun g=>if_neg (by simp))
  refine key.trans ?_
  have e:brokB M br=!((List.range br.length).any fun i=>!inB (br.getD i 0) 0 ((M:Int) - 1)||(decide (0 < i)&&decide (br.getD i 0≤br.getD (i - 1) 0))):=by
    unfold brokB incB
    rw [Bool.eq_iff_iff]
    simp only [Bool.and_eq_true,Bool.not_eq_true',← Bool.not_eq_true,List.any_eq_true,List.all_eq_true,List.mem_range,Bool.or_eq_true]
    constructor
    · rintro ⟨h1,h2⟩ ⟨i,hi,hc⟩
      rcases hc with hc | hc
      · exact hc (h1 _ (getD_mem hi))
      · exact h2 ⟨i,hi,hc⟩
    · intro hn
      refine ⟨fun x hx=>?_,fun ⟨i,hi,hc⟩=>hn ⟨i,hi,.inr hc⟩⟩
      obtain ⟨i,hi,rfl⟩:=List.getElem_of_mem hx
      by_cases hc:inB br[i] 0 ((M:Int) - 1)=true
      · exact hc
      · refine (hn ⟨i,hi,.inl ?_⟩).elim
        rw [List.getD_eq_getElem?_getD,List.getElem?_eq_getElem hi]
        exact hc
  rw [e]
  cases (List.range br.length).any fun i=>!inB (br.getD i 0) 0 ((M:Int) - 1)||(decide (0 < i)&&decide (br.getD i 0≤br.getD (i - 1) 0)) <;> rfl
end Go.Proofs.YtgmpfbpemmohnaaGreatDoor
end
section
/- The order of the nodes of a graph: both ways say the same. -/
namespace Go.Proofs.YtgmpfbpemmohnaaGreatDoor
open Go Go.Proofs Go.Proofs.Sv Go.Proofs.Xv Go.Proofs.Xl Go.Proofs.Xd
/-! ### Plain -/
theorem foldN_foldl {σ:Type} (g:σ→Nat→σ) (l:List Nat) (s:σ):foldN (fun i s=>g s (l.getD i 0)) l.length s=l.foldl g s:=by
  have key:∀ n,n≤l.length→foldN (fun i s=>g s (l.getD i 0)) n s=(l.take n).foldl g s:=by
    intro n
    induction n with
    | zero=>intro _; rfl
    | succ n ih =>
      intro hn
      have e:l.take (n+1)=l.take n++[l.getD n 0]:=by
        rw [List.take_add_one,List.getD_eq_getElem?_getD,List.getElem?_eq_getElem (by omega)]
        rfl
      rw [e,List.foldl_append,← ih (by omega)]
      rfl
  have:=key l.length (Nat.le_refl _)
  rwa [List.take_length] at this
theorem tr_fold (M:Nat):∀ m,m≤M→(foldN (fun i (s:List Bool)=>s.set i true) m (List.replicate M false)).length=M∧∀ k,k < m→(foldN (fun i (s:List Bool)=>s.set i true) m (List.replicate M false)).getD k false=true:=by
  intro m
  induction m with
  | zero=>exact fun _=>⟨List.length_replicate,fun k hk=>by omega⟩
  | succ m ih =>
    intro hm
    obtain ⟨h1,h2⟩:=ih (by omega)
    refine ⟨by show (List.set _ _ _).length=M; rw [List.length_set,h1],fun k hk=>?_⟩
    show (List.set _ _ _).getD k false=true
    rw [setB_get _ (by rw [h1]; omega)]
    by_cases e:k=m
    · rw [if_pos e]
    · rw [if_neg e]; exact h2 k (by omega)
theorem br_fold (br:List Int) (s:List Bool):∀ m,(∀ j,j < m→(br.getD j 0).toNat < s.length)→(foldN (fun i (s:List Bool)=>s.set (br.getD i 0).toNat false) m s).length=s.length∧∀ k,(foldN (fun i (s:List Bool)=>s.set (br.getD i 0).toNat false) m s).getD k false=(s.getD k false&&!(List.range m).any fun j=>(br.getD j 0).toNat==k):=by
  intro m
  induction m with
  | zero=>exact fun _=>⟨rfl,fun k=>by show s.getD k false=_; simp⟩
  | succ m ih =>
    intro hm
    obtain ⟨h1,h2⟩:=ih (fun j hj=>hm j (by omega))
    refine ⟨by show (List.set _ _ _).length=_; rw [List.length_set,h1],fun k=>?_⟩
    show (List.set _ _ _).getD k false=_
    rw [setB_get _ (by rw [h1]; exact hm m (by omega)),h2,List.range_succ,List.any_append]
    by_cases e:k=(br.getD m 0).toNat
    · have:((br.getD m 0).toNat==k)=true:=by rw [e]; exact beq_self_eq_true _
      rw [if_pos e]
      simp only [List.any_cons,List.any_nil,this,Bool.or_true,Bool.true_or,Bool.not_true,Bool.and_false]
    · have:((br.getD m 0).toNat==k)=false:=beq_eq_false_iff_ne.2 (Ne.symm e)
      rw [if_neg e]
      simp only [List.any_cons,List.any_nil,this,Bool.or_false]
def idxV (p:Nat→Bool) (M:Nat):List Int:=((List.range M).filter p).map fun i:Nat=>(i:Int)
theorem idxV_fold (p:Nat→Bool):∀ m,foldN (fun i (s:List Int)=>if p i=true then s++[(i:Int)] else s) m []=idxV p m
  | 0=>rfl
  | m+1=>by
    show (if p m=true then foldN _ m []++[(m:Int)] else foldN _ m [])=_
    rw [idxV_fold p m]
    unfold idxV
    rw [List.range_succ,List.filter_append,List.map_append]
    by_cases h:p m=true
    · rw [if_pos h]; simp [h]
    · rw [if_neg h]; simp [h]
theorem idxV_len (p:Nat→Bool) (M:Nat):(idxV p M).length≤M∧(idxV p M).length=((List.range M).filter p).length:=by
  unfold idxV
  rw [List.length_map]
  have:=List.length_filter_le p (List.range M)
  rw [List.length_range] at this
  exact ⟨this,rfl⟩
theorem idxV_get (p:Nat→Bool) (M i:Nat):(idxV p M).getD i 0=((((List.range M).filter p).getD i 0:Nat):Int):=by
  unfold idxV
  rw [List.getD_eq_getElem?_getD,List.getD_eq_getElem?_getD,List.getElem?_map]
  cases ((List.range M).filter p)[i]? <;> rfl
theorem filt_lt {p:Nat→Bool} {M i:Nat} (h:i < ((List.range M).filter p).length):((List.range M).filter p).getD i 0 < M:=by
  have:=getD_mem (d:=0) h
  rw [List.mem_filter,List.mem_range] at this
  exact this.1
def ordRes (o:Option (List Nat)):List Int×Bool:=match o with
  | none=>([],false)
  | some l=>(l.map (fun v:Nat=>(v:Int)),true)
/-! ### The graph -/
section
variable {b:Y46}
theorem r108 (hb:blockOk b=true) {br:List Int} (hbr:brokB (linksV b).length br=true) (hl:br.length≤1048576):u108 (viewV b) br=some (viewV b,liveV (linksV b).length br):=by
  have hM:=links_len hb
  have hbr:=hbr
  unfold brokB at hbr
  rw [Bool.and_eq_true] at hbr
  have hin:∀ j,j < br.length→0≤br.getD j 0∧br.getD j 0 < ((linksV b).length:Int):=fun j hj=>by
    have:=inB_iff.1 (all_getD hbr.1 hj)
    omega
  obtain ⟨t1,t2⟩:=tr_fold (linksV b).length (linksV b).length (Nat.le_refl _)
  obtain ⟨f1,f2⟩:=br_fold br (foldN (fun i (s:List Bool)=>s.set i true) (linksV b).length (List.replicate (linksV b).length false)) br.length (fun j hj=>by
    have:=hin j hj
    omega)
  have hres:foldN (fun i (s:List Bool)=>s.set (br.getD i 0).toNat false) br.length (foldN (fun i (s:List Bool)=>s.set i true) (linksV b).length (List.replicate (linksV b).length false))=liveV (linksV b).length br:=by
    refine list_eq false (by rw [f1,t1]; exact (appF_len _ _).symm) (fun k hk=>?_)
    have hk:k < (linksV b).length:=by rw [f1,t1] at hk; exact hk
    rw [f2,t2 k hk,Bool.true_and]
    refine Eq.trans ?_ (appF_get (fun k=>!hasB br (k:Int)) false _ k hk).symm
    congr 1
    unfold hasB
    rw [Bool.eq_iff_iff,List.any_eq_true,List.any_eq_true]
    constructor
    · rintro ⟨j,hj,he⟩
      have:=hin j (List.mem_range.1 hj)
      have he:=eq_of_beq he
      exact ⟨j,hj,by rw [beq_iff_eq]; omega⟩
    · rintro ⟨j,hj,he⟩
      have:=hin j (List.mem_range.1 hj)
      have he:=eq_of_beq he
      exact ⟨j,hj,by rw [beq_iff_eq]; omega⟩
  unfold u108
  have eM:((viewV b).2.2.1.length:Int)=((linksV b).length:Int):=rfl
  rw [eM,Int.toNat_natCast]
  refine (gd_pos ⟨⟨by omega,rfl,by omega,by omega⟩,trivial⟩).trans ?_
  rw [lt_eq,List.length_replicate]
  refine (lp_fold (n:=(linksV b).length) (by omega) (fun i (s:List Bool)=>((i:Int),s)) (fun i s=>s.set i true) (fun _ s=>s.length=(linksV b).length) (J:=fun s=>u108J0 br (viewV b) s) (F:=u108L1 br (viewV b) ((linksV b).length:Int)) (fun g i s hi hs=>?_) (fun i s _ hs=>by rw [List.length_set]; exact hs) (fun g s _=>if_neg (by simp)) (List.replicate (linksV b).length false) List.length_replicate).trans ?_
  · have e3:((i:Int)).toNat=i:=rfl
    refine (if_pos (decide_eq_true (by omega))).trans ?_
    refine (gd_pos ⟨⟨by omega,by omega⟩,by omega,trivial⟩).trans ?_
    exact gd_pos ⟨⟨by omega,by omega⟩,trivial⟩
  · show u108J0 br (viewV b) _=_
    rw [u108J0]
    refine (lp_fold (n:=br.length) (by omega) (fun i (s:List Bool)=>((i:Int),s)) (fun i s=>s.set (br.getD i 0).toNat false) (fun _ s=>s.length=(linksV b).length) (J:=fun s=>some (viewV b,s)) (F:=u108L3 br (viewV b)) (fun g i s hi hs=>?_) (fun i s _ hs=>by rw [List.length_set]; exact hs) (fun g s _=>if_neg (by simp)) _ t1).trans ?_
    · have e3:((i:Int)).toNat=i:=rfl
      have:=hin i hi
      refine (if_pos (decide_eq_true (by omega))).trans ?_
      refine (gd_pos ⟨⟨by omega,by omega⟩,trivial⟩).trans ?_
      rw [e3]
      refine (gd_pos ⟨⟨by omega,by omega⟩,by omega,trivial⟩).trans ?_
      exact gd_pos ⟨⟨by omega,by omega⟩,trivial⟩
    · exact congrArg (fun x=>some (viewV b,x)) hres
theorem r102T (hb:blockOk b=true) {lv:List Bool} (hlv:lv.length=(linksV b).length):u102c110 (viewV b,lv)=some (idxV (fun i=>lv.getD i false) (linksV b).length):=by
  have hM:=links_len hb
  refine (lp_fold (n:=(linksV b).length) (by omega) (fun i (s:List Int)=>(s,(i:Int))) (fun i s=>if lv.getD i false=true then s++[(i:Int)] else s) (fun i s=>s.length≤i) (J:=fun s=>some s) (F:=u102c110L1 (viewV b,lv)) (fun g i s hi hs=>?_) (fun i s _ hs=>?_) (fun g s _=>if_neg (by simp [viewV])) [] (Nat.le_refl _)).trans (congrArg some (idxV_fold _ _))
  · have e3:((i:Int)).toNat=i:=rfl
    have hx:ix (i:Int) (viewV b).2.2.1.length:=⟨by omega,by show (i:Int) < ((linksV b).length:Int); omega⟩
    refine (if_pos (decide_eq_true hx.2)).trans ((gd_pos ⟨hx,trivial⟩).trans ?_)
    rw [lt_eq]
    refine (gd_pos ⟨⟨by omega,by show (i:Int) < (lv.length:Int); omega⟩,(fun _=>rfl),trivial⟩).trans ?_
    show (if (lv.getD i false&&true)=true then _ else _)=_
    rw [Bool.and_true]
    by_cases h:lv.getD i false=true
    · rw [if_pos h,if_pos h]
      refine (gd_pos ⟨⟨by simp only [List.length_singleton]; omega,by simp only [List.length_singleton]; omega⟩,trivial⟩).trans ?_
      exact gd_pos ⟨⟨by omega,by omega⟩,trivial⟩
    · rw [if_neg h,if_neg h]
      exact gd_pos ⟨⟨by omega,by omega⟩,trivial⟩
  · show (if lv.getD i false=true then s++[(i:Int)] else s).length≤i+1
    split
    · rw [List.length_append,List.length_singleton]; omega
    · omega
theorem r102F (hb:blockOk b=true) {lv:List Bool} (hlv:lv.length=(linksV b).length) (a:Nat):u102c103 (viewV b,lv) (a:Int)=some (idxV (fun i=>lv.getD i false&&frN b i==a) (linksV b).length):=by
  have hM:=links_len hb
  refine (lp_fold (n:=(linksV b).length) (by omega) (fun i (s:List Int)=>(s,(i:Int))) (fun i s=>if (lv.getD i false&&frN b i==a)=true then s++[(i:Int)] else s) (fun i s=>s.length≤i) (J:=fun s=>some s) (F:=u102c103L1 (viewV b,lv) (a:Int)) (fun g i s hi hs=>?_) (fun i s _ hs=>?_) (fun g s _=>if_neg (by simp [viewV])) [] (Nat.le_refl _)).trans (congrArg some (idxV_fold _ _))
  · have e3:((i:Int)).toNat=i:=rfl
    have hx:ix (i:Int) (viewV b).2.2.1.length:=⟨by omega,by show (i:Int) < ((linksV b).length:Int); omega⟩
    refine (if_pos (decide_eq_true hx.2)).trans ((gd_pos ⟨hx,trivial⟩).trans ?_)
    rw [lt_eq]
    refine (gd_pos ⟨⟨by omega,by show (i:Int) < (lv.length:Int); omega⟩,(fun _=>rfl),trivial⟩).trans ?_
    obtain ⟨f1,_⟩:=frto b hb hi
    have ef:(((linksV b).getD i (dflt y91)).1==(a:Int))=(frN b i==a):=by
      rw [f1,Bool.eq_iff_iff,beq_iff_eq,beq_iff_eq]; omega
    show (if (lv.getD i false&&(((linksV b).getD i (dflt y91)).1==(a:Int)))=true then _ else _)=_
    rw [ef]
    by_cases h:(lv.getD i false&&frN b i==a)=true
    · rw [if_pos h,if_pos h]
      refine (gd_pos ⟨⟨by simp only [List.length_singleton]; omega,by simp only [List.length_singleton]; omega⟩,trivial⟩).trans ?_
      exact gd_pos ⟨⟨by omega,by omega⟩,trivial⟩
    · rw [if_neg h,if_neg h]
      exact gd_pos ⟨⟨by omega,by omega⟩,trivial⟩
  · show (if (lv.getD i false&&frN b i==a)=true then s++[(i:Int)] else s).length≤i+1
    split
    · rw [List.length_append,List.length_singleton]; omega
    · omega
theorem r56 (hb:blockOk b=true) {lv:List Bool} (hlv:lv.length=(linksV b).length) (a:Nat):u56 (viewV b,lv) (a:Int)=some (idxV (fun i=>lv.getD i false&&frN b i==a) (linksV b).length):=by
  unfold u56
  rw [r102F hb hlv,vl_some,gd_pos ⟨rfl,trivial⟩,lt_eq]
theorem r111 (o:List Int) (h:o.length≤9223372036854775807):u111 o 0=some (match (List.range o.length).find? (fun v=>(0:Int)==o.getD v 0) with | some v=>(v:Int) | none => -1):=by
  have key:=lp_any h (fun v=>(0:Int)==o.getD v 0) (fun v=>some (v:Int)) (e:=some (-1)) (F:=u111L1 0 o) 0 (Nat.zero_le _) (fun g i _ hi=>by
    have e3:((i:Int)).toNat=i:=rfl
    refine (if_pos (decide_eq_true (by omega))).trans ((gd_pos ⟨⟨by omega,by omega⟩,trivial⟩).trans ?_)
    rw [e3]
    by_cases hc:((0:Int)==o.getD i 0)=true
    · rw [if_pos hc,if_pos hc]
    · rw [if_neg hc,if_neg hc]
      exact gd_pos ⟨⟨by omega,by omega⟩,trivial⟩) (fun g=>if_neg (by simp))
  rw [Nat.sub_zero,← List.range_eq_range'] at key
  refine Eq.trans key ?_
  cases (List.range o.length).find? fun v=>(0:Int)==o.getD v 0 <;> rfl
end
end Go.Proofs.YtgmpfbpemmohnaaGreatDoor
end
section
/- The order of the nodes of a graph: the two loops. -/
namespace Go.Proofs.YtgmpfbpemmohnaaGreatDoor
open Go Go.Proofs Go.Proofs.Sv Go.Proofs.Xv Go.Proofs.Xl Go.Proofs.Xd
section
variable {b:Y46}
theorem set_len {o:List Int} {i N:Nat} {x:Int} (h:o.length=N):(o.set i x).length=N:=by rw [List.length_set,h]
theorem r63L1 (hb:blockOk b=true) {lv:List Bool} {p:Nat→Bool}:lp (u63L1 (viewV b,lv) (idxV p (linksV b).length)) (0,List.replicate (nodN b) 0)=u63J0 (viewV b,lv) (((List.range (linksV b).length).filter p).foldl (incO (toN b)) (List.replicate (nodN b) 0)):=by
  have hM:=links_len hb
  obtain ⟨q1,q2⟩:=idxV_len p (linksV b).length
  rw [← foldN_foldl,← q2]
  refine lp_fold (n:=(idxV p (linksV b).length).length) (by omega) (fun i (s:List Int)=>((i:Int),s)) (fun i o=>incO (toN b) o (((List.range (linksV b).length).filter p).getD i 0)) (fun i o=>o.length=nodN b∧∀ v,0≤o.getD v 0∧o.getD v 0≤(i:Int)) (J:=fun s=>u63J0 (viewV b,lv) s) (F:=u63L1 (viewV b,lv) (idxV p (linksV b).length)) (fun g i o hi ho=>?_) (fun i o hi ho=>?_) (fun g s _=>if_neg (by simp)) _ ⟨List.length_replicate,fun v=>?_⟩
  · have e3:((i:Int)).toNat=i:=rfl
    obtain ⟨ol,ob⟩:=ho
    have hk:=filt_lt (p:=p) (M:=(linksV b).length) (i:=i) (by omega)
    refine (if_pos (decide_eq_true (by omega))).trans ?_
    refine (gd_pos ⟨⟨by omega,by omega⟩,by omega,trivial⟩).trans ?_
    rw [e3,idxV_get]
    generalize ((List.range (linksV b).length).filter p).getD i 0=k at hk
    have e4:Int.toNat ((k:Nat):Int)=k:=rfl
    obtain ⟨f1,f2,f3,f4⟩:=frto b hb hk
    have hx:ix ((k:Nat):Int) (viewV b).2.2.1.length:=⟨by omega,by show ((k:Nat):Int) < ((linksV b).length:Int); omega⟩
    have hv:=ob (toN b k)
    have e5:((viewV b).2.2.1.getD (Int.toNat ((k:Nat):Int)) (dflt y91)).2.1=(toN b k:Int):=f2
    have e6:Int.toNat ((toN b k:Nat):Int)=toN b k:=rfl
    rw [e5,e6]
    refine (gd_pos ⟨hx,⟨by omega,by omega⟩,by omega,⟨by omega,by omega⟩,⟨by omega,by omega⟩,by omega,trivial⟩).trans ?_
    rw [lt_eq]
    exact gd_pos ⟨⟨by omega,by omega⟩,trivial⟩
  · obtain ⟨ol,ob⟩:=ho
    have hk:=filt_lt (p:=p) (M:=(linksV b).length) (i:=i) (by omega)
    obtain ⟨f1,f2,f3,f4⟩:=frto b hb hk
    refine ⟨set_len ol,fun v=>?_⟩
    unfold incO
    rw [set_get _ (by omega)]
    have h1:=ob v
    have h2:=ob (toN b (((List.range (linksV b).length).filter p).getD i 0))
    split <;> omega
  · have:(List.replicate (nodN b) (0:Int)).getD v 0=0:=by
      rw [List.getD_eq_getElem?_getD,List.getElem?_replicate]
      split <;> rfl
    rw [this]
    omega
theorem r63L5 (hb:blockOk b=true) {lv:List Bool} {p:Nat→Bool} {n:Int} {l:List Int} {v:Int} {g3:List Int×Int×List Int→Option (List Int×Bool)} {o:List Int} {A:Int} (hA:0≤A) (hA2:A≤1000000000000) (ol:o.length=nodN b) (olo:∀ w,w < nodN b → -A≤o.getD w 0∧o.getD w 0≤A):lp (u63L5 (viewV b,lv) (idxV p (linksV b).length) n l v g3) (0,o)=u63J4 n g3 (l++[v],((List.range (linksV b).length).filter p).foldl (decO (toN b)) o):=by
  have hM:=links_len hb
  obtain ⟨q1,q2⟩:=idxV_len p (linksV b).length
  rw [← foldN_foldl,← q2]
  refine lp_fold (n:=(idxV p (linksV b).length).length) (by omega) (fun i (s:List Int)=>((i:Int),s)) (fun i o=>decO (toN b) o (((List.range (linksV b).length).filter p).getD i 0)) (fun i o=>o.length=nodN b∧∀ w,w < nodN b → -A - (i:Int)≤o.getD w 0∧o.getD w 0≤A) (J:=fun s=>u63J4 n g3 (l++[v],s)) (F:=u63L5 (viewV b,lv) (idxV p (linksV b).length) n l v g3) (fun g i o hi ho=>?_) (fun i o hi ho=>?_) (fun g s _=>if_neg (by simp)) _ ⟨ol,fun w hw=>by have:=olo w hw; omega⟩
  · have e3:((i:Int)).toNat=i:=rfl
    obtain ⟨ol,ob⟩:=ho
    have hk:=filt_lt (p:=p) (M:=(linksV b).length) (i:=i) (by omega)
    refine (if_pos (decide_eq_true (by omega))).trans ?_
    refine (gd_pos ⟨⟨by omega,by omega⟩,by omega,trivial⟩).trans ?_
    rw [e3,idxV_get]
    generalize ((List.range (linksV b).length).filter p).getD i 0=k at hk
    obtain ⟨f1,f2,f3,f4⟩:=frto b hb hk
    have hx:ix ((k:Nat):Int) (viewV b).2.2.1.length:=⟨by omega,by show ((k:Nat):Int) < ((linksV b).length:Int); omega⟩
    have hv:=ob (toN b k) f4
    have e5:((viewV b).2.2.1.getD (Int.toNat ((k:Nat):Int)) (dflt y91)).2.1=(toN b k:Int):=f2
    have e6:Int.toNat ((toN b k:Nat):Int)=toN b k:=rfl
    rw [e5,e6]
    refine (gd_pos ⟨hx,⟨by omega,by omega⟩,by omega,⟨by omega,by omega⟩,⟨by omega,by omega⟩,by omega,trivial⟩).trans ?_
    rw [lt_eq]
    exact gd_pos ⟨⟨by omega,by omega⟩,trivial⟩
  · obtain ⟨ol,ob⟩:=ho
    have hk:=filt_lt (p:=p) (M:=(linksV b).length) (i:=i) (by omega)
    obtain ⟨f1,f2,f3,f4⟩:=frto b hb hk
    refine ⟨set_len ol,fun w hw=>?_⟩
    unfold decO
    rw [set_get _ (by omega)]
    have h1:=ob w hw
    have h2:=ob _ f4
    split <;> omega
def ordB (b:Y46) (lv:List Bool) (out:List Nat) (k:Nat):Option (List Nat):=ordGo (linksV b).length (nodN b) (frN b) (toN b) (fun i=>lv.getD i false) k out
theorem ordGo_succ (M N:Nat) (fr to:Nat→Nat) (lv:Nat→Bool) (k:Nat) (out:List Nat):ordGo M N fr to lv (k+1) out=match nextV M N fr to lv out with | none=>none | some v=>ordGo M N fr to lv k (out++[v]):=rfl
theorem r63 (hb:blockOk b=true) {lv:List Bool} (hlv:lv.length=(linksV b).length):u63 (viewV b,lv)=some (ordRes (ordB b lv [] (nodN b))):=by
  have hM:=links_len hb
  have hN:=nod_le b hb
  have ht:∀ i,i < (linksV b).length→toN b i < nodN b:=fun i hi=>(frto b hb hi).2.2.2
  unfold u63
  rw [r109 b hb,vl_some,gd_pos ⟨rfl,⟨by omega,rfl,by rw [Int.toNat_natCast]; omega,by omega⟩,trivial⟩,lt_eq,r102T hb hlv,vl_some,gd_pos ⟨rfl,trivial⟩,lt_eq,Int.toNat_natCast,r63L1 hb]
  have hO:((List.range (linksV b).length).filter fun i=>lv.getD i false).foldl (incO (toN b)) (List.replicate (nodN b) 0)=openV (linksV b).length (nodN b) (frN b) (toN b) (fun i=>lv.getD i false) []:=rfl
  rw [hO]
  have hl0:(openV (linksV b).length (nodN b) (frN b) (toN b) (fun i=>lv.getD i false) []).length=nodN b:=(oinv_0 (fr:=frN b) ht).len
  generalize hv6:openV (linksV b).length (nodN b) (frN b) (toN b) (fun i=>lv.getD i false) []=v6 at hl0
  rw [u63J0]
  have key:=lp_run (n:=nodN b) (by omega) (fun i (out:List Nat)=>(out.map (fun v:Nat=>(v:Int)),(i:Int),openV (linksV b).length (nodN b) (frN b) (toN b) (fun i=>lv.getD i false) out))
    (fun _ out=>(nextV (linksV b).length (nodN b) (frN b) (toN b) (fun i=>lv.getD i false) out).map fun v=>out++[v]) (fun _ _=>some ([],false))
    (fun i out=>out.length=i∧OInv (linksV b).length (nodN b) (frN b) (toN b) (fun i=>lv.getD i false) out (openV (linksV b).length (nodN b) (frN b) (toN b) (fun i=>lv.getD i false) out))
    (J:=fun out=>some (out.map (fun v:Nat=>(v:Int)),true)) (F:=u63L3 (viewV b,lv) v6)
    (fun g i out hi ho=>by
      obtain ⟨h1,h2⟩:=ho
      have e3:((i:Int)).toNat=i:=rfl
      refine (if_pos (decide_eq_true (by omega))).trans ?_
      rw [r111 _ (by rw [h2.len]; omega),oinv_next h2,vl_some]
      refine (gd_pos ⟨rfl,trivial⟩).trans ?_
      rw [lt_eq]
      cases hn:nextV (linksV b).length (nodN b) (frN b) (toN b) (fun i=>lv.getD i false) out with
      | none=>rfl
      | some v =>
        obtain ⟨n1,n2⟩:=next_ok hn
        have ev:((v:Int)).toNat=v:=rfl
        dsimp only
        refine (if_neg (by simp)).trans ?_
        refine (gd_pos ⟨⟨by omega,by rw [h2.len]; omega⟩,by rw [h2.len]; omega,trivial⟩).trans ?_
        refine (gd_pos ⟨⟨by simp only [List.length_singleton,List.length_map]; omega,by simp only [List.length_singleton,List.length_map]; omega⟩,trivial⟩).trans ?_
        show gd ((u56 (viewV b,lv) (v:Int)).isSome=true∧True) (lt (vl (u56 (viewV b,lv) (v:Int))) fun v19=>lp (u63L5 (viewV b,lv) v19 (i:Int) (out.map fun v:Nat=>(v:Int)) (v:Int) g) (0,(openV (linksV b).length (nodN b) (frN b) (toN b) (fun i=>lv.getD i false) out).set v (-1)))=g ((out++[v]).map (fun v:Nat=>(v:Int)),(((i+1:Nat)):Int),openV (linksV b).length (nodN b) (frN b) (toN b) (fun i=>lv.getD i false) (out++[v]))
        rw [r56 hb hlv,vl_some,gd_pos ⟨rfl,trivial⟩,lt_eq]
        have hle:(out.length:Int)*((linksV b).length:Int)≤1000000*6000:=Int.mul_le_mul (by omega) (by omega) (by omega) (by decide)
        rw [r63L5 hb (A:=6000000001) (by decide) (by decide) (set_len h2.len) (fun w hw=>by
          rw [set_get _ (by rw [h2.len]; exact n1)]
          have a1:=h2.lo w hw
          have a2:=h2.hi w hw
          split <;> omega)]
        rw [openV_app,List.map_append]
        exact gd_pos ⟨⟨by omega,by omega⟩,trivial⟩)
    (fun i out out' hi ho he=>by
      obtain ⟨h1,h2⟩:=ho
      cases hn:nextV (linksV b).length (nodN b) (frN b) (toN b) (fun i=>lv.getD i false) out with
      | none=>rw [hn] at he; cases he
      | some v =>
        rw [hn] at he
        cases he
        obtain ⟨n1,n2⟩:=next_ok hn
        refine ⟨by simp [h1],?_⟩
        rw [openV_app]
        exact oinv_step ht h2 n1 n2)
    (fun g out ho=>by
      refine (if_neg ?_).trans rfl
      simp [hl0])
    (fun i out=>some (ordRes (ordB b lv out (nodN b - i)))) (fun out _=>by
      rw [Nat.sub_self]; rfl)
    (fun i out hi ho=>by
      have e:nodN b - i=(nodN b - (i+1))+1:=by omega
      show some (ordRes (ordGo _ _ _ _ _ (nodN b - i) out))=_
      rw [e,ordGo_succ]
      cases nextV (linksV b).length (nodN b) (frN b) (toN b) (fun i=>lv.getD i false) out <;> rfl)
    0 (Nat.zero_le _) [] ⟨rfl,oinv_0 ht⟩
  rw [hv6] at key
  exact key
end
end Go.Proofs.YtgmpfbpemmohnaaGreatDoor
end

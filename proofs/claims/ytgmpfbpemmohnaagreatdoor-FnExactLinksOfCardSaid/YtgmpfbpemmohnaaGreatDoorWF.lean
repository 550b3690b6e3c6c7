/- The links of a block: both ways are the same, and what they are. -/
import Derived.Test.YtgmpfbpemmohnaaGreatDoorWE
import Derived.Test.YtgmpfbpemmohnaaGreatDoorFn24c
import Derived.Test.YtgmpfbpemmohnaaGreatDoorXK
import Derived.Test.YtgmpfbpemmohnaaGreatDoorXF
import Derived.Test.YtgmpfbpemmohnaaGreatDoorGn24
import Derived.Test.YtgmpfbpemmohnaaGreatDoorWB
section
/- The links of a block: both ways are the same, and what they are. -/
namespace Go.Proofs.YtgmpfbpemmohnaaGreatDoor
open Go Go.Proofs Go.Proofs.Sv Go.Proofs.Xv Go.Proofs.Xl Go.Proofs.Xd
theorem arc_facts {c:Y134} (h:cellOk isArcS c=true) {j:Nat} (hj:j < c.2.2.2.1.length):isArcS c.2.2.1.length (pinOf c) (arcOf c j)=true:=by
 have h:cellB isArcS _ _ _ _ _ _ _ _ _=true:=h
 unfold cellB arcsB at h
 simp only [Bool.and_eq_true,decide_eq_true_eq] at h
 have:=not_any.1 h.1.1.1.2.2 j hj
 rw [Bool.or_eq_false_iff,Bool.not_eq_false'] at this
 exact this.1
theorem arc_comb {n:Nat} {p:Nat→DPin} {a:DArc} (h:isArcS n p a=true) (hk:a.1≤3):((a.1=1∧(a.2.2.2.1=1∨a.2.2.2.1=2∨a.2.2.2.1=3))∨a.1=2∨a.1=3)∧areTables a.2.2.2.2.1 true=true∧areTables a.2.2.2.2.2 true=true:=by
 unfold isArcS at h
 simp only [Bool.and_eq_true] at h
 obtain ⟨_,h⟩:=h
 by_cases h1:a.1=1
 ·rw [if_pos h1] at h
  simp only [Bool.and_eq_true] at h
  have:=inB_iff.1 h.1.1.2
  exact ⟨.inl ⟨h1,by omega⟩,h.1.2,h.2⟩
 rw [if_neg h1] at h
 by_cases h2:a.1=2∨a.1=3
 ·rw [if_pos h2] at h
  simp only [Bool.and_eq_true] at h
  exact ⟨.inr h2,h.1.2,h.2⟩
 rw [if_neg h2] at h
 by_cases h3:a.1=4∨a.1=5
 ·omega
 ·rw [if_neg h3] at h; cases h
theorem trans_none {k s:Int} (h:3 < k):transV k s=[]:=by
 unfold transV
 rw [if_neg (by rw [beq_iff_eq]; omega),if_neg (by rw [beq_iff_eq]; omega),if_pos (by rw [bne_iff_ne]; omega)]
def cellF (b:Y46) (i:Nat) (s:List DLink):List DLink:=s++cellLinksD (offs (insOf b.2.1) i) (arcOf (celI b i)) (celI b i).2.2.2.1.length
theorem cellF_fold (b:Y46):∀ n,foldN (cellF b) n []=(foldN (instLV b) n (0,[])).2
 | 0=>rfl
 | n+1=>by
   show cellF b n (foldN (cellF b) n [])=(foldN (instLV b) n (0,[])).2++cellLinksD (foldN (instLV b) n (0,[])).1 (arcOf (celI b n)) (celI b n).2.2.2.1.length
   have h1:(foldN (instLV b) n (0,[])).1=(offs (insOf b.2.1) n:Int):=instLF_fst (fun _=>rfl) n
   rw [cellF_fold b n,h1]; rfl
theorem sink_place {b:Y46} (df:DF b.1 b.2.1) {t:Int} {k:Nat} (hk:k < (sinksV b.2.1 t).length):0≤(sinksV b.2.1 t).getD k 0∧(sinksV b.2.1 t).getD k 0≤1000:=by
 have:=sinksV_at hk
 have:=df.len
 omega
theorem r49 (b:Y46) (hw:wf y46 b) (hb:blockOk b=true):u49 b=some (linksV b):=by
 obtain ⟨hd0,hlen,hwire⟩:=block_design hb
 have df:=df_of hd0
 have hd:=hw.2.1
 have h14:=df.fac.ni14
 have h30:=df.fac.nn30
 have hpl:=df.len
 unfold u49
 refine (lp_fold (n:=b.2.1.1.length) (by omega) (fun (i:Nat) (s:List DLink)=>((i:Int),s)) (cellF b) (fun i s=>s.length≤32*i) (J:=u49J0 b) (F:=u49L1 b) (fun g i s hi hI=>?_) (fun i s hi hI=>?_) (fun g s _=>all_end) [] (Nat.le_refl _)).trans ?_
 ·have hI:s.length≤32*i:=hI
  have e3:((i:Int)).toNat=i:=rfl
  obtain ⟨x1,x2,x3⟩:=inst_cell' df hi
  obtain ⟨c1,c2,c3,c4⟩:=cell_arcs x2
  have hfind:=fun k hk=>r92 b.2.1 hd df (i:=i) (k:=k) hi hk
  refine (if_pos (by simpa using hi)).trans ?_
  rw [e3,gd_pos ⟨⟨by omega,by omega⟩,x1,trivial⟩,lt_eq]
  refine (lp_fold (n:=(celI b i).2.2.2.1.length) (by omega) (fun (j:Nat) (z:List DLink)=>((j:Int),z)) (carcF (offs (insOf b.2.1) i) (arcOf (celI b i))) (fun j z=>z.length≤s.length+4*j) (J:=u49J2 (i:Int) g) (F:=u49L3 (celI b i) b (i:Int) g) (fun g' j z hj hz=>?_) (fun j z hj hz=>?_) (fun g' z _=>all_end) s (Nat.le_refl _)).trans ?_
  ·have hz:z.length≤s.length+4*j:=hz
   have e4:((j:Int)).toNat=j:=rfl
   obtain ⟨a1,a2,a3,a4⟩:=c4 j hj
   have ha:=arc_facts x2 hj
   have j4:∀ v,u49J4 (j:Int) g' v=g' (((j+1:Nat):Int),v):=fun v=>gd_pos ⟨⟨by omega,by omega⟩,trivial⟩
   refine (if_pos (by simpa using hj)).trans ?_
   rw [e4,gd_pos ⟨⟨by omega,by omega⟩,trivial⟩]
   show (if decide ((arcOf (celI b i) j).1≤3)=true then _ else _)=g' (((j+1:Nat):Int),carcF (offs (insOf b.2.1) i) (arcOf (celI b i)) j z)
   by_cases hk:(arcOf (celI b i) j).1≤3
   ·refine (if_pos (decide_eq_true hk)).trans ?_
    obtain ⟨k1,k2,k3⟩:=arc_comb ha hk
    obtain ⟨A,hA⟩:∃ A:Nat,(arcOf (celI b i) j).2.1=(A:Int):=⟨(arcOf (celI b i) j).2.1.toNat,by omega⟩
    obtain ⟨B,hB⟩:∃ B:Nat,(arcOf (celI b i) j).2.2.1=(B:Int):=⟨(arcOf (celI b i) j).2.2.1.toNat,by omega⟩
    obtain ⟨fA,lA⟩:=hfind A (by omega)
    obtain ⟨fB,lB⟩:=hfind B (by omega)
    have hs:=r91 (arcOf (celI b i) j) z ((offs (insOf b.2.1) i+A:Nat):Int) ((offs (insOf b.2.1) i+B:Nat):Int) (j:Int) (by omega) (by omega) (by omega)
    have ee:=arc_eq k1 (offs (insOf b.2.1) i:Int) (A:Int) (B:Int) (j:Int) z
    rw [← Int.natCast_add,← Int.natCast_add] at ee
    rw [ee] at hs
    show gd (ix (j:Int) (celI b i).2.2.2.1.length∧ix (j:Int) (celI b i).2.2.2.1.length∧(u92 b.2.1 (i:Int) (arcOf (celI b i) j).2.1).isSome=true∧ix (j:Int) (celI b i).2.2.2.1.length∧(u92 b.2.1 (i:Int) (arcOf (celI b i) j).2.2.1).isSome=true∧(u91 z (arcOf (celI b i) j) (vl (u92 b.2.1 (i:Int) (arcOf (celI b i) j).2.1)) (vl (u92 b.2.1 (i:Int) (arcOf (celI b i) j).2.2.1)) (j:Int)).isSome=true∧True) (lt (vl (u91 z (arcOf (celI b i) j) (vl (u92 b.2.1 (i:Int) (arcOf (celI b i) j).2.1)) (vl (u92 b.2.1 (i:Int) (arcOf (celI b i) j).2.2.1)) (j:Int))) fun v=>u49J4 (j:Int) g' v)=_
    rw [hA,hB,fA,fB,vl_some,vl_some,hs,vl_some,gd_pos ⟨⟨by omega,by omega⟩,⟨by omega,by omega⟩,rfl,⟨by omega,by omega⟩,rfl,rfl,trivial⟩,lt_eq,j4]
    unfold carcF
    rw [hA,hB]
   ·refine (if_neg (by simpa using hk)).trans ?_
    rw [j4]
    unfold carcF
    rw [trans_none (by omega)]
    rfl
  ·have hz:z.length≤s.length+4*j:=hz
   have:=carcF_len (offs (insOf b.2.1) i) (arcOf (celI b i)) j z
   omega
  ·rw [carcF_app]
   exact gd_pos ⟨⟨by omega,by omega⟩,trivial⟩
 ·have hI:s.length≤32*i:=hI
  obtain ⟨x1,x2,x3⟩:=inst_cell' df hi
  have c3:=(cell_arcs x2).2.2.1
  have:=cellLinksD_len (offs (insOf b.2.1) i) (arcOf (celI b i)) (celI b i).2.2.2.1.length
  unfold cellF
  rw [List.length_append]
  omega
 ·have hcl:(foldN (cellF b) b.2.1.1.length []).length≤500:=by
   have:=instLV_in df b.2.1.1.length (Nat.le_refl _)
   rw [cellF_fold]
   omega
  have hcv:foldN (cellF b) b.2.1.1.length []=clinksV b:=cellF_fold b _
  unfold linksV
  rw [hcv] at hcl ⊢
  generalize clinksV b=z at hcl ⊢
  unfold u49J0
  rw [hlen]
  refine lp_fold (n:=b.2.1.2.1.length) (by omega) (fun (i:Nat) (s:List DLink)=>((i:Int),s)) (netLF (drvV b) (fun i=>sinksV b.2.1 i)) (fun i s=>s.length≤500+160*i) (J:=fun s=>some s) (F:=u49L6 b) (fun g i s hi hI=>?_) (fun i s hi hI=>?_) (fun g s _=>all_end) z hcl
  ·have hI:s.length≤500+160*i:=hI
   have hi':i < b.2.2.length:=by omega
   have hs78:=(net_ok hb hi').s78
   obtain ⟨d1,d2,d3⟩:=r93 b hw hb hi'
   have es:u90 b.2.1 (i:Int)=some (sinksV b.2.1 i):=r90 b.2.1 hd df _
   refine (if_pos (by simpa using hi)).trans ?_
   rw [d1,vl_some,gd_pos ⟨rfl,trivial⟩,lt_eq,es,vl_some,gd_pos ⟨rfl,trivial⟩,lt_eq]
   refine (lp_fold (n:=(sinksV b.2.1 i).length) (by omega) (fun (k:Nat) (y:List DLink)=>((k:Int),y)) (wsinkF (drvV b i) (sinksV b.2.1 i)) (fun k y=>y.length=s.length+2*k) (J:=u49J7 (i:Int) g) (F:=u49L8 (drvV b i) (sinksV b.2.1 i) (i:Int) g) (fun g8 k y hk hy=>?_) (fun k y hk hy=>?_) (fun g8 y _=>all_end) s rfl).trans ?_
   ·have hy:y.length=s.length+2*k:=hy
    have e4:((k:Int)).toNat=k:=rfl
    have hsp:=sink_place df hk
    have p1:=r94 y (drvV b i) ((sinksV b.2.1 i).getD k 0) 0 0 2 (k:Int) (by omega) hsp ⟨by omega,by omega⟩ ⟨by omega,by omega⟩ (by omega)
    have p2:=r94 (y++[(2*drvV b i+0,2*(sinksV b.2.1 i).getD k 0+0,2,(k:Int))]) (drvV b i) ((sinksV b.2.1 i).getD k 0) 1 1 2 (k:Int) (by omega) hsp ⟨by omega,by omega⟩ ⟨by omega,by omega⟩ (by rw [List.length_append]; show y.length+1≤_; omega)
    refine (if_pos (by simpa using hk)).trans ?_
    rw [e4,p1,vl_some,gd_pos ⟨⟨by omega,by omega⟩,hk,rfl,trivial⟩,lt_eq,p2,vl_some,gd_pos ⟨⟨by omega,by omega⟩,hk,rfl,trivial⟩,lt_eq]
    exact gd_pos ⟨⟨by omega,by omega⟩,trivial⟩
   ·have hy:y.length=s.length+2*k:=hy
    rw [wsinkF_len,hy]; omega
   ·exact gd_pos ⟨⟨by omega,by omega⟩,trivial⟩
  ·have hI:s.length≤500+160*i:=hI
   have hs78:=(net_ok hb (show i < b.2.2.length by omega)).s78
   unfold netLF
   rw [wsink_len]
   show s.length+2*(sinksV b.2.1 i).length≤_
   omega
theorem links_len {b:Y46} (hb:blockOk b=true):(linksV b).length≤6000:=by
 have df:=df_of (block_design hb).1
 have h14:=df.fac.ni14
 have h1:=instLV_in df b.2.1.1.length (Nat.le_refl _)
 have h2:=netL_len (drvV b) (fun i=>sinksV b.2.1 i) (clinksV b) (n:=b.2.2.length) (c:=78) (fun i hi=>(net_ok hb hi).s78) b.2.2.length (Nat.le_refl _)
 have h3:=(block_design hb).2.1
 have h30:=df.fac.nn30
 have h4:(clinksV b).length=(foldN (instLV b) b.2.1.1.length (0,[])).2.length:=rfl
 unfold linksV
 omega
end Go.Proofs.YtgmpfbpemmohnaaGreatDoor
end
section
/- All links: both ways; what the law asks of its functions. -/
namespace Go.Proofs.YtgmpfbpemmohnaaGreatDoor
open Go Go.Proofs Go.Proofs.Sv Go.Proofs.Xv Go.Proofs.Xl Go.Proofs.Xd
theorem r51o (b:Y46) (hw:wf y46 b) (hb:blockOk b=true):u51o b=some (b.1,b.2.1.1,b.2.1.2.1,b.2.1.2.2,b.2.2,plcs b.2.1,linksV b,loadsL b,delaysL b):=by
 obtain ⟨hd0,hlen,hwire⟩:=block_design hb
 have df:=df_of hd0
 have hd:=hw.2.1
 have h14:=df.fac.ni14
 have h30:=df.fac.nn30
 have hpl:=df.len
 have hin:b.2.1.1.length≤9223372036854775807:=by omega
 have eN:∀ l,u99 l=some (l.length:Int):=fun _=>rfl
 unfold u51o
 rw [r96 b.2.1 hd df.fac.ni14 df.fac.np8 df.pin,vl_some,gd_pos ⟨rfl,trivial⟩,lt_eq]
 refine (lp_fold (n:=b.2.1.1.length) hin (fun (i:Nat) (s:Int×List DLink)=>(s.1,(i:Int),s.2)) (instLV b) (fun i s=>0≤s.1∧s.1≤5*(i:Int)∧s.2.length≤32*i) (J:=fun s=>u51oJ0 (plcs b.2.1) b s.2) (F:=u51oL1 b (plcs b.2.1)) (fun g i s hi hI=>?_) (fun i s hi hI=>?_) (fun g s _=>all_end) (0,[]) ⟨Int.le_refl _,Int.le_refl _,Nat.le_refl _⟩).trans ?_
 ·have e3:((i:Int)).toNat=i:=rfl
  obtain ⟨f,z⟩:=s
  obtain ⟨i1,i2,i3⟩:=hI
  have i1:0≤f:=i1
  have i2:f≤5*(i:Int):=i2
  have i3:z.length≤32*i:=i3
  have hp:=df.pin i hi
  have hcl:=cellLinksD_len f (arcOf (celI b i)) (celI b i).2.2.2.1.length
  have hc8:=(cell_arcs (inst_cell' df hi).2.1).2.2.1
  refine (if_pos (by simpa using hi)).trans ?_
  rw [e3,gd_pos ⟨⟨by omega,by omega⟩,trivial⟩,lt_eq]
  show gd ((u98 b (insOf b.2.1 i) f).isSome=true∧_∧True) _=_
  rw [r98 b df hi f i1 (by omega),vl_some,gd_pos ⟨rfl,⟨by omega,by omega⟩,trivial⟩,lt_eq]
  show gd ((u99 (insOf b.2.1 i).2.2).isSome=true∧in64 (f+vl (u99 (insOf b.2.1 i).2.2))∧True) _=_
  rw [eN,vl_some,gd_pos ⟨rfl,⟨by omega,by omega⟩,trivial⟩,lt_eq]
  exact gd_pos ⟨⟨by omega,by omega⟩,trivial⟩
 ·obtain ⟨f,z⟩:=s
  obtain ⟨i1,i2,i3⟩:=hI
  have i1:0≤f:=i1
  have i2:f≤5*(i:Int):=i2
  have i3:z.length≤32*i:=i3
  have hp:=df.pin i hi
  have hcl:=cellLinksD_len f (arcOf (celI b i)) (celI b i).2.2.2.1.length
  have hc8:=(cell_arcs (inst_cell' df hi).2.1).2.2.1
  refine ⟨by show 0≤f+((insOf b.2.1 i).2.2.length:Int); omega,by show f+((insOf b.2.1 i).2.2.length:Int)≤_; omega,?_⟩
  show (z++cellLinksD f (arcOf (celI b i)) (celI b i).2.2.2.1.length).length≤_
  rw [List.length_append]; omega
 have hz:=(instLV_in df _ (Nat.le_refl _)).2.2
 have ecl:clinksV b=(foldN (instLV b) b.2.1.1.length (0,[])).2:=rfl
 unfold linksV loadsL delaysL
 rw [ecl]
 generalize (foldN (instLV b) b.2.1.1.length (0,[])).2=z at hz
 show u51oJ0 (plcs b.2.1) b z=_
 have hn30:b.2.2.length≤30:=by omega
 rw [u51oJ0,gd_pos ⟨⟨by omega,rfl,by omega,by omega⟩,trivial⟩,gd_pos ⟨⟨by omega,rfl,by omega,by omega⟩,trivial⟩]
 show lp (u51oL3 (plcs b.2.1) b z) (0,List.replicate b.2.2.length [],List.replicate b.2.2.length 0)=_
 have hnet:∀ i,i < (plcs b.2.1).length→inB (plcOf b.2.1 i).2.2.1 0 ((b.2.2.length:Int) - 1)=true:=fun i hi=>by rw [hlen]; exact df.plc _ (plc_mem hi)
 have gf:=grid_fold (plcOf b.2.1) b.2.2.length
 refine (lp_fold (n:=(plcs b.2.1).length) (by omega) (fun (i:Nat) (s:List (List Int)×List Int)=>((i:Int),s.1,s.2)) (gridF (plcOf b.2.1)) (fun i s=>s.1.length=b.2.2.length∧s.2.length=b.2.2.length∧∀ k:Nat,(s.1.getD k []).length≤i) (J:=fun s=>u51oJ2 b (plcs b.2.1) z s) (F:=u51oL3 (plcs b.2.1) b z) (fun g i s hi hI=>?_) (fun i s hi hI=>?_) (fun g s _=>all_end) (List.replicate b.2.2.length [],List.replicate b.2.2.length 0) ⟨List.length_replicate,List.length_replicate,fun k=>?_⟩).trans ?_
 ·obtain ⟨gr,dr⟩:=s
  obtain ⟨g1,g2,g3⟩:=hI
  have g1:gr.length=b.2.2.length:=g1
  have g2:dr.length=b.2.2.length:=g2
  have g3:∀ k:Nat,(gr.getD k []).length≤i:=g3
  have hp:=inB_iff.1 (hnet i hi)
  have e3:((i:Int)).toNat=i:=rfl
  have j4:∀ x y,u51oJ4 (i:Int) g (x,y)=g (((i+1:Nat):Int),y,x):=fun x y=>gd_pos ⟨⟨by omega,by omega⟩,trivial⟩
  have g4:=g3 (plcOf b.2.1 i).2.2.1.toNat
  refine (if_pos (by simpa using hi)).trans ?_
  rw [e3,gd_pos ⟨⟨by omega,by omega⟩,hi,trivial⟩,lt_eq]
  show (if (plcOf b.2.1 i).2.2.2=true then _ else _)=g (_,(gridF (plcOf b.2.1) i (gr,dr)).1,(gridF (plcOf b.2.1) i (gr,dr)).2)
  unfold gridF
  cases (plcOf b.2.1 i).2.2.2 with
  | true =>
    rw [if_pos rfl,if_pos rfl]
    show gd (ix (plcOf b.2.1 i).2.2.1 dr.length∧_∧True) _=_
    rw [gd_pos ⟨⟨by omega,by omega⟩,by show (plcOf b.2.1 i).2.2.1.toNat < _; omega,trivial⟩,j4]
  | false =>
    rw [if_neg (by simp),if_neg (by simp)]
    show gd (ix (plcOf b.2.1 i).2.2.1 gr.length∧_) _=_
    rw [gd_pos ⟨⟨by omega,by omega⟩,by show (plcOf b.2.1 i).2.2.1.toNat < _; omega,⟨by show (gr.getD (plcOf b.2.1 i).2.2.1.toNat []).length+1≤_; omega,by show ((gr.getD (plcOf b.2.1 i).2.2.1.toNat []).length+1)*8≤_; omega⟩,⟨by show 0≤(plcOf b.2.1 i).2.2.1; omega,by show (plcOf b.2.1 i).2.2.1 < _; omega⟩,⟨by show (plcOf b.2.1 i).2.2.1.toNat < _; omega,rfl⟩,trivial⟩,lt_eq,j4]
 ·obtain ⟨gr,dr⟩:=s
  obtain ⟨g1,g2,g3⟩:=hI
  have g1:gr.length=b.2.2.length:=g1
  have g2:dr.length=b.2.2.length:=g2
  have g3:∀ k:Nat,(gr.getD k []).length≤i:=g3
  have hp:=inB_iff.1 (hnet i hi)
  unfold gridF
  split
  ·exact ⟨g1,by show (dr.set _ _).length=_; rw [List.length_set]; exact g2,fun k=>by have:=g3 k; show (gr.getD k []).length≤_; omega⟩
  ·refine ⟨by show (gr.set _ _).length=_; rw [List.length_set]; exact g1,g2,fun k=>?_⟩
   show ((gr.set (plcOf b.2.1 i).2.2.1.toNat (gr.getD (plcOf b.2.1 i).2.2.1.toNat []++[(i:Int)])).getD k []).length≤_
   rw [getD_set (by omega)]
   have:=g3 k
   have:=g3 (plcOf b.2.1 i).2.2.1.toNat
   split
   ·rw [List.length_append]; show _+1≤_; omega
   ·omega
 ·show ((List.replicate b.2.2.length ([]:List Int)).getD k []).length≤0
  rw [List.getD_eq_getElem?_getD,List.getElem?_replicate]
  split <;> exact Nat.le_refl _
 obtain ⟨gl,dl,gd'⟩:=gf (plcs b.2.1).length hnet
 generalize foldN (gridF (plcOf b.2.1)) (plcs b.2.1).length (List.replicate b.2.2.length [],List.replicate b.2.2.length 0)=s at gl dl gd'
 obtain ⟨gr,dr⟩:=s
 have gl:gr.length=b.2.2.length:=gl
 have dl:dr.length=b.2.2.length:=dl
 have hgr:∀ k:Nat,k < b.2.2.length→gr.getD k []=sinksV b.2.1 k:=fun k hk=>(gd' k hk).1
 have hdr:∀ k:Nat,k < b.2.2.length→dr.getD k 0=drvV b k:=fun k hk=>(gd' k hk).2
 show lp (u51oL6 dr gr b (plcs b.2.1)) (0,[],[],z)=_
 refine (lp_fold (n:=b.2.2.length) (by omega) (fun (i:Nat) (s:List Int×List (List Int)×List DLink)=>((i:Int),s.1,s.2.1,s.2.2)) (stepV b) (fun i s=>s.1.length=i∧s.2.1.length=i∧s.2.2.length≤500+160*i) (J:=fun s=>some (b.1,b.2.1.1,b.2.1.2.1,b.2.1.2.2,b.2.2,plcs b.2.1,s.2.2,s.1,s.2.1)) (F:=u51oL6 dr gr b (plcs b.2.1)) (fun g i s hi hI=>?_) (fun i s hi hI=>?_) (fun g s _=>all_end) ([],[],z) ⟨rfl,rfl,by show z.length≤_; omega⟩).trans ?_
 ·obtain ⟨s1,s2,s3⟩:=s
  obtain ⟨i1,i2,i3⟩:=hI
  have i1:s1.length=i:=i1
  have i2:s2.length=i:=i2
  have i3:s3.length≤500+160*i:=i3
  have hno:=net_ok hb hi
  have n1:=hno.wf.n1
  have hs78:=hno.s78
  have hll:=hno.loads.1
  have e3:((i:Int)).toNat=i:=rfl
  refine (if_pos (by simpa using hi)).trans ?_
  rw [r100 b hw hno,vl_some,gd_pos ⟨rfl,⟨by omega,by omega⟩,by show 0 < _; omega,⟨by show s1.length+1≤_; omega,by show (s1.length+1)*8≤_; omega⟩,trivial⟩,lt_eq,r40 b hw hno,vl_some,gd_pos ⟨rfl,⟨by show s2.length+1≤_; omega,by show (s2.length+1)*24≤_; omega⟩,trivial⟩,lt_eq,gd_pos ⟨⟨by omega,by omega⟩,trivial⟩]
  have hsn:=hgr i hi
  have hdn:=hdr i hi
  have hdv:=drvN_in (plcOf b.2.1) i (plcs b.2.1).length
  have hdv:0≤drvV b i∧drvV b i≤((plcs b.2.1).length:Int):=hdv
  show lp (u51oL8 dr (i:Int) gr s2 (exactV b i) s1 (loadsV b i) g) (0,s3)=g (_,s1++[(loadsV b i).getD 0 0],s2++[exactV b i],netLF (drvV b) (fun i=>sinksV b.2.1 i) i s3)
  refine (lp_fold (n:=(sinksV b.2.1 i).length) (by omega) (fun (k:Nat) (s:List DLink)=>((k:Int),s)) (wsinkF (drvV b i) (sinksV b.2.1 i)) (fun k y=>y.length=s3.length+2*k) (J:=fun y=>u51oJ7 (i:Int) g (s2++[exactV b i],s1++[(loadsV b i).getD 0 0],y)) (F:=u51oL8 dr (i:Int) gr s2 (exactV b i) s1 (loadsV b i) g) (fun g8 k y hk hy=>?_) (fun k y hk hy=>?_) (fun g8 y _=>?_) s3 rfl).trans ?_
  ·have hy:y.length=s3.length+2*k:=hy
   obtain ⟨k1,k2⟩:=sinksV_at hk
   have e4:((k:Int)).toNat=k:=rfl
   show u51oL8 dr (i:Int) gr s2 (exactV b i) s1 (loadsV b i) g g8 ((k:Int),y)=_
   rw [u51oL8,e3,hsn,if_pos (by simpa using hk),gd_pos ⟨⟨by omega,by omega⟩,trivial⟩]
   show _=g8 (_,wsinkF (drvV b i) (sinksV b.2.1 i) k y)
   refine (lp_fold (n:=2) (by decide) (fun (t:Nat) (x:List DLink)=>((t:Int),x)) (wlinkF (drvV b i) ((sinksV b.2.1 i).getD k 0) (k:Int)) (fun t x=>x.length=y.length+t) (J:=fun x=>u51oJ9 (k:Int) g8 x) (F:=u51oL10 dr (i:Int) gr (k:Int) g8) (fun g10 t x ht hx=>?_) (fun t x ht hx=>?_) (fun g10 x _=>?_) y rfl).trans ?_
   ·have hx:x.length=y.length+t:=hx
    show u51oL10 dr (i:Int) gr (k:Int) g8 g10 ((t:Int),x)=_
    rw [u51oL10,e3,e4,hsn,hdn,if_pos (decide_eq_true (by omega)),gd_pos ⟨⟨by omega,by omega⟩,by omega,⟨by omega,by omega⟩,⟨by omega,by omega⟩,⟨by omega,by omega⟩,⟨by omega,by omega⟩,⟨by show x.length+1≤_; omega,by show (x.length+1)*32≤_; omega⟩,trivial⟩,lt_eq]
    exact gd_pos ⟨⟨by omega,by omega⟩,trivial⟩
   ·have hx:x.length=y.length+t:=hx
    unfold wlinkF
    rw [List.length_append,hx]; rfl
   ·show u51oL10 dr (i:Int) gr (k:Int) g8 g10 (((2:Nat):Int),x)=_
    rw [u51oL10]
    exact if_neg (by decide)
   ·exact gd_pos ⟨⟨by omega,by omega⟩,trivial⟩
  ·have hy:y.length=s3.length+2*k:=hy
   rw [wsinkF_len,hy]; omega
  ·show u51oL8 dr (i:Int) gr s2 (exactV b i) s1 (loadsV b i) g g8 (((sinksV b.2.1 i).length:Int),y)=_
   rw [u51oL8,e3,hsn]
   exact if_neg (by simp)
  ·exact gd_pos ⟨⟨by omega,by omega⟩,trivial⟩
 ·obtain ⟨s1,s2,s3⟩:=s
  obtain ⟨i1,i2,i3⟩:=hI
  have i1:s1.length=i:=i1
  have i2:s2.length=i:=i2
  have i3:s3.length≤500+160*i:=i3
  have hs78:=(net_ok hb hi).s78
  refine ⟨by show (s1++_).length=_; rw [List.length_append,i1]; rfl,by show (s2++_).length=_; rw [List.length_append,i2]; rfl,?_⟩
  show (netLF (drvV b) (fun i=>sinksV b.2.1 i) i s3).length≤_
  unfold netLF
  rw [wsink_len]
  show s3.length+2*(sinksV b.2.1 i).length≤500+160*(i+1)
  omega
 ·rw [stepV_fold]
def loF (b:Y46):List Y91×Int:=if blockOk b=true then (linksV b,0) else ([],1)
theorem r17 (b:Y46) (hw:wf y46 b) (hm:cnt y46 b≤1048576):u17 b=some (loF b):=by
 unfold u17 loF
 rw [r48 b hw hm,vl_some,gd_pos ⟨rfl,trivial⟩]
 cases hb:blockOk b with
 | false=>rfl
 | true =>
   refine (if_neg (by simp)).trans ?_
   rw [r49 b hw hb,vl_some,gd_pos ⟨rfl,trivial⟩,lt_eq]
   rfl
theorem r18o (b:Y46) (hw:wf y46 b) (hm:cnt y46 b≤1048576):u18o b=some (loF b):=by
 unfold u18o loF
 rw [r50 b hw hm,vl_some,gd_pos ⟨rfl,trivial⟩]
 cases hb:blockOk b with
 | false=>rfl
 | true =>
   refine (if_neg (by simp)).trans ?_
   rw [r51o b hw hb,vl_some,gd_pos ⟨rfl,trivial⟩,lt_eq]
   rfl
theorem loF_len (b:Y46):(loF b).1.length≤6000:=by
 unfold loF
 split
 ·rename_i hb; exact links_len hb
 ·exact Nat.zero_le _
end Go.Proofs.YtgmpfbpemmohnaaGreatDoor
end
section
/- Plain facts on marks: how many there are, what the held ones say. -/
namespace Go.Proofs.Xd
open Go Go.Proofs.Xl Go.Proofs.Xv
def wd:Ty→Nat
 | .pr a b=>wd a+wd b
 | .sl e=>wd e
 | .pt _=>0
 | _=>1
theorem cntM_le:∀ (t:Ty) (x:den t),cntM t x≤wd t*(1+cnt t x)
 | .int _,_=>by simp [cntM,wd]
 | .bool,_=>by simp [cntM,wd]
 | .str,_=>by simp [cntM,wd]
 | .pt _,_=>by simp [cntM]
 | .sl e,xs=>by
   have key:∀ l:List (den e),(l.map (cntM e)).sum≤wd e*(l.length+(l.map (cnt e)).sum):=by
    intro l
    induction l with
    | nil=>exact Nat.zero_le _
    | cons a r ih =>
      have h1:=cntM_le e a
      rw [List.map_cons,List.sum_cons,List.map_cons,List.sum_cons,List.length_cons]
      have e1:wd e*(r.length+1+(cnt e a+(r.map (cnt e)).sum))=wd e*(1+cnt e a)+wd e*(r.length+(r.map (cnt e)).sum):=by
       rw [← Nat.mul_add]; congr 1; omega
      omega
   refine Nat.le_trans (key xs) ?_
   show _≤wd e*(1+(xs.length+(xs.map (cnt e)).sum))
   exact Nat.mul_le_mul_left _ (by omega)
 | .pr a b,x=>by
   have h1:=cntM_le a x.1
   have h2:=cntM_le b x.2
   show cntM a x.1+cntM b x.2≤(wd a+wd b)*(1+(cnt a x.1+cnt b x.2))
   have h3:wd a*(1+cnt a x.1)≤wd a*(1+(cnt a x.1+cnt b x.2)):=Nat.mul_le_mul_left _ (by omega)
   have h4:wd b*(1+cnt b x.2)≤wd b*(1+(cnt a x.1+cnt b x.2)):=Nat.mul_le_mul_left _ (by omega)
   rw [Nat.add_mul]
   omega
theorem cntM_bd {t:Ty} {x:den t} {k:Nat} (h:cnt t x≤1048576) (hw:wd t≤k):(cntM t x:Int)≤(k*1048577:Nat):=by
 have h1:=cntM_le t x
 have h2:wd t*(1+cnt t x)≤k*1048577:=Nat.mul_le_mul hw (by omega)
 omega
theorem mkQ_get:∀ (m:Nat) (k:Int) (i:Nat) (d:Int×Int×Int×Int),i < m→(mkQ k m).getD i d=(k+((4*i:Nat):Int),k+((4*i:Nat):Int)+1,k+((4*i:Nat):Int)+1+1,k+((4*i:Nat):Int)+1+1+1)
 | m+1,k,0,d,_=>by simp [mkQ]
 | m+1,k,i+1,d,h=>by
   rw [mkQ,List.getD_cons_succ,mkQ_get m _ i d (by omega)]
   rw [show k+1+1+1+1+((4*i:Nat):Int)=k+((4*(i+1):Nat):Int) by omega]
theorem fold_four:∀ n:Nat,foldN (fun _ (v:Int)=>v+1+1+1+1) n 1=1+((4*n:Nat):Int)
 | 0=>rfl
 | n+1=>by rw [foldN,fold_four n]; omega
end Go.Proofs.Xd
end
section
/- All links: what the law asks of its functions. -/
namespace Go.Proofs.YtgmpfbpemmohnaaGreatDoor
open Go Go.Proofs Go.Proofs.Sv Go.Proofs.Xv Go.Proofs.Xl Go.Proofs.Xd
theorem r21 (n:Nat) (hn:n≤1000000000000000000):u21 (mkQ 1 n) (1:Int)=some (1+((4*n:Nat):Int)):=by
 have hl:=mkQ_len n 1
 rw [← fold_four n]
 refine lp_fold (n:=n) (by omega) (fun i (s:Int)=>(s,(i:Int))) (fun _ s=>s+1+1+1+1) (fun i s=>s=1+((4*i:Nat):Int)) (J:=u21J0) (F:=u21L1 (mkQ 1 n)) (fun g i s hi hs=>?_) (fun i s hi hs=>by subst hs; omega) (fun g s _=>if_neg (by rw [hl]; simp)) _ rfl
 subst hs
 have hg:List.getD (mkQ 1 n:List Y91) ((i:Int)).toNat (dflt y91)=(1+((4*i:Nat):Int),1+((4*i:Nat):Int)+1,1+((4*i:Nat):Int)+1+1,1+((4*i:Nat):Int)+1+1+1):=mkQ_get n 1 i _ hi
 have hx:ix (i:Int) (mkQ 1 n).length∧True:=⟨⟨by omega,by rw [hl]; omega⟩,trivial⟩
 refine (if_pos (decide_eq_true (by rw [hl]; omega))).trans ?_
 refine (gd_pos hx).trans ?_
 rw [hg]
 refine (if_neg (by simp)).trans ?_
 refine (gd_pos ⟨⟨by omega,by omega⟩,trivial⟩).trans ?_
 refine (gd_pos hx).trans ?_
 refine (if_neg (by simp)).trans ?_
 refine (gd_pos ⟨⟨by omega,by omega⟩,trivial⟩).trans ?_
 refine (gd_pos hx).trans ?_
 refine (if_neg (by simp)).trans ?_
 refine (gd_pos ⟨⟨by omega,by omega⟩,trivial⟩).trans ?_
 refine (gd_pos hx).trans ?_
 refine (if_neg (by simp)).trans ?_
 refine (gd_pos ⟨⟨by omega,by omega⟩,trivial⟩).trans ?_
 exact gd_pos ⟨⟨by omega,by omega⟩,trivial⟩
theorem cnt_links (l:List Y91):cnt (.sl y91) l=l.length+0:=cnt_flat fun _=>rfl
theorem r4 (b:Y32) (hw:wf y32 b):G4 b:=by
 refine ⟨_,z8 b 1048576 hw (by decide) (by decide),fun h0=>?_⟩
 have hm:cnt y32 b≤1048576:=by
  unfold szN at h0
  split at h0 <;> omega
 have hr:=loF_len b
 have hc:=cnt_links (loF b).1
 have k1:=cntM_bd (t:=y46) (x:=b) (k:=64) hm (by decide)
 exact ⟨(loF b).1,(loF b).2,⟨w10 b hm,r17 b hw hm,r18o b hw hm,e19 _ (by omega),e13 b hm,by omega,by omega,r21 _ (by omega)⟩⟩
end Go.Proofs.YtgmpfbpemmohnaaGreatDoor
end

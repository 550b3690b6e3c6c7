/- Whole roots by halving; roots of a number and of its fourfold. Plain facts. -/
import Derived.Test.YticmgmebjmblgaaGreatDoorWE
import Derived.Test.YticmgmebjmblgaaGreatDoorFn13d
section
/- Whole roots by halving; roots of a number and of its fourfold. Plain facts. -/
namespace Go.Proofs.Xd
open Go Go.Proofs Go.Proofs.Xl
def halfN (n:Int) (s:Int×Int):Int×Int:=if decide ((s.1+s.2+1).tdiv 2*(s.1+s.2+1).tdiv 2≤n)=true then ((s.1+s.2+1).tdiv 2,s.2) else (s.1,(s.1+s.2+1).tdiv 2 - 1)
theorem lp_root {F:(Int×Int→Option Int)→Int×Int→Option Int} {J:Int→Option Int} {n H:Int} (h0:0≤n) (hH:n < (H+1)*(H+1)) (hH0:0≤H) (hHb:H≤3000000000)
    (hF:∀ g (s:Int×Int),0≤s.1→s.1≤s.2→s.2≤H→F g s=if decide (s.1 < s.2)=true then g (halfN n s) else J s.1):∃ r,Root n r∧r≤H∧lp F (0,H)=J r:=by
  obtain ⟨s',⟨i1,i2,i3,i4,i5⟩,hc,he⟩:=lp_meas (J:=fun s:Int×Int=>J s.1) (fun s=>(s.2 - s.1).toNat) (fun s=>0≤s.1∧s.1≤s.2∧s.2≤H∧s.1*s.1≤n∧n < (s.2+1)*(s.2+1)) (fun s=>decide (s.1 < s.2)) (halfN n)
    (fun g s hs=>hF g s hs.1 hs.2.1 hs.2.2.1) (fun s hs hc=>by
      obtain ⟨j1,j2,j3,j4,j5⟩:=hs
      have hc:=of_decide_eq_true hc
      obtain ⟨m1,m2,m3⟩:=mid_up j1 hc
      unfold halfN
      rw [m1]
      split
      · rename_i hq
        have hq:=of_decide_eq_true hq
        exact ⟨⟨by show 0≤(s.1+s.2+1) / 2; omega,m3,j3,hq,j5⟩,by show (s.2 - (s.1+s.2+1) / 2).toNat < (s.2 - s.1).toNat; omega⟩
      · rename_i hq
        have hq:n < (s.1+s.2+1) / 2*((s.1+s.2+1) / 2):=by
          rw [decide_eq_true_eq] at hq
          omega
        refine ⟨⟨j1,by show s.1≤(s.1+s.2+1) / 2 - 1; omega,by show (s.1+s.2+1) / 2 - 1≤H; omega,j4,?_⟩,by show ((s.1+s.2+1) / 2 - 1 - s.1).toNat < (s.2 - s.1).toNat; omega⟩
        show n < ((s.1+s.2+1) / 2 - 1+1)*((s.1+s.2+1) / 2 - 1+1)
        rw [Int.sub_add_cancel]
        exact hq) (0,H) ⟨Int.le_refl _,hH0,Int.le_refl _,by show (0:Int)*0≤n; omega,hH⟩ (by show (H - 0).toNat≤_; omega)
  have hc:=of_decide_eq_false hc
  have e:s'.1=s'.2:=by omega
  exact ⟨s'.1,⟨i1,i4,by rw [e]; exact i5⟩,by omega,he⟩
theorem root_four {n R Z:Int} (h:Root n R) (k:Root (4*n) Z):(Z=2*R∨Z=2*R+1)∧(R*R=n→Z=2*R∧Z*Z=4*n)∧(R*R < n→(Z=2*R∧Z*Z < 4*n)∨(Z=2*R+1∧Z*Z < 4*n)):=by
  obtain ⟨a0,a1,a2⟩:=h
  obtain ⟨b0,b1,b2⟩:=k
  have e1:(2*R)*(2*R)=4*(R*R):=by rw [Int.mul_assoc,← Int.mul_assoc R 2 R,Int.mul_comm R 2,Int.mul_assoc 2 R R]; omega
  have e2:(2*R+2)*(2*R+2)=4*((R+1)*(R+1)):=by
    rw [show 2*R+2=2*(R+1) by omega,Int.mul_assoc,← Int.mul_assoc (R+1) 2 (R+1),Int.mul_comm (R+1) 2,Int.mul_assoc 2 (R+1) (R+1)]; omega
  have e3:(2*R+1)*(2*R+1)=4*(R*R)+4*R+1:=by
    rw [Int.add_mul,Int.mul_add,e1]; omega
  have l1:2*R < Z+1:=lt_of_sq (by omega) (by omega)
  have l2:Z < 2*R+2:=lt_of_sq (by omega) (by omega)
  have hz:Z=2*R∨Z=2*R+1:=by omega
  refine ⟨hz,fun hn=>?_,fun hn=>?_⟩
  · rcases hz with rfl | rfl
    · exact ⟨rfl,by omega⟩
    · omega
  · rcases hz with rfl | rfl
    · exact .inl ⟨rfl,by omega⟩
    · exact .inr ⟨rfl,by omega⟩
theorem divV_0 {a b:Int} (ha:0≤a) (hb:0 < b):divV a b 0=a / b:=by
  unfold divV
  rw [Int.tdiv_eq_ediv_of_nonneg ha,Int.tmod_eq_emod_of_nonneg ha,if_neg,if_neg]
  · simp
  · have:=Int.emod_nonneg a (Int.ne_of_gt hb)
    simp
    omega
theorem divV_1 {a b:Int} (ha:0≤a) (hb:0 < b):divV a b 1=if 0 < a % b then a / b+1 else a / b:=by
  unfold divV
  rw [Int.tdiv_eq_ediv_of_nonneg ha,Int.tmod_eq_emod_of_nonneg ha,if_neg (by simp)]
  by_cases h:0 < a % b
  · rw [if_pos h,if_pos (by simp [h])]
  · rw [if_neg h,if_neg (by simp [h])]
def wslewV (n m R:Int):Int:=if (m==1&&decide (R*R < n))=true then R.tdiv 500+1 else divV R 500 m
def upV (N m Z:Int):Int:=if (m==1&&decide (Z*Z < N))=true then Z+1 else Z
theorem wslew_eq {n R Z m:Int} (h:Root n R) (k:Root (4*n) Z) (hm:m=0∨m=1):wslewV n m R=divV (upV (4*n) m Z) 1000 m:=by
  obtain ⟨h1,h2,h3⟩:=root_four h k
  have hR:=h.1
  have hR2:=h.2.1
  unfold wslewV upV
  rcases hm with rfl | rfl
  · rw [if_neg (by simp),if_neg (by simp),divV_0 hR (by decide),divV_0 k.1 (by decide)]
    omega
  · by_cases hq:R*R < n
    · rw [if_pos (by simp [hq]),Int.tdiv_eq_ediv_of_nonneg hR]
      rcases h3 hq with ⟨e,hz⟩ | ⟨e,hz⟩
      · rw [if_pos (by simp [hz]),divV_1 (by omega) (by decide),e]
        split <;> omega
      · rw [if_pos (by simp [hz]),divV_1 (by omega) (by decide),e]
        split <;> omega
    · obtain ⟨e,hz⟩:=h2 (by omega)
      rw [if_neg (by simp [hq]),if_neg (by simp [hz]),divV_1 hR (by decide),divV_1 k.1 (by decide),e]
      split <;> split <;> omega
end Go.Proofs.Xd
end
section
/- Slews and delays of links: the program's way and the reference's way. -/
namespace Go.Proofs.YticmgmebjmblgaaGreatDoor
open Go Go.Proofs Go.Proofs.Sv Go.Proofs.Xv Go.Proofs.Xl Go.Proofs.Xd
theorem tdiv_two {q r:Int} (h:0≤q) (hr:r=0∨r=1):(2*q+r).tdiv 2=q∧((2*q+r).tmod 2=0∨(2*q+r).tmod 2=1):=by
  rw [Int.tdiv_eq_ediv_of_nonneg (by omega),Int.tmod_eq_emod_of_nonneg (by omega)]
  omega
structure LinkC (b:Y45) (l:DLink) (a:DArc) (n:Nat):Prop where
  kind:l.2.2.1=1
  pix:ix (l.2.1.tdiv 2) (plcs b.2.1).length
  plt:(l.2.1.tdiv 2).toNat < (plcs b.2.1).length
  iix:ix (plcOf b.2.1 (l.2.1.tdiv 2).toNat).1 b.2.1.1.length
  cix:ix (insOf b.2.1 (plcOf b.2.1 (l.2.1.tdiv 2).toNat).1.toNat).2.1 b.1.length
  aix:ix l.2.2.2 (b.1.getD (insOf b.2.1 (plcOf b.2.1 (l.2.1.tdiv 2).toNat).1.toNat).2.1.toNat (dflt y145)).2.2.2.1.length
  arc:(b.1.getD (insOf b.2.1 (plcOf b.2.1 (l.2.1.tdiv 2).toNat).1.toNat).2.1.toNat (dflt y145)).2.2.2.1.getD l.2.2.2.toNat (dflt y102)=a
  net:(plcOf b.2.1 (l.2.1.tdiv 2).toNat).2.2.1=(n:Int)
  nlt:n < b.2.2.length
  trs:l.2.1.tmod 2=0∨l.2.1.tmod 2=1
  del:areTables a.2.2.2.2.1 true=true
  slw:areTables a.2.2.2.2.2 true=true
structure LinkW (b:Y45) (l:DLink) (n k:Nat):Prop where
  kind:l.2.2.1=2
  pix:ix (l.2.1.tdiv 2) (plcs b.2.1).length
  plt:(l.2.1.tdiv 2).toNat < (plcs b.2.1).length
  net:(plcOf b.2.1 (l.2.1.tdiv 2).toNat).2.2.1=(n:Int)
  nlt:n < b.2.2.length
  idx:l.2.2.2=(k:Int)
  klt:k < (sinksV b.2.1 n).length
theorem trans_at {k s:Int} {t:Nat} (h:t < (transV k s).length):(((transV k s).getD t (0,0)).2=0∨((transV k s).getD t (0,0)).2=1):=by
  have:=(transV_ok k s).2 _ (getD_mem (d:=(0,0)) h)
  omega
theorem link_facts {b:Y45} (hb:blockOk b=true) {l:DLink} (h:l∈linksV b):(∃ a n,LinkC b l a n)∨∃ n k,LinkW b l n k:=by
  obtain ⟨hd,hlen,_⟩:=block_design hb
  have df:=df_of hd
  rcases link_is h with ⟨i,j,t,hi,hj,ht,rfl⟩ | ⟨i,k,t,hi,hk,ht,rfl⟩
  · obtain ⟨x1,x2,x3⟩:=inst_cell' df hi
    obtain ⟨c1,c2,c3,c4⟩:=cell_arcs x2
    obtain ⟨a1,a2,a3,a4⟩:=c4 j hj
    obtain ⟨B,hB⟩:∃ B:Nat,(arcOf (celI b i) j).2.2.1=(B:Int):=⟨(arcOf (celI b i) j).2.2.1.toNat,by omega⟩
    have hBn:B < (insOf b.2.1 i).2.2.length:=by omega
    have lB:offs (insOf b.2.1) i+B < (plcs b.2.1).length:=by
      have:=offs_lt (insOf b.2.1) hi hBn
      unfold plcs
      rw [places_len]; omega
    have hp:=places_inst b.2.1.1.length b.2.1.2.2.length (insOf b.2.1) (prtOf b.2.1) (dflt y159) hi hBn
    have hp:plcOf b.2.1 (offs (insOf b.2.1) i+B)=((i:Int),(B:Int),(insOf b.2.1 i).2.2.getD B 0,(B:Int)==((insOf b.2.1 i).2.2.length:Int) - 1):=hp
    have hn:=inB_iff.1 (df.fac.net.1 i hi B hBn)
    obtain ⟨n,hn'⟩:∃ n:Nat,(insOf b.2.1 i).2.2.getD B 0=(n:Int):=⟨((insOf b.2.1 i).2.2.getD B 0).toNat,by omega⟩
    have hk3:(arcOf (celI b i) j).1≤3:=by have:=trans_kind (Nat.lt_of_le_of_lt (Nat.zero_le _) ht); omega
    obtain ⟨_,k2,k3⟩:=arc_comb (arc_facts x2 hj) hk3
    have etd:=tdiv_two (q:=((offs (insOf b.2.1) i+B:Nat):Int)) (Int.natCast_nonneg _) (trans_at ht)
    have el:(cLink (offs (insOf b.2.1) i:Int) (arcOf (celI b i) j) j t).2.1=2*((offs (insOf b.2.1) i+B:Nat):Int)+((transV (arcOf (celI b i) j).1 (arcOf (celI b i) j).2.2.2.1).getD t (0,0)).2:=by
      show 2*((offs (insOf b.2.1) i:Int)+(arcOf (celI b i) j).2.2.1)+_=_
      rw [hB,Int.natCast_add]
    refine .inl ⟨arcOf (celI b i) j,n,?_⟩
    have e1:((cLink (offs (insOf b.2.1) i:Int) (arcOf (celI b i) j) j t).2.1.tdiv 2)=((offs (insOf b.2.1) i+B:Nat):Int):=by rw [el]; exact etd.1
    have e2:((offs (insOf b.2.1) i+B:Nat):Int).toNat=offs (insOf b.2.1) i+B:=rfl
    refine ⟨rfl,?_,?_,?_,?_,?_,?_,?_,by omega,by rw [el]; exact etd.2,k2,k3⟩
    · rw [e1]; exact ⟨by omega,by omega⟩
    · rw [e1,e2]; exact lB
    · rw [e1,e2,hp]; exact ⟨Int.natCast_nonneg _,by show (i:Int) < _; omega⟩
    · rw [e1,e2,hp]; exact x1
    · rw [e1,e2,hp]; exact ⟨Int.natCast_nonneg _,by show (j:Int) < ((celI b i).2.2.2.1.length:Int); omega⟩
    · rw [e1,e2,hp]; rfl
    · rw [e1,e2,hp]; exact hn'
  · obtain ⟨q,h1,h2,h3,_⟩:=sinkL_in (plcOf b.2.1) i (plcs b.2.1).length _ (getD_mem (d:=0) hk)
    have h1:(sinksV b.2.1 i).getD k 0=(q:Int):=h1
    have el:(wLink (drvV b i) ((sinksV b.2.1 i).getD k 0) k t).2.1=2*(q:Int)+(t:Int):=by
      show 2*(sinksV b.2.1 i).getD k 0+_=_
      rw [h1]
    have etd:=tdiv_two (q:=(q:Int)) (r:=(t:Int)) (Int.natCast_nonneg _) (by omega)
    have e1:((wLink (drvV b i) ((sinksV b.2.1 i).getD k 0) k t).2.1.tdiv 2)=(q:Int):=by rw [el]; exact etd.1
    have e2:((q:Int)).toNat=q:=rfl
    refine .inr ⟨i,k,rfl,?_,?_,?_,hi,rfl,hk⟩
    · rw [e1]; exact ⟨by omega,by omega⟩
    · rw [e1,e2]; exact h2
    · rw [e1,e2]; exact h3
theorem tables_at {l:List DTbl} {p:Bool} (h:areTables l p=true) {x:Int} (hx:x=0∨x=1):ix x l.length∧isTable (l.getD x.toNat (dflt y106))=true:=by
  unfold areTables at h
  rw [Bool.and_eq_true,decide_eq_true_eq] at h
  have hlt:x.toNat < l.length:=by omega
  refine ⟨⟨by omega,by omega⟩,?_⟩
  have:=List.all_eq_true.1 h.2 _ (getD_mem (d:=dflt y106) hlt)
  rw [Bool.and_eq_true] at this
  exact this.1
section
variable {b:Y45}
theorem r58 {l:DLink} {a:DArc} {n:Nat} (h:LinkC b l a n):u58 (viewV b) l=some a:=by
  unfold u58
  refine (gd_pos ⟨by decide,h.pix,h.iix,trivial⟩).trans ?_
  rw [lt_eq]
  refine (gd_pos ⟨h.cix,h.aix,trivial⟩).trans ?_
  rw [lt_eq]
  exact congrArg some h.arc
theorem r100 {l:DLink} {n:Nat} (h1:ix (l.2.1.tdiv 2) (plcs b.2.1).length) (h2:(plcOf b.2.1 (l.2.1.tdiv 2).toNat).2.2.1=(n:Int)):u100 (viewV b) l=some (n:Int):=by
  unfold u100
  refine (gd_pos ⟨by decide,h1,trivial⟩).trans ?_
  rw [lt_eq]
  exact congrArg some h2
theorem r57 (hw:wf y45 b) (hb:blockOk b=true) {l:DLink} {a:DArc} {n:Nat} (h:LinkC b l a n):u57 b l=some (a,(loadsV b n).getD 0 0):=by
  have df:=df_of (block_design hb).1
  have no:=net_ok hb h.nlt
  have n1:=no.wf.n1
  have ll:=no.loads.1
  unfold u57
  rw [r117 b.2.1 hw.2.1 df.fac.ni14 df.fac.np8 df.pin,vl_some,gd_pos ⟨rfl,by decide,h.pix,h.plt,trivial⟩,lt_eq]
  show gd (ix (plcOf b.2.1 (l.2.1.tdiv 2).toNat).1 b.2.1.1.length∧ix (insOf b.2.1 (plcOf b.2.1 (l.2.1.tdiv 2).toNat).1.toNat).2.1 b.1.length∧ix l.2.2.2 (b.1.getD (insOf b.2.1 (plcOf b.2.1 (l.2.1.tdiv 2).toNat).1.toNat).2.1.toNat (dflt y145)).2.2.2.1.length∧(u118 b (plcOf b.2.1 (l.2.1.tdiv 2).toNat).2.2.1).isSome=true∧ix (0:Int) (vl (u118 b (plcOf b.2.1 (l.2.1.tdiv 2).toNat).2.2.1)).length∧Int.toNat (0:Int) < (vl (u118 b (plcOf b.2.1 (l.2.1.tdiv 2).toNat).2.2.1)).length∧True) (lt (vl (u118 b (plcOf b.2.1 (l.2.1.tdiv 2).toNat).2.2.1),(b.1.getD (insOf b.2.1 (plcOf b.2.1 (l.2.1.tdiv 2).toNat).1.toNat).2.1.toNat (dflt y145)).2.2.2.1.getD l.2.2.2.toNat (dflt y102)) fun x=>match x with | (v2,v3)=>some (v3,v2.getD (Int.toNat (0:Int)) (0:Int)))=_
  rw [h.net,r118 b hw no,vl_some,gd_pos ⟨h.iix,h.cix,h.aix,rfl,⟨by decide,by omega⟩,by show 0 < _; omega,trivial⟩,lt_eq,h.arc]
  rfl
theorem r81 (hw:wf y45 b) (hb:blockOk b=true) {l:DLink} {n k:Nat} (h:LinkW b l n k):u81 b l=some (n:Int):=by
  have df:=df_of (block_design hb).1
  unfold u81
  rw [r117 b.2.1 hw.2.1 df.fac.ni14 df.fac.np8 df.pin,vl_some,gd_pos ⟨rfl,by decide,h.pix,h.plt,trivial⟩,lt_eq]
  exact congrArg some h.net
end
/-! ### Roots -/
theorem r154 {n:Int} (h0:0≤n) (h1:n≤1000000000000000000):∃ r,Root n r∧r≤3000000000∧u154 n=some r:=by
  unfold u154
  refine lp_root (J:=fun r=>some r) (n:=n) (H:=3000000000) h0 (by omega) (by decide) (by decide) (fun g s s0 s1 s2=>?_)
  obtain ⟨lo,hi⟩:=s
  have s0:0≤lo:=s0
  have s1:lo≤hi:=s1
  have s2:hi≤3000000000:=s2
  show u154L1 n g (lo,hi)=if decide (lo < hi)=true then g (halfN n (lo,hi)) else some lo
  rw [u154L1]
  by_cases hc:lo < hi
  · obtain ⟨m1,m2,m3⟩:=mid_up s0 hc
    have hm:=mul_bd (A:=3000000000) (B:=3000000000) (x:=(lo+hi+1).tdiv 2) (y:=(lo+hi+1).tdiv 2) (by omega) (by omega) (by omega) (by omega) (by decide)
    rw [if_pos (decide_eq_true hc),if_pos (decide_eq_true hc),gd_pos ⟨⟨by omega,by omega⟩,⟨by omega,by omega⟩,by decide,trivial⟩,gd_pos ⟨⟨by omega,by omega⟩,trivial⟩]
    unfold halfN
    show (if _ then _ else _)=g (if decide ((lo+hi+1).tdiv 2*(lo+hi+1).tdiv 2≤n)=true then ((lo+hi+1).tdiv 2,hi) else (lo,(lo+hi+1).tdiv 2 - 1))
    split
    · rfl
    · exact gd_pos ⟨⟨by omega,by omega⟩,trivial⟩
  · rw [if_neg (by simpa using hc),if_neg (by simpa using hc)]
    rfl
theorem r136 {n m:Int} (h0:0≤n) (h1:n≤2000000000000000000) (hm:m=0∨m=1):∃ r,Root n r∧r≤2000000000∧u136 n m=some (upV n m r):=by
  unfold u136
  obtain ⟨r,hr,hr2,he⟩:=lp_root (J:=fun r=>u136J0 m n r) (F:=u136L1 n m) (n:=n) (H:=2000000000) h0 (by omega) (by decide) (by decide) (fun g s s0 s1 s2=>by
    obtain ⟨lo,hi⟩:=s
    have s0:0≤lo:=s0
    have s1:lo≤hi:=s1
    have s2:hi≤2000000000:=s2
    show u136L1 n m g (lo,hi)=if decide (lo < hi)=true then g (halfN n (lo,hi)) else u136J0 m n lo
    rw [u136L1]
    by_cases hc:lo < hi
    · obtain ⟨m1,m2,m3⟩:=mid_up s0 hc
      have hm:=mul_bd (A:=3000000000) (B:=3000000000) (x:=(lo+hi+1).tdiv 2) (y:=(lo+hi+1).tdiv 2) (by omega) (by omega) (by omega) (by omega) (by decide)
      rw [if_pos (decide_eq_true hc),if_pos (decide_eq_true hc),gd_pos ⟨⟨by omega,by omega⟩,⟨by omega,by omega⟩,by decide,trivial⟩,gd_pos ⟨⟨by omega,by omega⟩,trivial⟩]
      unfold halfN
      show (if _ then _ else _)=g (if decide ((lo+hi+1).tdiv 2*(lo+hi+1).tdiv 2≤n)=true then ((lo+hi+1).tdiv 2,hi) else (lo,(lo+hi+1).tdiv 2 - 1))
      split
      · rfl
      · exact gd_pos ⟨⟨by omega,by omega⟩,trivial⟩
    · rw [if_neg (by simpa using hc),if_neg (by simpa using hc)])
  refine ⟨r,hr,hr2,he.trans ?_⟩
  have hr0:=hr.1
  have hm2:=mul_bd (A:=2000000000) (B:=2000000000) (x:=r) (y:=r) (by omega) (by omega) (by omega) (by omega) (by decide)
  rw [u136J0,gd_pos ⟨(fun _=>⟨by omega,by omega⟩),trivial⟩]
  unfold upV
  split
  · rw [gd_pos ⟨⟨by omega,by omega⟩,trivial⟩]; rfl
  · rfl
theorem sq_forms (s d:Int):500*s*500*s=250000*(s*s)∧1000000*s*s=1000000*(s*s)∧4*d*d=4*(d*d):=by
  refine ⟨?_,Int.mul_assoc _ _ _,Int.mul_assoc _ _ _⟩
  rw [Int.mul_assoc (500*s) 500 s,Int.mul_assoc 500 s,← Int.mul_assoc s 500 s,Int.mul_comm s 500,Int.mul_assoc 500 s s]
  omega
theorem r1022 {s d m:Int} (s0:0≤s) (s1:s≤1000000) (d0:0≤d) (d1:d≤301000000) (hm:m=0∨m=1):∃ r z,u102 s d m=some r∧u136 (1000000*s*s+4*d*d) m=some z∧u110 z 1000 m=some r∧0≤r∧r≤3000000001:=by
  obtain ⟨f1,f2,f3⟩:=sq_forms s d
  have hs:=mul_bd (A:=1000000) (B:=1000000) (x:=s) (y:=s) (by omega) (by omega) (by omega) (by omega) (by decide)
  have hd:=mul_bd (A:=301000000) (B:=301000000) (x:=d) (y:=d) (by omega) (by omega) (by omega) (by omega) (by decide)
  have hs0:0≤s*s:=Int.mul_nonneg s0 s0
  have hd0:0≤d*d:=Int.mul_nonneg d0 d0
  obtain ⟨R,hR,hR2,eR⟩:=r154 (n:=250000*(s*s)+d*d) (by omega) (by omega)
  obtain ⟨Z,hZ,hZ2,eZ⟩:=r136 (n:=4*(250000*(s*s)+d*d)) (m:=m) (by omega) (by omega) hm
  have hR0:=hR.1
  have hZ0:=hZ.1
  have ew:=wslew_eq hR hZ hm
  have e4:1000000*s*s+4*d*d=4*(250000*(s*s)+d*d):=by omega
  have hup:0≤upV (4*(250000*(s*s)+d*d)) m Z∧upV (4*(250000*(s*s)+d*d)) m Z≤3000000000:=by
    unfold upV
    split <;> omega
  have hdv:=divV_bd (a:=upV (4*(250000*(s*s)+d*d)) m Z) (b:=1000) (K:=3000000) m (by decide) (by omega) (by omega)
  have hR3:=mul_bd (A:=3000000000) (B:=3000000000) (x:=R) (y:=R) (by omega) (by omega) (by omega) (by omega) (by decide)
  have hpos:0≤wslewV (250000*(s*s)+d*d) m R:=by
    unfold wslewV
    rcases hm with rfl | rfl
    · rw [if_neg (by simp),divV_0 hR0 (by decide)]; omega
    · split
      · rw [Int.tdiv_eq_ediv_of_nonneg hR0]; omega
      · rw [divV_1 hR0 (by decide)]; split <;> omega
  refine ⟨wslewV (250000*(s*s)+d*d) m R,upV (4*(250000*(s*s)+d*d)) m Z,?_,by rw [e4]; exact eZ,?_,hpos,by omega⟩
  · unfold u102
    rw [f1,eR,vl_some,gd_pos ⟨⟨by omega,by omega⟩,⟨by omega,by omega⟩,⟨by omega,by omega⟩,⟨by omega,by omega⟩,⟨by omega,by omega⟩,trivial⟩,gd_pos ⟨rfl,trivial⟩,lt_eq,gd_pos ⟨(fun _=>⟨by omega,by omega⟩),trivial⟩]
    unfold wslewV
    split
    · have:R.tdiv 500=R / 500:=Int.tdiv_eq_ediv_of_nonneg hR0
      exact gd_pos ⟨by decide,⟨by omega,by omega⟩,trivial⟩
    · rw [(r1142 R 500 m (by omega) (by omega) (by decide)).1,vl_some,gd_pos ⟨rfl,trivial⟩,lt_eq]
  · rw [ew]
    exact (r1142 _ 1000 m (by omega) (by omega) (by decide)).2
end Go.Proofs.YticmgmebjmblgaaGreatDoor
end
section
/- Slews and delays of links: both ways say the same. -/
namespace Go.Proofs.YticmgmebjmblgaaGreatDoor
open Go Go.Proofs Go.Proofs.Sv Go.Proofs.Xv Go.Proofs.Xl Go.Proofs.Xd
section
variable {b:Y45}
theorem load_at (b:Y45) {n:Nat} (h:n < b.2.2.length):(viewV b).2.2.2.1.getD ((n:Int)).toNat 0=(loadsV b n).getD 0 0∧ix (n:Int) (viewV b).2.2.2.1.length:=by
  have h1:(viewV b).2.2.2.1.length=b.2.2.length:=appF_len _ _
  exact ⟨appF_get _ 0 _ n h,⟨by omega,by omega⟩⟩
theorem dels_at (b:Y45) {n:Nat} (h:n < b.2.2.length):(viewV b).2.2.2.2.1.getD ((n:Int)).toNat []=exactV b n∧ix (n:Int) (viewV b).2.2.2.2.1.length:=by
  have h1:(viewV b).2.2.2.2.1.length=b.2.2.length:=appF_len _ _
  exact ⟨appF_get _ [] _ n h,⟨by omega,by omega⟩⟩
theorem r48W (hw:wf y45 b) (hb:blockOk b=true) {n k:Nat} (hn:n < b.2.2.length) (hk:k < (sinksV b.2.1 n).length) {s m:Int} (s0:0≤s) (s1:s≤1000000) (hm:m=0∨m=1) :
    ∃ r,u102 s ((exactV b n).getD k 0) m=some r∧u80 b (n:Int) (k:Int) s m=some r∧0≤r:=by
  have no:=net_ok hb hn
  obtain ⟨dl,db⟩:=no.delays
  have hd:=db (nodeS b n k).toNat
  have hsn:=no.sn
  have h1:=no.wf.snkIn k (by omega)
  obtain ⟨f1,f2,f3⟩:=sq_forms s ((delaysV b n).getD (nodeS b n k).toNat 0)
  have hs:=mul_bd (A:=1000000) (B:=1000000) (x:=s) (y:=s) (by omega) (by omega) (by omega) (by omega) (by decide)
  have hdd:=mul_bd (A:=301000000) (B:=301000000) (x:=(delaysV b n).getD (nodeS b n k).toNat 0) (y:=(delaysV b n).getD (nodeS b n k).toNat 0) (by omega) (by omega) (by omega) (by omega) (by decide)
  have hs0:0≤s*s:=Int.mul_nonneg s0 s0
  have hd0:0≤(delaysV b n).getD (nodeS b n k).toNat 0*(delaysV b n).getD (nodeS b n k).toNat 0:=Int.mul_nonneg hd.1 hd.1
  obtain ⟨r,z,w1,w2,w3,w4,_⟩:=r1022 s0 s1 hd.1 hd.2 hm
  refine ⟨r,by rw [exact_get hk]; exact w1,?_,w4⟩
  have e3:((n:Int)).toNat=n:=rfl
  have e4:((k:Int)).toNat=k:=rfl
  have h1':0≤(b.2.2.getD n (dflt y137)).2.2.2.getD k 0∧((b.2.2.getD n (dflt y137)).2.2.2.getD k 0).toNat < (delaysV b n).length:=by rw [dl]; exact h1
  have hk':k < (b.2.2.getD n (dflt y137)).2.2.2.length:=by
    show k < (wirOf b n).2.2.2.length
    omega
  unfold u80
  rw [r135 b hw no,vl_some,e3,e4,gd_pos ⟨rfl,⟨by omega,by omega⟩,⟨by omega,by omega⟩,⟨h1'.1,by omega⟩,h1'.2,trivial⟩,lt_eq]
  show gd (in64 (1000000*s)∧in64 (1000000*s*s)∧in64 (4*(delaysV b n).getD (nodeS b n k).toNat 0)∧in64 (4*(delaysV b n).getD (nodeS b n k).toNat 0*(delaysV b n).getD (nodeS b n k).toNat 0)∧in64 (1000000*s*s+4*(delaysV b n).getD (nodeS b n k).toNat 0*(delaysV b n).getD (nodeS b n k).toNat 0)∧(u136 (1000000*s*s+4*(delaysV b n).getD (nodeS b n k).toNat 0*(delaysV b n).getD (nodeS b n k).toNat 0) m).isSome=true∧(u110 (vl (u136 (1000000*s*s+4*(delaysV b n).getD (nodeS b n k).toNat 0*(delaysV b n).getD (nodeS b n k).toNat 0) m)) 1000 m).isSome=true∧True) (lt (vl (u110 (vl (u136 (1000000*s*s+4*(delaysV b n).getD (nodeS b n k).toNat 0*(delaysV b n).getD (nodeS b n k).toNat 0) m)) 1000 m)) fun v2=>some v2)=_
  rw [w2,vl_some,w3,vl_some,gd_pos ⟨⟨by omega,by omega⟩,⟨by omega,by omega⟩,⟨by omega,by omega⟩,⟨by omega,by omega⟩,⟨by omega,by omega⟩,rfl,rfl,trivial⟩,lt_eq]
theorem r482 (hw:wf y45 b) (hb:blockOk b=true) {q:Int} (hq:inB q 0 (((linksV b).length:Int) - 1)=true) {s m:Int} (s0:0≤s) (s1:s≤1000000) (hm:m=0∨m=1) :
    ∃ r,u48 (viewV b) q s m=some r∧u38 b ((linksV b).getD q.toNat (dflt y83)) s m=some r∧r≤1000000:=by
  have hq:=inB_iff.1 hq
  have hqx:ix q (viewV b).2.2.1.length:=⟨hq.1,by show q < ((linksV b).length:Int); omega⟩
  generalize hl:(linksV b).getD q.toNat (dflt y83)=l
  have hl':(viewV b).2.2.1.getD q.toNat (dflt y83)=l:=hl
  have hmem:l∈linksV b:=by rw [← hl]; exact getD_mem (by omega)
  rcases link_facts hb hmem with ⟨a,n,h⟩ | ⟨n,k,h⟩
  · obtain ⟨t1,t2⟩:=tables_at h.slw h.trs
    obtain ⟨r,l1,l2,l3,l4⟩:=r1012 t2 s ((loadsV b n).getD 0 0) m
    obtain ⟨g1,g2⟩:=load_at b h.nlt
    refine ⟨r,?_,?_,l4⟩
    · unfold u48
      refine (gd_pos ⟨hqx,trivial⟩).trans ?_
      rw [lt_eq,hl',r100 h.pix h.net,vl_some,gd_pos ⟨rfl,trivial⟩,lt_eq]
      refine (if_pos (by rw [h.kind]; rfl)).trans ?_
      rw [r58 h,vl_some,g1,l1,vl_some]
      refine (gd_pos ⟨rfl,by decide,t1,g2,rfl,trivial⟩).trans ?_
      rw [lt_eq]
      have:min r 1000000=r:=by omega
      rw [this]
    · unfold u38
      refine (if_pos (by rw [h.kind]; rfl)).trans ?_
      rw [r57 hw hb h,vl_some,gd_pos ⟨rfl,trivial⟩,lt_eq]
      show gd (_∧ix (l.2.1.tmod 2) a.2.2.2.2.2.length∧(u79 (a.2.2.2.2.2.getD (l.2.1.tmod 2).toNat (dflt y106)) s ((loadsV b n).getD 0 0) m).isSome=true∧True) (lt (vl (u79 (a.2.2.2.2.2.getD (l.2.1.tmod 2).toNat (dflt y106)) s ((loadsV b n).getD 0 0) m)) fun v1=>some v1)=_
      rw [l2,vl_some,gd_pos ⟨by decide,t1,rfl,trivial⟩,lt_eq]
  · obtain ⟨r,w1,w2,w3⟩:=r48W hw hb h.nlt h.klt s0 s1 hm
    obtain ⟨g1,g2⟩:=dels_at b h.nlt
    have hel:=exact_len b n
    have hkl:=h.klt
    refine ⟨min r 1000000,?_,?_,by omega⟩
    · unfold u48
      refine (gd_pos ⟨hqx,trivial⟩).trans ?_
      rw [lt_eq,hl',r100 h.pix h.net,vl_some,gd_pos ⟨rfl,trivial⟩,lt_eq]
      refine (if_neg (by rw [h.kind]; decide)).trans ?_
      rw [g1,h.idx]
      have e4:((k:Int)).toNat=k:=rfl
      rw [e4,w1,vl_some]
      refine (gd_pos ⟨g2,⟨by omega,by omega⟩,rfl,trivial⟩).trans ?_
      rw [lt_eq]
    · unfold u38
      refine (if_neg (by rw [h.kind]; decide)).trans ?_
      rw [r81 hw hb h,vl_some,h.idx,w2,vl_some,gd_pos ⟨rfl,rfl,trivial⟩,lt_eq,Int.min_comm]
/-! ### Delays -/
def facV (c:Y53) (k m:Int):Int:=if (k==1)=true then (if (m==0)=true then c.2.1 else c.2.2.1) else (if (m==0)=true then c.2.2.2.1 else c.2.2.2.2)
theorem r116 (c:Y53) (k m:Int):u116 c k m=some (facV c k m):=by
  unfold u116 facV
  by_cases h1:(k==1)=true
  · rw [if_pos h1]
    by_cases h2:(m==0)=true
    · rw [if_pos (by rw [h1,h2]; rfl),if_pos h2,if_pos h1]
    · rw [if_neg (by rw [h1,Bool.true_and]; exact h2),if_pos h1,if_neg h2]
  · rw [if_neg h1,if_neg (by rw [Bool.and_eq_true]; exact fun h=>h1 h.1),if_neg h1]
    by_cases h2:(m==0)=true
    · rw [if_pos h2,if_pos h2]
    · rw [if_neg h2,if_neg h2]
theorem r111 (c:Y53) (k m:Int):u111 c k m=some (facV c k m):=by
  unfold u111 facV
  by_cases h1:(k==1)=true
  · rw [if_pos h1,if_pos h1]
    by_cases h2:(m==0)=true
    · rw [if_pos h2,if_pos h2]
    · rw [if_neg h2,if_neg h2]
  · rw [if_neg h1,if_neg h1]
    by_cases h2:(m==0)=true
    · rw [if_pos h2,if_pos h2]
    · rw [if_neg h2,if_neg h2]
def cornerB (c:Y53):Bool:=nmB c.1&&(decide (100≤c.2.1)&&decide (c.2.1≤c.2.2.1)&&decide (c.2.2.1≤5000))&&(decide (100≤c.2.2.2.1)&&decide (c.2.2.2.1≤c.2.2.2.2)&&decide (c.2.2.2.2≤5000))
theorem fac_bd {c:Y53} (h:cornerB c=true) (k m:Int):0≤facV c k m∧facV c k m≤5000:=by
  unfold cornerB at h
  simp only [Bool.and_eq_true,decide_eq_true_eq] at h
  unfold facV
  split <;> split <;> omega
theorem r55ay2 (hw:wf y45 b) (hb:blockOk b=true) {c:Y53} (hc:cornerB c=true) {q:Int} (hq:inB q 0 (((linksV b).length:Int) - 1)=true) (s m:Int) :
    ∃ r,u55 (viewV b) c q s m=some r∧u53 b c ((linksV b).getD q.toNat (dflt y83)) s m=some r ∧ -6000000≤r∧r≤6000000:=by
  have hq:=inB_iff.1 hq
  have hqx:ix q (viewV b).2.2.1.length:=⟨hq.1,by show q < ((linksV b).length:Int); omega⟩
  generalize hl:(linksV b).getD q.toNat (dflt y83)=l
  have hl':(viewV b).2.2.1.getD q.toNat (dflt y83)=l:=hl
  have hmem:l∈linksV b:=by rw [← hl]; exact getD_mem (by omega)
  have hf:=fac_bd hc l.2.2.1 m
  have tail:∀ p:Int,-1000000≤p→p≤1000000→u55J0 c l m p=some (divV (p*facV c l.2.2.1 m) 1000 m)∧u53J0 c l m p=some (divV (p*facV c l.2.2.1 m) 1000 m) ∧ -6000000≤divV (p*facV c l.2.2.1 m) 1000 m∧divV (p*facV c l.2.2.1 m) 1000 m≤6000000:=fun p p0 p1=>by
    have hp:=mul_bd (A:=1000000) (B:=5000) (x:=p) (y:=facV c l.2.2.1 m) (by omega) (by omega) (by omega) (by omega) (by decide)
    have hd:=r1142 (p*facV c l.2.2.1 m) 1000 m (by omega) (by omega) (by decide)
    have hv:=divV_bd (a:=p*facV c l.2.2.1 m) (b:=1000) (K:=6000000) m (by decide) (by omega) (by omega)
    have hsc:u115 p (facV c l.2.2.1 m) m=some (divV (p*facV c l.2.2.1 m) 1000 m):=by
      unfold u115
      rw [hd.1,vl_some,gd_pos ⟨⟨by omega,by omega⟩,rfl,trivial⟩,lt_eq]
    refine ⟨?_,?_,hv⟩
    · rw [u55J0,r116,vl_some,hsc,vl_some,gd_pos ⟨rfl,rfl,trivial⟩,lt_eq]
    · rw [u53J0,r111,vl_some,hd.2,vl_some,gd_pos ⟨rfl,⟨by omega,by omega⟩,rfl,trivial⟩,lt_eq]
  rcases link_facts hb hmem with ⟨a,n,h⟩ | ⟨n,k,h⟩
  · obtain ⟨t1,t2⟩:=tables_at h.del h.trs
    obtain ⟨r,l1,l2,l3,l4⟩:=r1012 t2 s ((loadsV b n).getD 0 0) m
    obtain ⟨g1,g2⟩:=load_at b h.nlt
    obtain ⟨d1,d2,d3⟩:=tail r l3 l4
    refine ⟨_,?_,?_,d3⟩
    · unfold u55
      refine (gd_pos ⟨hqx,trivial⟩).trans ?_
      rw [lt_eq,hl',r100 h.pix h.net,vl_some,gd_pos ⟨rfl,trivial⟩,lt_eq]
      refine (if_pos (by rw [h.kind]; rfl)).trans ?_
      rw [r58 h,vl_some,g1,l1,vl_some]
      refine (gd_pos ⟨rfl,by decide,t1,g2,rfl,trivial⟩).trans ?_
      rw [lt_eq]
      exact d1
    · unfold u53
      refine (if_pos (by rw [h.kind]; rfl)).trans ?_
      rw [r57 hw hb h,vl_some,gd_pos ⟨rfl,trivial⟩,lt_eq]
      show gd (_∧ix (l.2.1.tmod 2) a.2.2.2.2.1.length∧(u79 (a.2.2.2.2.1.getD (l.2.1.tmod 2).toNat (dflt y106)) s ((loadsV b n).getD 0 0) m).isSome=true∧True) (lt (vl (u79 (a.2.2.2.2.1.getD (l.2.1.tmod 2).toNat (dflt y106)) s ((loadsV b n).getD 0 0) m)) fun v1=>u53J0 c l m v1)=_
      rw [l2,vl_some,gd_pos ⟨by decide,t1,rfl,trivial⟩,lt_eq]
      exact d2
  · have no:=net_ok hb h.nlt
    obtain ⟨dl,db⟩:=no.delays
    have hd:=db (nodeS b n k).toNat
    obtain ⟨g1,g2⟩:=dels_at b h.nlt
    have hel:=exact_len b n
    have hkl:=h.klt
    have hsl:=sdelV_len b n m
    have e4:((k:Int)).toNat=k:=rfl
    have hv:=divV_bd (a:=(delaysV b n).getD (nodeS b n k).toNat 0) (b:=1000) (K:=301000) m (by decide) (by omega) (by omega)
    obtain ⟨d1,d2,d3⟩:=tail (divV ((delaysV b n).getD (nodeS b n k).toNat 0) 1000 m) (by omega) (by omega)
    refine ⟨_,?_,?_,d3⟩
    · unfold u55
      refine (gd_pos ⟨hqx,trivial⟩).trans ?_
      rw [lt_eq,hl',r100 h.pix h.net,vl_some,gd_pos ⟨rfl,trivial⟩,lt_eq]
      refine (if_neg (by rw [h.kind]; decide)).trans ?_
      rw [g1,h.idx,e4,exact_get hkl,(r1142 _ 1000 m (by omega) (by omega) (by decide)).1,vl_some]
      refine (gd_pos ⟨g2,⟨by omega,by omega⟩,rfl,trivial⟩).trans ?_
      rw [lt_eq]
      exact d1
    · unfold u53
      refine (if_neg (by rw [h.kind]; decide)).trans ?_
      rw [r81 hw hb h,vl_some,r109 b hw no,vl_some,h.idx,e4,gd_pos ⟨rfl,rfl,⟨by omega,by omega⟩,by omega,trivial⟩,lt_eq,sdelV_get hkl]
      exact d2
/-! ### Requests -/
theorem r45 (hb:blockOk b=true) (q:Int):u45 (viewV b) q=some (inB q 0 (((linksV b).length:Int) - 1)):=by
  have hl:=links_len hb
  have e:u99 (viewV b).2.2.1=some ((linksV b).length:Int):=rfl
  unfold u45
  rw [e,vl_some,r98,vl_some,gd_pos ⟨rfl,⟨by omega,by omega⟩,rfl,trivial⟩]
theorem r46 (s:Int):u46 s=some (inB s 0 1000000):=by
  unfold u46
  rw [r98,vl_some,gd_pos ⟨rfl,trivial⟩]
def modeB (m:Int):Bool:=m==0||m==1
theorem r47 (m:Int):u47 m=some (modeB m):=rfl
theorem r59 (m:Int):u59 m=some (modeB m):=rfl
def codeL (b:Y45) (q s m:Int):Int:=if inB q 0 (((linksV b).length:Int) - 1)=true then (if (inB s 0 1000000&&modeB m)=true then 0 else 2) else 4
theorem r37 (hw:wf y45 b) (hb:blockOk b=true) (q s m:Int):u37 b q s m=some (codeL b q s m):=by
  have hl:=links_len hb
  unfold u37 codeL
  rw [r39 b hw hb,vl_some,r56,gd_pos ⟨rfl,⟨by omega,by omega⟩,rfl,trivial⟩,lt_eq,r56,vl_some]
  cases h1:inB q 0 (((linksV b).length:Int) - 1) with
  | false=>rfl
  | true =>
    refine (if_neg (by simp)).trans ?_
    rw [if_pos rfl,r56,vl_some,r59,vl_some,gd_pos ⟨rfl,(fun _=>rfl),trivial⟩]
    cases inB s 0 1000000 <;> cases modeB m <;> rfl
end
end Go.Proofs.YticmgmebjmblgaaGreatDoor
end
section
/- The slew of a link: the law as a plain function gives true for all data. -/
namespace Go.Proofs.YticmgmebjmblgaaGreatDoor
open Go Go.Proofs Go.Proofs.Sv Go.Proofs.Xv Go.Proofs.Xl Go.Proofs.Xd
theorem mode_is {m:Int} (h:modeB m=true):m=0∨m=1:=by
  unfold modeB at h
  simpa using h
theorem link_ix {b:Y45} {q:Int} (h:inB q 0 (((linksV b).length:Int) - 1)=true):ix q (linksV b).length∧q.toNat < (linksV b).length:=by
  have:=inB_iff.1 h
  exact ⟨⟨by omega,by omega⟩,by omega⟩
def lkF (b:Y45) (q s m r:Int):Int×Int:=if inB q 0 (((linksV b).length:Int) - 1)=true then (if (inB s 0 1000000&&modeB m)=true then (r,0) else (0,2)) else (0,4)
def lsF (b:Y45) (q s m r:Int):Int×Int:=if blockOk b=true then lkF b q s m r else (0,1)
theorem q13 (b:Y45) (hw:wf y45 b) (hm:cnt y45 b≤1048576) (q s m r:Int) (hr:blockOk b=true→inB q 0 (((linksV b).length:Int) - 1)=true→inB s 0 1000000=true→modeB m=true→u48 (viewV b) q s m=some r):u13 b q s m=some (lsF b q s m r):=by
  unfold u13 lsF lkF
  rw [r43 b hw hm,vl_some,gd_pos ⟨rfl,trivial⟩]
  cases hb:blockOk b with
  | false=>rfl
  | true =>
    refine (if_neg (by simp)).trans ?_
    rw [r44 b hw hb,vl_some,gd_pos ⟨rfl,trivial⟩,lt_eq,r45 hb,vl_some,gd_pos ⟨rfl,trivial⟩]
    cases h1:inB q 0 (((linksV b).length:Int) - 1) with
    | false=>rfl
    | true =>
      refine (if_neg (by simp)).trans ?_
      rw [r46,vl_some,r47,vl_some,gd_pos ⟨rfl,(fun _=>rfl),trivial⟩]
      cases h2:inB s 0 1000000 with
      | false=>rfl
      | true =>
        cases h3:modeB m with
        | false=>rfl
        | true =>
          refine (if_neg (by simp)).trans ?_
          rw [hr hb h1 h2 h3,vl_some,gd_pos ⟨rfl,trivial⟩,lt_eq]
          rfl
theorem q11 (b:Y45) (hw:wf y45 b) (hm:cnt y45 b≤1048576) (q s m r:Int) (hr:blockOk b=true→inB q 0 (((linksV b).length:Int) - 1)=true→inB s 0 1000000=true→modeB m=true→u38 b ((linksV b).getD q.toNat (dflt y83)) s m=some r):u11 b q s m=some (lsF b q s m r):=by
  unfold u11 lsF lkF
  rw [r36 b hw hm,vl_some,gd_pos ⟨rfl,trivial⟩]
  cases hb:blockOk b with
  | false=>rfl
  | true =>
    refine (if_neg (by simp)).trans ?_
    rw [r37 hw hb,vl_some,gd_pos ⟨rfl,trivial⟩,lt_eq]
    unfold codeL
    cases h1:inB q 0 (((linksV b).length:Int) - 1) with
    | false=>rfl
    | true =>
      cases h2:inB s 0 1000000 with
      | false=>rfl
      | true =>
        cases h3:modeB m with
        | false=>rfl
        | true =>
          obtain ⟨x1,x2⟩:=link_ix h1
          refine (if_neg (by simp)).trans ?_
          rw [r39 b hw hb,vl_some,hr hb h1 h2 h3,vl_some,gd_pos ⟨rfl,x1,x2,rfl,trivial⟩,lt_eq]
          rfl
theorem both_ls (b:Y45) (hw:wf y45 b) (hm:cnt y45 b≤1048576) (q s m:Int):∃ v:Int×Int,u13 b q s m=some v∧u11 b q s m=some v:=by
  by_cases h:blockOk b=true∧inB q 0 (((linksV b).length:Int) - 1)=true∧inB s 0 1000000=true∧modeB m=true
  · obtain ⟨hb,h1,h2,h3⟩:=h
    have hs:=inB_iff.1 h2
    obtain ⟨r,e1,e2,_⟩:=r482 hw hb h1 hs.1 hs.2 (mode_is h3)
    exact ⟨_,q13 b hw hm q s m r (fun _ _ _ _=>e1),q11 b hw hm q s m r (fun _ _ _ _=>e2)⟩
  · exact ⟨_,q13 b hw hm q s m 0 (fun a b c d=>(h ⟨a,b,c,d⟩).elim),q11 b hw hm q s m 0 (fun a b c d=>(h ⟨a,b,c,d⟩).elim)⟩
theorem r3 (b:Y32) (q s m:Int) (hw:wf y32 b) (_:InI q) (_:InI s) (_:InI m):u3 b q s m=some true:=by
  unfold u3
  rw [z10 b 1048576 hw (by decide) (by decide),vl_some,gd_pos ⟨rfl,trivial⟩,lt_eq]
  by_cases hc:szN (cnt y32 b) 1048576 < 0
  · exact if_pos (by simpa using hc)
  · refine (if_neg (by simpa using hc)).trans ?_
    have hm:cnt y32 b≤1048576:=by
      unfold szN at hc
      split at hc <;> omega
    obtain ⟨v,e1,e2⟩:=both_ls b hw hm q s m
    rw [w12 b hm,vl_some,e2,gd_pos ⟨rfl,rfl,trivial⟩,lt_eq,vl_some]
    show gd _ (lt b fun v3=>gd _ (lt (vl (u13 v3 q s m)) fun v4=>_))=_
    rw [gd_pos ⟨rfl,trivial⟩,lt_eq,e1,vl_some,gd_pos ⟨rfl,trivial⟩,lt_eq]
    refine (if_neg (by simp)).trans ?_
    rw [e14 b hm,gd_pos ⟨rfl,rfl,trivial⟩,lt_eq,e14 b hm]
    rfl
end Go.Proofs.YticmgmebjmblgaaGreatDoor
end
section
/- The delay of a link: the law as a plain function gives true for all data. -/
namespace Go.Proofs.YticmgmebjmblgaaGreatDoor
open Go Go.Proofs Go.Proofs.Sv Go.Proofs.Xv Go.Proofs.Xl Go.Proofs.Xd
theorem r54 (c:Y53) (hc:wf y53 c):u54 c=some (cornerB c):=by
  have ef:∀ a b,u113 a b=some (decide (100≤a)&&decide (a≤b)&&decide (b≤5000)):=fun _ _=>rfl
  unfold u54 cornerB
  rw [r112 _ hc.1,vl_some,ef,vl_some,ef,vl_some,gd_pos ⟨rfl,(fun _=>rfl),(fun _=>rfl),trivial⟩]
def facBad (c:Y53) (i:Nat):Bool:=!inB ([c.2.1,c.2.2.1,c.2.2.2.1,c.2.2.2.2].getD i 0) 100 5000
theorem r52 (c:Y53) (hc:wf y53 c):u52 c=some (cornerB c):=by
  unfold u52
  rw [lt_eq]
  have key:=lp_all (n:=4) (by decide) (facBad c) (some false) (e:=u52J0 c ()) (F:=u52L1 [c.2.1,c.2.2.1,c.2.2.2.1,c.2.2.2.2] c) (fun g i hi=>by
    have e3:((i:Int)).toNat=i:=rfl
    have hl:([c.2.1,c.2.2.1,c.2.2.2.1,c.2.2.2.2]:List Int).length=4:=rfl
    refine (if_pos (decide_eq_true (by rw [hl]; omega))).trans ?_
    rw [e3,r56,vl_some,gd_pos ⟨⟨by omega,by rw [hl]; omega⟩,hi,rfl,trivial⟩,gd_pos ⟨⟨by omega,by omega⟩,trivial⟩]
    rfl) (fun g=>by
    show u52L1 [c.2.1,c.2.2.1,c.2.2.2.1,c.2.2.2.2] c g (((4:Nat):Int))=_
    rw [u52L1]
    exact if_neg (by simp))
  refine key.trans ?_
  have ej:u52J0 c ()=some (nmB c.1&&decide (c.2.1≤c.2.2.1)&&decide (c.2.2.2.1≤c.2.2.2.2)):=by
    unfold u52J0
    rw [r108 _ hc.1,vl_some,gd_pos ⟨rfl,trivial⟩]
  rw [ej]
  have ea:(List.range 4).any (facBad c)=(!inB c.2.1 100 5000||(!inB c.2.2.1 100 5000||(!inB c.2.2.2.1 100 5000||(!inB c.2.2.2.2 100 5000||false)))):=rfl
  have eq:(if (List.range 4).any (facBad c)=true then false else (nmB c.1&&decide (c.2.1≤c.2.2.1)&&decide (c.2.2.2.1≤c.2.2.2.2)))=cornerB c:=by
    rw [ea,Bool.eq_iff_iff]
    unfold cornerB inB
    by_cases h:(!(decide (100≤c.2.1)&&decide (c.2.1≤5000))||(!(decide (100≤c.2.2.1)&&decide (c.2.2.1≤5000))||(!(decide (100≤c.2.2.2.1)&&decide (c.2.2.2.1≤5000))||(!(decide (100≤c.2.2.2.2)&&decide (c.2.2.2.2≤5000))||false))))=true
    · rw [if_pos h]
      simp only [Bool.or_eq_true,Bool.not_eq_true',Bool.and_eq_false_iff,decide_eq_false_iff_not,Bool.false_eq_true,or_false] at h
      simp only [Bool.and_eq_true,decide_eq_true_eq,Bool.false_eq_true,false_iff]
      rintro ⟨⟨_,h1⟩,h2⟩
      omega
    · rw [if_neg h]
      simp only [Bool.or_eq_true,Bool.not_eq_true',Bool.and_eq_false_iff,decide_eq_false_iff_not,Bool.false_eq_true,or_false] at h
      simp only [Bool.and_eq_true,decide_eq_true_eq]
      constructor
      · rintro ⟨⟨h1,h2⟩,h3⟩
        exact ⟨⟨h1,by omega⟩,by omega⟩
      · rintro ⟨⟨h1,h2⟩,h3⟩
        exact ⟨⟨h1,by omega⟩,by omega⟩
  rw [← eq]
  split <;> rfl
end Go.Proofs.YticmgmebjmblgaaGreatDoor
end
section
/- The spans of a link: the law as a plain function gives true for all data. -/
namespace Go.Proofs.YticmgmebjmblgaaGreatDoor
open Go Go.Proofs Go.Proofs.Sv Go.Proofs.Xv Go.Proofs.Xl Go.Proofs.Xd
end Go.Proofs.YticmgmebjmblgaaGreatDoor
end
section
/- The bounds of the delay of a link: the law as a plain function gives true for all data. -/
namespace Go.Proofs.YticmgmebjmblgaaGreatDoor
open Go Go.Proofs Go.Proofs.Sv Go.Proofs.Xv Go.Proofs.Xl Go.Proofs.Xd
def bdStep (dE dL:Int→Int) (S:List Int) (i:Nat) (s:Int×Int):Int×Int:=(min s.1 (dE (S.getD i 0)),max s.2 (dL (S.getD i 0)))
def bdV (dE dL:Int→Int) (S:List Int):Int×Int:=foldN (bdStep dE dL S) S.length (dE (S.getD 0 0),dL (S.getD 0 0))
theorem bd_shift (dE dL:Int→Int) (S:List Int) (m:Nat):foldN (bdStep dE dL S) (m+1) (dE (S.getD 0 0),dL (S.getD 0 0))=foldN (fun i=>bdStep dE dL S (i+1)) m (dE (S.getD 0 0),dL (S.getD 0 0)):=by
  induction m with
  | zero =>
    show bdStep dE dL S 0 (dE (S.getD 0 0),dL (S.getD 0 0))=(dE (S.getD 0 0),dL (S.getD 0 0))
    simp only [bdStep,Int.min_self,Int.max_self]
  | succ m ih =>
    show bdStep dE dL S (m+1) (foldN (bdStep dE dL S) (m+1) _)=bdStep dE dL S (m+1) (foldN _ m _)
    rw [ih]
theorem r20J {v:Y110} {c:Y53} {q:Int} {dE dL:Int→Int} (hE:∀ s,u55 v c q s 0=some (dE s)) (hL:∀ s,u55 v c q s 1=some (dL s)) {S:List Int} (h0:0 < S.length) (h1:S.length≤1000):u20J0 v c q S=some (bdV dE dL S,0):=by
  have e0:S.getD (Int.toNat (0:Int)) (0:Int)=S.getD 0 0:=rfl
  rw [u20J0,e0,hE,hL,vl_some,vl_some]
  refine (gd_pos ⟨⟨by decide,by omega⟩,rfl,⟨by decide,by omega⟩,rfl,trivial⟩).trans ?_
  rw [lt_eq]
  refine (lp_fold (n:=S.length) (by omega) (fun i (s:Int×Int)=>((i:Int),s.1,s.2)) (bdStep dE dL S) (fun _ _=>True) (J:=fun s=>some (s,0)) (F:=u20L2 v c q S) (fun g i s hi _=>?_) (fun _ _ _ _=>trivial) (fun g s _=>?_) (dE (S.getD 0 0),dL (S.getD 0 0)) trivial).trans rfl
  · have e3:((i:Int)).toNat=i:=rfl
    refine (if_pos (decide_eq_true (by omega))).trans ?_
    rw [e3,hE,hL,vl_some,vl_some]
    refine (gd_pos ⟨⟨by omega,by omega⟩,trivial⟩).trans ((gd_pos ⟨rfl,trivial⟩).trans ?_)
    rw [lt_eq]
    refine (gd_pos ⟨rfl,trivial⟩).trans ?_
    rw [lt_eq]
    exact gd_pos ⟨⟨by omega,by omega⟩,trivial⟩
  · exact if_neg (by simp)
theorem r19J {b:Y45} {c:Y53} {l:Y83} {dE dL:Int→Int} (hE:∀ s,u53 b c l s 0=some (dE s)) (hL:∀ s,u53 b c l s 1=some (dL s)) {S:List Int} (h0:0 < S.length) (h1:S.length≤1000):u19J0 b c l S=some (bdV dE dL S,0):=by
  have e0:S.getD (Int.toNat (0:Int)) (0:Int)=S.getD 0 0:=rfl
  obtain ⟨m,hm⟩:∃ m,S.length=m+1:=⟨S.length - 1,by omega⟩
  rw [u19J0,e0,hE,hL,vl_some,vl_some]
  refine (gd_pos ⟨⟨by decide,by omega⟩,rfl,⟨by decide,by omega⟩,rfl,trivial⟩).trans ?_
  rw [lt_eq]
  have eV:bdV dE dL S=foldN (fun i=>bdStep dE dL S (i+1)) m (dE (S.getD 0 0),dL (S.getD 0 0)):=by
    unfold bdV
    rw [hm]
    exact bd_shift dE dL S m
  rw [eV]
  refine (lp_fold (n:=m) (by omega) (fun i (s:Int×Int)=>(((i:Int)+1),s.1,s.2)) (fun i=>bdStep dE dL S (i+1)) (fun _ _=>True) (J:=fun s=>some (s,0)) (F:=u19L2 b c l S) (fun g i s hi _=>?_) (fun _ _ _ _=>trivial) (fun g s _=>?_) (dE (S.getD 0 0),dL (S.getD 0 0)) trivial).trans rfl
  · have e3:((i:Int)+1).toNat=i+1:=rfl
    refine (if_pos (decide_eq_true (by omega))).trans ?_
    rw [e3,hE,hL,vl_some,vl_some]
    refine (gd_pos ⟨⟨by omega,by omega⟩,rfl,trivial⟩).trans ?_
    rw [lt_eq]
    refine (gd_pos ⟨⟨by omega,by omega⟩,rfl,trivial⟩).trans ?_
    rw [lt_eq]
    exact gd_pos ⟨⟨by omega,by omega⟩,trivial⟩
  · exact if_neg (by simp only [decide_eq_true_eq]; omega)
theorem bds_ok (b:Y45) (hw:wf y45 b) (hm:cnt y45 b≤1048576) (c:Y53) (hc:wf y53 c) (q:Int):u20 b c q=if blockOk b=true∧cornerB c=true then (if (!inB q 0 (((linksV b).length:Int) - 1))=true then some ((((0:Int),(0:Int)),(4:Int))) else gd (ix q (linksV b).length∧True)<|lt ((linksV b).getD q.toNat (dflt y83)) fun v4=>if (v4.2.2.1==1)=true then gd ((u58 (viewV b) v4).isSome=true∧(0:Int) < (2:Int)∧ix (v4.2.1.tmod (2:Int)) (vl (u58 (viewV b) v4)).2.2.2.2.1.length∧True)<|lt ((vl (u58 (viewV b) v4),(vl (u58 (viewV b) v4)).2.2.2.2.1.getD (v4.2.1.tmod 2).toNat (dflt y106))) fun (_,v6)=>u20J0 (viewV b) c q v6.1 else u20J0 (viewV b) c q [0]) else some ((((0:Int),(0:Int)),(1:Int))):=by
  unfold u20
  rw [r43 b hw hm,vl_some,r54 c hc,vl_some,gd_pos ⟨rfl,(fun _=>rfl),trivial⟩]
  cases hb:blockOk b with
  | false=>rfl
  | true =>
    cases hc':cornerB c with
    | false=>rfl
    | true =>
      refine (if_neg (by simp)).trans (Eq.trans ?_ (if_pos ⟨rfl,rfl⟩).symm)
      rw [r44 b hw hb,vl_some,gd_pos ⟨rfl,trivial⟩,lt_eq,r45 hb,vl_some,gd_pos ⟨rfl,trivial⟩]
      rfl
theorem sbds_ok (b:Y45) (hw:wf y45 b) (hm:cnt y45 b≤1048576) (c:Y53) (hc:wf y53 c) (q:Int):u19 b c q=if blockOk b=true∧cornerB c=true then (if (!inB q 0 (((linksV b).length:Int) - 1))=true then some ((((0:Int),(0:Int)),(4:Int))) else gd (ix q (linksV b).length∧q.toNat < (linksV b).length∧True)<|lt ((linksV b).getD q.toNat (dflt y83)) fun v1=>if (v1.2.2.1==1)=true then gd ((u57 b v1).isSome=true∧True)<|lt (vl (u57 b v1)) fun v4=>gd ((0:Int) < (2:Int)∧ix (v1.2.1.tmod (2:Int)) v4.1.2.2.2.2.1.length∧True)<|lt (v4.1.2.2.2.2.1.getD (v1.2.1.tmod 2).toNat (dflt y106)) fun v5=>u19J0 b c v1 v5.1 else u19J0 b c v1 [0]) else some ((((0:Int),(0:Int)),(1:Int))):=by
  unfold u19
  rw [r36 b hw hm,vl_some,r52 c hc,vl_some,gd_pos ⟨rfl,(fun _=>rfl),trivial⟩]
  cases hb:blockOk b with
  | false=>rfl
  | true =>
    cases hc':cornerB c with
    | false=>rfl
    | true =>
      have hl:=links_len hb
      refine (if_neg (by simp)).trans (Eq.trans ?_ (if_pos ⟨rfl,rfl⟩).symm)
      rw [r39 b hw hb,vl_some,gd_pos ⟨rfl,trivial⟩,lt_eq,r56,vl_some,gd_pos ⟨⟨by omega,by omega⟩,rfl,trivial⟩]
theorem both_bd (b:Y45) (hw:wf y45 b) (hm:cnt y45 b≤1048576) (c:Y53) (hc:wf y53 c) (q:Int):∃ v:Y57×Int,u20 b c q=some v∧u19 b c q=some v:=by
  rw [bds_ok b hw hm c hc q,sbds_ok b hw hm c hc q]
  by_cases hbc:blockOk b=true∧cornerB c=true
  · rw [if_pos hbc,if_pos hbc]
    obtain ⟨hb,hc'⟩:=hbc
    cases hq:inB q 0 (((linksV b).length:Int) - 1) with
    | false=>exact ⟨((0,0),4),rfl,rfl⟩
    | true =>
      obtain ⟨x1,x2⟩:=link_ix hq
      generalize hlk:(linksV b).getD q.toNat (dflt y83)=l
      have hmem:l∈linksV b:=by rw [← hlk]; exact getD_mem x2
      have kE:∀ s,u55 (viewV b) c q s 0=some (vl (u55 (viewV b) c q s 0))∧u53 b c l s 0=some (vl (u55 (viewV b) c q s 0)):=fun s=>by
        obtain ⟨r,e1,e2,_⟩:=r55ay2 hw hb hc' hq s 0
        rw [hlk] at e2
        exact ⟨by rw [e1]; rfl,by rw [e1]; exact e2⟩
      have kL:∀ s,u55 (viewV b) c q s 1=some (vl (u55 (viewV b) c q s 1))∧u53 b c l s 1=some (vl (u55 (viewV b) c q s 1)):=fun s=>by
        obtain ⟨r,e1,e2,_⟩:=r55ay2 hw hb hc' hq s 1
        rw [hlk] at e2
        exact ⟨by rw [e1]; rfl,by rw [e1]; exact e2⟩
      rcases link_facts hb hmem with ⟨a,n,h⟩ | ⟨n,k,h⟩
      · obtain ⟨t1,t2⟩:=tables_at h.del h.trs
        obtain ⟨g1,g2,_⟩:=table_len t2
        refine ⟨(bdV (fun s=>vl (u55 (viewV b) c q s 0)) (fun s=>vl (u55 (viewV b) c q s 1)) (a.2.2.2.2.1.getD (l.2.1.tmod 2).toNat (dflt y106)).1,0),?_,?_⟩
        · refine (if_neg (by simp)).trans ((gd_pos ⟨x1,trivial⟩).trans ?_)
          rw [lt_eq]
          refine (if_pos (by rw [h.kind]; rfl)).trans ?_
          rw [r58 h,vl_some]
          refine (gd_pos ⟨rfl,by decide,t1,trivial⟩).trans ?_
          rw [lt_eq]
          exact r20J (S:=(a.2.2.2.2.1.getD (l.2.1.tmod 2).toNat (dflt y106)).1) (fun s=>(kE s).1) (fun s=>(kL s).1) (by omega) (by omega)
        · refine (if_neg (by simp)).trans ((gd_pos ⟨x1,x2,trivial⟩).trans ?_)
          rw [lt_eq]
          refine (if_pos (by rw [h.kind]; rfl)).trans ?_
          rw [r57 hw hb h,vl_some,gd_pos ⟨rfl,trivial⟩,lt_eq]
          refine (gd_pos ⟨by decide,t1,trivial⟩).trans ?_
          rw [lt_eq]
          exact r19J (S:=(a.2.2.2.2.1.getD (l.2.1.tmod 2).toNat (dflt y106)).1) (fun s=>(kE s).2) (fun s=>(kL s).2) (by omega) (by omega)
      · refine ⟨(bdV (fun s=>vl (u55 (viewV b) c q s 0)) (fun s=>vl (u55 (viewV b) c q s 1)) [0],0),?_,?_⟩
        · refine (if_neg (by simp)).trans ((gd_pos ⟨x1,trivial⟩).trans ?_)
          rw [lt_eq]
          refine (if_neg (by rw [h.kind]; decide)).trans ?_
          exact r20J (fun s=>(kE s).1) (fun s=>(kL s).1) (by decide) (by decide)
        · refine (if_neg (by simp)).trans ((gd_pos ⟨x1,x2,trivial⟩).trans ?_)
          rw [lt_eq]
          refine (if_neg (by rw [h.kind]; decide)).trans ?_
          exact r19J (fun s=>(kE s).2) (fun s=>(kL s).2) (by decide) (by decide)
  · rw [if_neg hbc,if_neg hbc]
    exact ⟨_,rfl,rfl⟩
theorem r5 (b:Y32) (c:Y50) (q:Int) (hw:wf y32 b) (hc:wf y50 c) (_:InI q):u5 b c q=some true:=by
  unfold u5
  rw [z10 b 1048576 hw (by decide) (by decide),vl_some,gd_pos ⟨rfl,trivial⟩,lt_eq]
  by_cases hc1:szN (cnt y32 b) 1048576 < 0
  · exact if_pos (by simpa using hc1)
  · refine (if_neg (by simpa using hc1)).trans ?_
    have hm:cnt y32 b≤1048576:=by
      unfold szN at hc1
      split at hc1 <;> omega
    have hv:szN (cnt y32 b) 1048576≤1048576:=by
      unfold szN
      split <;> omega
    generalize szN (cnt y32 b) 1048576=v at hc1 hv
    rw [z15 c v hc (by omega) (by omega),vl_some,gd_pos ⟨rfl,trivial⟩,lt_eq]
    by_cases hc2:szN (cnt y50 c) v < 0
    · exact if_pos (by simpa using hc2)
    · refine (if_neg (by simpa using hc2)).trans ?_
      have hm2:cnt y50 c≤1048576:=by
        unfold szN at hc2
        split at hc2 <;> omega
      obtain ⟨v,e1,e2⟩:=both_bd b hw hm c hc q
      rw [w12 b hm,vl_some,w17 c hm2,vl_some,e2,vl_some,gd_pos ⟨rfl,rfl,rfl,trivial⟩,lt_eq]
      show gd _ (lt b fun v4=>gd (_∧(u20 v4 c q).isSome=true∧True) (lt (vl (u20 v4 c q)) fun v5=>_))=_
      rw [gd_pos ⟨rfl,trivial⟩,lt_eq,e1,vl_some,gd_pos ⟨rfl,rfl,trivial⟩,lt_eq,e21 _ (Nat.zero_le _),vl_some]
      refine (gd_pos ⟨rfl,trivial⟩).trans ?_
      refine (if_neg (by simp)).trans ?_
      rw [e14 b hm,gd_pos ⟨rfl,rfl,trivial⟩,lt_eq,e14 b hm]
      rfl
end Go.Proofs.YticmgmebjmblgaaGreatDoor
end

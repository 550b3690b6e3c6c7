/- Where the places of a design lie; who drives a net. Plain facts. -/
import Derived.Test.YticmgmebjmblgaaGreatDoorWD
import Derived.Test.YticmgmebjmblgaaGreatDoorWC
section
/- Where the places of a design lie; who drives a net. Plain facts. -/
namespace Go.Proofs.Xd
open Go Go.Proofs Go.Proofs.Xl
/-! ### The number of a place -/
def offs (x:Nat→DInst):Nat→Nat
  | 0=>0
  | i+1=>offs x i+(x i).2.2.length
theorem instP_get (x:DInst) (i:Int) (d:DPlace) (s:List DPlace):∀ n k,k < n→(foldN (instP x i) n s).getD (s.length+k) d=(i,(k:Int),x.2.2.getD k 0,(k:Int)==(x.2.2.length:Int) - 1)
  | n+1,k,h=>by
    have hl:=instP_len x i s n
    have ih:=instP_get x i d s n k
    show (instP x i n (foldN (instP x i) n s)).getD _ d=_
    generalize foldN (instP x i) n s=z at hl ih
    unfold instP
    rcases Nat.lt_or_ge k n with hk | hk
    · rw [getD_left (by omega)]; exact ih hk
    · have:k=n:=by omega
      subst this
      rw [getD_right (by omega),hl,Nat.sub_self]; rfl
theorem instP_old (x:DInst) (i:Int) (d:DPlace) (s:List DPlace):∀ n j,j < s.length→(foldN (instP x i) n s).getD j d=s.getD j d
  | 0,_,_=>rfl
  | n+1,j,h=>by
    have hl:=instP_len x i s n
    have ih:=instP_old x i d s n j h
    show (instP x i n (foldN (instP x i) n s)).getD _ d=_
    generalize foldN (instP x i) n s=z at hl ih
    unfold instP
    rw [getD_left (by omega)]; exact ih
theorem placesF_offs (x:Nat→DInst):∀ n,(foldN (placesF x) n []).length=offs x n
  | 0=>rfl
  | n+1=>by
    have:=placesF_offs x n
    show (placesF x n (foldN (placesF x) n [])).length=_
    unfold placesF
    rw [instP_len]
    show (foldN (placesF x) n []).length+_=_
    rw [this]; rfl
theorem placesF_get (x:Nat→DInst) (d:DPlace):∀ n i k,i < n→k < (x i).2.2.length→(foldN (placesF x) n []).getD (offs x i+k) d=((i:Int),(k:Int),(x i).2.2.getD k 0,(k:Int)==((x i).2.2.length:Int) - 1)
  | n+1,i,k,hi,hk=>by
    have hl:=placesF_offs x n
    have ih:=placesF_get x d n i k
    show (placesF x n (foldN (placesF x) n [])).getD _ d=_
    generalize foldN (placesF x) n []=z at hl ih
    unfold placesF
    rcases Nat.lt_or_ge i n with h | h
    · have hlt:offs x i+k < z.length:=by
        rw [hl]
        have:∀ m,i < m→offs x i+(x i).2.2.length≤offs x m:=by
          intro m
          induction m with
          | zero=>intro h; omega
          | succ m ih =>
            intro h
            show _≤offs x m+_
            rcases Nat.lt_or_ge i m with h' | h'
            · have:=ih h'; omega
            · have:i=m:=by omega
              subst this; omega
        have:=this n h
        omega
      rw [instP_old _ _ _ _ _ _ hlt]
      exact ih h hk
    · have:i=n:=by omega
      subst this
      rw [← hl]
      exact instP_get _ _ _ _ _ _ hk
theorem portP_old (y:Nat→DPort) (d:DPlace) (s:List DPlace):∀ n j,j < s.length→(foldN (portP y) n s).getD j d=s.getD j d
  | 0,_,_=>rfl
  | n+1,j,h=>by
    have hl:=portP_len y s n
    have ih:=portP_old y d s n j h
    show (portP y n (foldN (portP y) n s)).getD _ d=_
    generalize foldN (portP y) n s=z at hl ih
    unfold portP
    rw [getD_left (by omega)]; exact ih
theorem portP_get (y:Nat→DPort) (d:DPlace) (s:List DPlace):∀ n k,k < n→(foldN (portP y) n s).getD (s.length+k) d=(-1,(k:Int),(y k).2.2,(y k).2.1==1)
  | n+1,k,h=>by
    have hl:=portP_len y s n
    have ih:=portP_get y d s n k
    show (portP y n (foldN (portP y) n s)).getD _ d=_
    generalize foldN (portP y) n s=z at hl ih
    unfold portP
    rcases Nat.lt_or_ge k n with hk | hk
    · rw [getD_left (by omega)]; exact ih hk
    · have:k=n:=by omega
      subst this
      rw [getD_right (by omega),hl,Nat.sub_self]; rfl
theorem offs_inv (x:Nat→DInst):∀ n j,j < offs x n→∃ i k,i < n∧k < (x i).2.2.length∧j=offs x i+k
  | n+1,j,h=>by
    have h:j < offs x n+(x n).2.2.length:=h
    rcases Nat.lt_or_ge j (offs x n) with hj | hj
    · obtain ⟨i,k,h1,h2,h3⟩:=offs_inv x n j hj
      exact ⟨i,k,by omega,h2,h3⟩
    · exact ⟨n,j - offs x n,by omega,by omega,by omega⟩
theorem offs_lt (x:Nat→DInst) {i n k:Nat} (hi:i < n) (hk:k < (x i).2.2.length):offs x i+k < offs x n:=by
  induction n with
  | zero=>omega
  | succ n ih =>
    show _ < offs x n+(x n).2.2.length
    rcases Nat.lt_or_ge i n with h | h
    · have:=ih h; omega
    · have:i=n:=by omega
      subst this; omega
theorem places_len (ni np:Nat) (x:Nat→DInst) (y:Nat→DPort):(placesN ni np x y).length=offs x ni+np:=by
  unfold placesN
  rw [portP_len,placesF_offs]
theorem places_inst (ni np:Nat) (x:Nat→DInst) (y:Nat→DPort) (d:DPlace) {i k:Nat} (hi:i < ni) (hk:k < (x i).2.2.length):(placesN ni np x y).getD (offs x i+k) d=((i:Int),(k:Int),(x i).2.2.getD k 0,(k:Int)==((x i).2.2.length:Int) - 1):=by
  unfold placesN
  rw [portP_old _ _ _ _ _ (by rw [placesF_offs]; exact offs_lt x hi hk)]
  exact placesF_get x d ni i k hi hk
theorem places_port (ni np:Nat) (x:Nat→DInst) (y:Nat→DPort) (d:DPlace) {k:Nat} (hk:k < np):(placesN ni np x y).getD (offs x ni+k) d=(-1,(k:Int),(y k).2.2,(y k).2.1==1):=by
  unfold placesN
  rw [← placesF_offs x ni]
  exact portP_get _ _ _ _ _ hk
theorem place_only (ni np:Nat) (x:Nat→DInst) (y:Nat→DPort) (d:DPlace) {i k:Nat} (hi:i < ni) (hk:k < (x i).2.2.length) {j:Nat} (hj:j < (placesN ni np x y).length):(((placesN ni np x y).getD j d).1==(i:Int)&&((placesN ni np x y).getD j d).2.1==(k:Int))=decide (j=offs x i+k):=by
  rw [Bool.eq_iff_iff,Bool.and_eq_true,beq_iff_eq,beq_iff_eq,decide_eq_true_eq]
  rw [places_len] at hj
  constructor
  · rintro ⟨h1,h2⟩
    rcases Nat.lt_or_ge j (offs x ni) with h | h
    · obtain ⟨i',k',h3,h4,h5⟩:=offs_inv x ni j h
      subst h5
      rw [places_inst ni np x y d h3 h4] at h1 h2
      have e1:i'=i:=Int.ofNat.inj h1
      have e2:k'=k:=Int.ofNat.inj h2
      rw [e1,e2]
    · have e:j=offs x ni+(j - offs x ni):=by omega
      rw [e,places_port ni np x y d (by omega)] at h1
      have h1:(-1:Int)=(i:Int):=h1
      omega
  · rintro rfl
    rw [places_inst ni np x y d hi hk]
    exact ⟨rfl,rfl⟩
/-! ### Drivers -/
def cntF (P:Nat→Bool) (m:Nat):Nat:=foldN (fun i s=>if P i=true then s+1 else s) m 0
theorem cntF_succ (P:Nat→Bool) (m:Nat):cntF P (m+1)=if P m=true then cntF P m+1 else cntF P m:=rfl
theorem cntF_one {P:Nat→Bool}:∀ {m i:Nat},i < m→P i=true→1≤cntF P m
  | m+1,i,h,hp=>by
    rw [cntF_succ]
    rcases Nat.lt_or_ge i m with h' | h'
    · have:=cntF_one h' hp; split <;> omega
    · have:i=m:=by omega
      subst this
      rw [if_pos hp]; omega
theorem cntF_two {P:Nat→Bool}:∀ {m i j:Nat},i < j→j < m→P i=true→P j=true→2≤cntF P m
  | m+1,i,j,h1,h2,hi,hj=>by
    rw [cntF_succ]
    rcases Nat.lt_or_ge j m with h' | h'
    · have:=cntF_two h1 h' hi hj; split <;> omega
    · have:j=m:=by omega
      subst this
      have:=cntF_one h1 hi
      rw [if_pos hj]; omega
theorem cntF_ex {P:Nat→Bool}:∀ {m:Nat},1≤cntF P m→∃ i,i < m∧P i=true
  | 0,h=>by simp [cntF,foldN] at h
  | m+1,h=>by
    rw [cntF_succ] at h
    by_cases hp:P m=true
    · exact ⟨m,by omega,hp⟩
    · rw [if_neg hp] at h
      obtain ⟨i,h1,h2⟩:=cntF_ex h
      exact ⟨i,by omega,h2⟩
def drvB (pl:Nat→DPlace) (t:Int) (j:Nat):Bool:=(pl j).2.2.1==t&&(pl j).2.2.2
theorem drvN_last {pl:Nat→DPlace} {t:Int}:∀ {m i:Nat},i < m→drvB pl t i=true→(∀ j,i < j→j < m→drvB pl t j=false)→drvN pl t m=(i:Int)
  | m+1,i,h,hi,hn=>by
    have e:drvN pl t (m+1)=if drvB pl t m=true then (m:Int) else drvN pl t m:=rfl
    rw [e]
    rcases Nat.lt_or_ge i m with h' | h'
    · rw [if_neg (by rw [hn m h' (by omega)]; simp)]
      exact drvN_last h' hi (fun j h1 h2=>hn j h1 (by omega))
    · have:i=m:=by omega
      subst this
      rw [if_pos hi]
theorem drv_one {pl:Nat→DPlace} {t:Int} {m:Nat} (h:cntF (drvB pl t) m=1):∃ i,i < m∧drvB pl t i=true∧(∀ j,j < m→drvB pl t j=decide (j=i))∧drvN pl t m=(i:Int):=by
  obtain ⟨i,h1,h2⟩:=cntF_ex (Nat.le_of_eq h.symm)
  have hu:∀ j,j < m→drvB pl t j=true→j=i:=fun j hj hd=>by
    rcases Nat.lt_trichotomy i j with h' | h' | h'
    · have:=cntF_two h' hj h2 hd; omega
    · exact h'.symm
    · have:=cntF_two h' h1 hd h2; omega
  refine ⟨i,h1,h2,fun j hj=>?_,drvN_last h1 h2 (fun j hij hj=>?_)⟩
  · rw [Bool.eq_iff_iff,decide_eq_true_eq]
    exact ⟨hu j hj,fun e=>by rw [e]; exact h2⟩
  · rw [← Bool.not_eq_true]
    intro hd
    have:=hu j hj hd
    omega
theorem cntF_add (P:Nat→Bool) (m:Nat):∀ n,cntF P (m+n)=cntF P m+cntF (fun i=>P (m+i)) n
  | 0=>rfl
  | n+1=>by
    rw [← Nat.add_assoc,cntF_succ,cntF_succ,cntF_add P m n]
    split <;> omega
theorem cntF_last {P:Nat→Bool} {n:Nat} (h:∀ i,i < n→P i=false):cntF P (n+1)=if P n=true then 1 else 0:=by
  have:∀ m,m≤n→cntF P m=0:=by
    intro m
    induction m with
    | zero=>intro _; rfl
    | succ m ih=>intro hm; rw [cntF_succ,h m (by omega),if_neg (by simp),ih (by omega)]
  rw [cntF_succ,this n (Nat.le_refl _)]
theorem inst_cnt {ni np:Nat} {x:Nat→DInst} {y:Nat→DPort} {d:DPlace} {nn:Nat} (hx:∀ i,i < ni→1≤(x i).2.2.length∧inB ((x i).2.2.getD ((x i).2.2.length - 1) 0) 0 ((nn:Int) - 1)=true):∀ n,n≤ni→(foldN (instF x) n (List.replicate nn 0)).length=nn∧∀ t:Nat,t < nn→(foldN (instF x) n (List.replicate nn 0)).getD t 0=(cntF (drvB (fun j=>(placesN ni np x y).getD j d) t) (offs x n):Nat)
  | 0,_=>⟨List.length_replicate,fun t ht=>by
    show (List.replicate nn (0:Int)).getD t 0=_
    rw [List.getD_eq_getElem?_getD,List.getElem?_replicate,if_pos ht]; rfl⟩
  | n+1,hn=>by
    obtain ⟨h1,h2⟩:=inst_cnt (np:=np) (y:=y) (d:=d) hx n (by omega)
    obtain ⟨h3,h4⟩:=hx n (by omega)
    have h4:=inB_iff.1 h4
    have e:foldN (instF x) (n+1) (List.replicate nn 0)=instF x n (foldN (instF x) n (List.replicate nn 0)):=rfl
    rw [e]
    generalize foldN (instF x) n (List.replicate nn 0)=v at h1 h2
    unfold instF incAt
    refine ⟨by rw [List.length_set]; exact h1,fun t ht=>?_⟩
    rw [getD_set (by omega)]
    show _=((cntF _ (offs x n+(x n).2.2.length):Nat):Int)
    rw [cntF_add]
    have hk:∀ k,k < (x n).2.2.length→drvB (fun j=>(placesN ni np x y).getD j d) t (offs x n+k)=((x n).2.2.getD k 0==(t:Int)&&(k:Int)==((x n).2.2.length:Int) - 1):=fun k hk=>by
      unfold drvB
      show (((placesN ni np x y).getD (offs x n+k) d).2.2.1==(t:Int)&&((placesN ni np x y).getD (offs x n+k) d).2.2.2)=_
      rw [places_inst ni np x y d (by omega) hk]
    obtain ⟨m,hm⟩:∃ m,(x n).2.2.length=m+1:=⟨(x n).2.2.length - 1,by omega⟩
    have hm1:(x n).2.2.length - 1=m:=by omega
    rw [hm1] at h4
    rw [hm1,hm,cntF_last (fun i hi=>by rw [hk i (by omega),hm]; simp; omega),hk m (by omega),hm]
    have e1:((m:Int)==((m+1:Nat):Int) - 1)=true:=by simp
    rw [e1,Bool.and_true]
    have e2:((x n).2.2.getD m 0==(t:Int))=decide (t=((x n).2.2.getD m 0).toNat):=by
      rw [Bool.eq_iff_iff,beq_iff_eq,decide_eq_true_eq]
      omega
    rw [e2]
    by_cases ht':t=((x n).2.2.getD m 0).toNat
    · rw [if_pos ht',← ht',h2 t ht,decide_eq_true rfl,if_pos rfl]; rfl
    · rw [if_neg ht',h2 t ht,decide_eq_false ht',if_neg (by simp)]; omega
theorem port_cnt {ni np:Nat} {x:Nat→DInst} {y:Nat→DPort} {d:DPlace} {nn:Nat} (hx:∀ i,i < ni→1≤(x i).2.2.length∧inB ((x i).2.2.getD ((x i).2.2.length - 1) 0) 0 ((nn:Int) - 1)=true) (hy:∀ i,i < np→inB (y i).2.2 0 ((nn:Int) - 1)=true):∀ n,n≤np→(foldN (portF y) n (foldN (instF x) ni (List.replicate nn 0))).length=nn∧∀ t:Nat,t < nn→(foldN (portF y) n (foldN (instF x) ni (List.replicate nn 0))).getD t 0=(cntF (drvB (fun j=>(placesN ni np x y).getD j d) t) (offs x ni+n):Nat)
  | 0,_=>inst_cnt hx ni (Nat.le_refl _)
  | n+1,hn=>by
    obtain ⟨h1,h2⟩:=port_cnt (d:=d) hx hy n (by omega)
    have h4:=inB_iff.1 (hy n (by omega))
    have e:foldN (portF y) (n+1) (foldN (instF x) ni (List.replicate nn 0))=portF y n (foldN (portF y) n (foldN (instF x) ni (List.replicate nn 0))):=rfl
    rw [e]
    generalize foldN (portF y) n (foldN (instF x) ni (List.replicate nn 0))=v at h1 h2
    have hk:∀ t:Nat,drvB (fun j=>(placesN ni np x y).getD j d) t (offs x ni+n)=((y n).2.2==(t:Int)&&(y n).2.1==1):=fun t=>by
      unfold drvB
      show (((placesN ni np x y).getD (offs x ni+n) d).2.2.1==(t:Int)&&((placesN ni np x y).getD (offs x ni+n) d).2.2.2)=_
      rw [places_port ni np x y d (by omega)]
    have e2:∀ t:Nat,((y n).2.2==(t:Int))=decide (t=(y n).2.2.toNat):=fun t=>by
      rw [Bool.eq_iff_iff,beq_iff_eq,decide_eq_true_eq]
      omega
    unfold portF
    split
    · rename_i hd
      unfold incAt
      refine ⟨by rw [List.length_set]; exact h1,fun t ht=>?_⟩
      rw [getD_set (by omega),← Nat.add_assoc,cntF_succ,hk,e2,hd]
      by_cases ht':t=(y n).2.2.toNat
      · rw [if_pos ht',← ht',h2 t ht]; simp
      · rw [if_neg ht',h2 t ht]; simp [ht']
    · rename_i hd
      refine ⟨h1,fun t ht=>?_⟩
      rw [h2 t ht,← Nat.add_assoc,cntF_succ,hk]
      simp [hd]
end Go.Proofs.Xd
end
section
/- Rounded division; loops with a measure; whole roots. Plain facts. -/
namespace Go.Proofs.Xd
open Go Go.Proofs Go.Proofs.Xl
def divV (a b m:Int):Int:=if (decide (a.tmod b < 0)&&m==0)=true then a.tdiv b - 1 else if (decide (0 < a.tmod b)&&m==1)=true then a.tdiv b+1 else a.tdiv b
theorem divV_bd {a b K:Int} (m:Int) (hb:0 < b) (h1 : -(K*b)≤a) (h2:a≤K*b) : -K≤divV a b m∧divV a b m≤K:=by
  have e:=Int.mul_tdiv_add_tmod a b
  have r1:=Int.tmod_lt_of_pos a hb
  have r2:=Int.lt_tmod_of_pos a hb
  have eK:b*K=K*b:=Int.mul_comm _ _
  have key1:∀ q:Int,b*q < b*K+b→q≤K:=fun q h=>by
    have:b*q < b*(K+1):=by rw [Int.mul_add,Int.mul_one]; exact h
    have:=Int.lt_of_mul_lt_mul_left this (Int.le_of_lt hb)
    omega
  have key2:∀ q:Int,-(b*K) - b < b*q → -K≤q:=fun q h=>by
    have:b*(-K - 1) < b*q:=by rw [Int.mul_sub,Int.mul_one,Int.mul_neg]; exact h
    have:=Int.lt_of_mul_lt_mul_left this (Int.le_of_lt hb)
    omega
  have key3:∀ q:Int,b*q < b*K→q < K:=fun q h=>Int.lt_of_mul_lt_mul_left h (Int.le_of_lt hb)
  have key4:∀ q:Int,-(b*K) < b*q → -K < q:=fun q h=>by
    have:b*(-K) < b*q:=by rw [Int.mul_neg]; exact h
    exact Int.lt_of_mul_lt_mul_left this (Int.le_of_lt hb)
  have q1:=key1 (a.tdiv b) (by omega)
  have q2:=key2 (a.tdiv b) (by omega)
  unfold divV
  split
  · rename_i h
    rw [Bool.and_eq_true,decide_eq_true_eq] at h
    have:=key4 (a.tdiv b) (by omega)
    omega
  · split
    · rename_i h
      rw [Bool.and_eq_true,decide_eq_true_eq] at h
      have:=key3 (a.tdiv b) (by omega)
      omega
    · omega
theorem lp_meas {σ ρ:Type} {F:(σ→Option ρ)→σ→Option ρ} {J:σ→Option ρ} (μ:σ→Nat) (I:σ→Prop) (c:σ→Bool) (nx:σ→σ)
    (hF:∀ g s,I s→F g s=if c s=true then g (nx s) else J s) (hI:∀ s,I s→c s=true→I (nx s)∧μ (nx s) < μ s) (s:σ) (hs:I s) (hm:μ s≤9223372036854775806):∃ s',I s'∧c s'=false∧lp F s=J s':=by
  have key:∀ (n:Nat) (s:σ),μ s≤n→I s→∃ s',I s'∧c s'=false∧∀ k,itF F (k+(n+1)) s=J s':=by
    intro n
    induction n with
    | zero =>
      intro s hn hs
      cases hc:c s with
      | true=>have:=(hI s hs hc).2; omega
      | false=>exact ⟨s,hs,hc,fun k=>by show F (itF F k) s=_; rw [hF _ _ hs,hc]; rfl⟩
    | succ n ih =>
      intro s hn hs
      cases hc:c s with
      | true =>
        obtain ⟨h1,h2⟩:=hI s hs hc
        obtain ⟨s',h3,h4,h5⟩:=ih (nx s) (by omega) h1
        refine ⟨s',h3,h4,fun k=>?_⟩
        show F (itF F (k+(n+1))) s=_
        rw [hF _ _ hs,hc,if_pos rfl]
        exact h5 k
      | false=>exact ⟨s,hs,hc,fun k=>by show F (itF F (k+(n+1))) s=_; rw [hF _ _ hs,hc]; rfl⟩
  obtain ⟨s',h1,h2,h3⟩:=key (μ s) s (Nat.le_refl _) hs
  exact ⟨s',h1,h2,lp_of (μ s+1) (by omega) h3⟩
/-! ### Whole roots -/
def Root (n r:Int):Prop:=0≤r∧r*r≤n∧n < (r+1)*(r+1)
theorem sq_mono {a b:Int} (ha:0≤a) (h:a≤b):a*a≤b*b:=Int.mul_le_mul h h ha (Int.le_trans ha h)
theorem lt_of_sq {a b:Int} (hb:0≤b) (h:a*a < b*b):a < b:=by
  by_cases h':a < b
  · exact h'
  · have:=sq_mono hb (show b≤a by omega); omega
theorem mid_up {l h:Int} (h0:0≤l) (hlt:l < h):(l+h+1).tdiv 2=(l+h+1) / 2∧l < (l+h+1) / 2∧(l+h+1) / 2≤h:=by
  refine ⟨Int.tdiv_eq_ediv_of_nonneg (by omega),by omega,by omega⟩
end Go.Proofs.Xd
end
section
/- What a look-up of a valid table comes to lies between the table's bounds. -/
namespace Go.Proofs.YticmgmebjmblgaaGreatDoor
open Go Go.Proofs Go.Proofs.Xv Go.Proofs.Xl Go.Proofs.Xd
theorem r1142 (a b m:Int) (h : -1000000000000000000≤a) (h':a≤1000000000000000000) (hb:0 < b):u114 a b m=some (divV a b m)∧u110 a b m=some (divV a b m):=by
  have t1:a.tdiv b≤1000000000000000000 ∧ -1000000000000000000≤a.tdiv b:=by
    have h1:(a.tdiv b).natAbs≤a.natAbs:=by
      rw [Int.natAbs_tdiv]
      exact Nat.div_le_self _ _
    omega
  have g1:in64 (a.tdiv b - 1)∧True:=⟨⟨by omega,by omega⟩,trivial⟩
  have g2:in64 (a.tdiv b+1)∧True:=⟨⟨by omega,by omega⟩,trivial⟩
  unfold u114 u110 divV
  rw [gd_pos (V:=0 < b∧0 < b∧True) ⟨hb,hb,trivial⟩,gd_pos (V:=0 < b∧True) ⟨hb,trivial⟩,gd_pos (V:=0 < b∧True) ⟨hb,trivial⟩,gd_pos g1,gd_pos g2,Bool.and_comm (m==0),Bool.and_comm (m==1)]
  by_cases c1:(decide (a.tmod b < 0)&&m==0)=true
  · rw [if_pos c1,if_pos c1]; exact ⟨rfl,rfl⟩
  · by_cases c2:(decide (0 < a.tmod b)&&m==1)=true
    · rw [if_neg c1,if_pos c2,if_neg c1,if_pos c2]; exact ⟨rfl,rfl⟩
    · rw [if_neg c1,if_neg c2,if_neg c1,if_neg c2]; exact ⟨rfl,rfl⟩
theorem cel_in {t:Y106} (ht:isTable t=true) {r q:Nat} (hr:r < t.1.length) (hq:q < t.2.1.length) : -1000000≤celV t r q∧celV t r q≤1000000:=by
  obtain ⟨_,_,_,_,hl,_,_⟩:=table_len ht
  exact table_in ht (i:=r*t.2.1.length+q) (by have:=row_ix hr hq; omega)
theorem wt_bd {v w c:Int} (h1 : -1000000≤v) (h2:v≤1000000) (w0:0≤w) (c0:0≤c) : -(1000000*(w*c))≤v*w*c∧v*w*c≤1000000*(w*c):=by
  have hwc:0≤w*c:=Int.mul_nonneg w0 c0
  rw [Int.mul_assoc]
  refine ⟨?_,Int.mul_le_mul_of_nonneg_right h2 hwc⟩
  have:=Int.mul_le_mul_of_nonneg_right h1 hwc
  rw [Int.neg_mul] at this
  exact this
theorem rowX_wt {t:Y106} (ht:isTable t=true) {r q:Nat} (hr:r < t.1.length) (hq:q < t.2.1.length) {w c d:Int} {M:List (Int×Int)} (hM:Sh t.2.1.length q c d M) (w0:0≤w) : -(1000000*(w*(c+d)))≤rowX t r q w c d∧rowX t r q w c d≤1000000*(w*(c+d)):=by
  unfold rowX
  have v1:=cel_in ht hr hq
  rcases hM with ⟨rfl,rfl,_⟩ | ⟨hq1,c0,d0,hcd,_⟩
  · have h1:=wt_bd v1.1 v1.2 w0 (c:=1) (by decide)
    rw [Int.mul_zero,Int.add_zero,Int.add_zero]; exact h1
  · have v2:=cel_in ht hr hq1
    have h1:=wt_bd v1.1 v1.2 w0 (c:=c) (by omega)
    have h2:=wt_bd v2.1 v2.2 w0 (c:=d) (by omega)
    rw [Int.mul_add w,Int.mul_add 1000000]
    omega
theorem r1012 {t:Y106} (ht:isTable t=true) (s l m:Int):∃ r,u101 t s l m=some r∧u79 t s l m=some r ∧ -1000000≤r∧r≤1000000:=by
  have hax:isAxis t.1=true∧isAxis t.2.1=true:=by
    simp only [isTable,Bool.and_eq_true] at ht
    exact ⟨ht.1.1.1,ht.1.1.2⟩
  obtain ⟨p,a,b,L,hp,hL,h1,h2⟩:=shape s hax.1
  obtain ⟨q,c,d,M,hq,hM,h3,h4⟩:=shape l hax.2
  have hab:0≤a∧0≤b∧1≤a+b∧a+b≤100000∧a≤100000∧b≤100000∧(b≠0→p+1 < t.1.length):=by
    rcases hL with ⟨rfl,rfl,_⟩ | ⟨_,_,_,_,_⟩ <;> omega
  have hcd:1≤c+d∧c+d≤100000:=by
    rcases hM with ⟨rfl,rfl,_⟩ | ⟨_,_,_,_,_⟩ <;> omega
  have hm:=mul_bd (A:=100000) (B:=100000) (x:=a+b) (y:=c+d) (by omega) (by omega) (by omega) (by omega) (by decide)
  have hpos:0 < (a+b)*(c+d):=Int.mul_pos (by omega) (by omega)
  have x1:=rowX_wt ht hp hq hM (w:=a) (by omega)
  have x2 : -(1000000*(b*(c+d)))≤(if b=0 then 0 else rowX t (p+1) q b c d)∧(if b=0 then 0 else rowX t (p+1) q b c d)≤1000000*(b*(c+d)):=by
    by_cases hz:b=0
    · rw [if_pos hz,hz,Int.zero_mul]; decide
    · rw [if_neg hz]; exact rowX_wt ht (hab.2.2.2.2.2.2 hz) hq hM (by omega)
  have ed:1000000*((a+b)*(c+d))=1000000*(a*(c+d))+1000000*(b*(c+d)):=by rw [Int.add_mul,Int.mul_add 1000000]
  obtain ⟨hr1,hr2⟩:=r1142 (rowX t p q a c d+(if b=0 then 0 else rowX t (p+1) q b c d)) ((a+b)*(c+d)) m (by omega) (by omega) hpos
  have hbd:=divV_bd (a:=rowX t p q a c d+(if b=0 then 0 else rowX t (p+1) q b c d)) (K:=1000000) m hpos (by omega) (by omega)
  have i1:in64 ((a+b)*(c+d)):=⟨by omega,by omega⟩
  have i2:in64 (a+b):=⟨by omega,by omega⟩
  have i3:in64 (c+d):=⟨by omega,by omega⟩
  refine ⟨_,?_,?_,hbd⟩
  · unfold u101
    rw [h2,gd_pos ⟨rfl,trivial⟩,vl_some,lt_eq,h4,gd_pos ⟨rfl,trivial⟩,vl_some,lt_eq,look1 ht hp hq hL hM,u101J0,hr1,gd_pos ⟨i1,rfl,trivial⟩,vl_some,lt_eq]
  · unfold u79
    rw [h1,gd_pos ⟨rfl,trivial⟩,vl_some,lt_eq,h3,gd_pos ⟨rfl,trivial⟩,vl_some,lt_eq,slook1 ht hp hq hL hM,u79J0,hr2,gd_pos ⟨i2,i3,i1,rfl,trivial⟩,vl_some,lt_eq]
end Go.Proofs.YticmgmebjmblgaaGreatDoor
end
section
/- What the links of a block are: where they lead. Plain facts. -/
namespace Go.Proofs.Xd
open Go Go.Proofs Go.Proofs.Xl
def cLink (f:Int) (a:DArc) (j:Nat) (t:Nat):DLink:=(2*(f+a.2.1)+((transV a.1 a.2.2.2.1).getD t (0,0)).1,2*(f+a.2.2.1)+((transV a.1 a.2.2.2.1).getD t (0,0)).2,1,(j:Int))
def wLink (d s:Int) (k t:Nat):DLink:=(2*d+(t:Int),2*s+(t:Int),2,(k:Int))
theorem clinkF_mem {f a b x:Int} {tr:List (Int×Int)} {s:List DLink} {l:DLink}:∀ k,l∈foldN (clinkF f a b x tr) k s→l∈s∨∃ t,t < k∧l=(2*(f+a)+(tr.getD t (0,0)).1,2*(f+b)+(tr.getD t (0,0)).2,1,x)
  | 0,h=>.inl h
  | k+1,h=>by
    rcases List.mem_append.1 (show l∈foldN (clinkF f a b x tr) k s++[_] from h) with h | h
    · rcases clinkF_mem k h with h | ⟨t,ht,e⟩
      · exact .inl h
      · exact .inr ⟨t,by omega,e⟩
    · exact .inr ⟨k,by omega,List.mem_singleton.1 h⟩
theorem carcF_mem {f:Int} {arcs:Nat→DArc} {s:List DLink} {l:DLink}:∀ m,l∈foldN (carcF f arcs) m s→l∈s∨∃ j t,j < m∧t < (transV (arcs j).1 (arcs j).2.2.2.1).length∧l=cLink f (arcs j) j t
  | 0,h=>.inl h
  | m+1,h=>by
    rcases clinkF_mem _ (show l∈foldN (clinkF f _ _ (m:Int) _) _ (foldN (carcF f arcs) m s) from h) with h | ⟨t,ht,e⟩
    · rcases carcF_mem m h with h | ⟨j,t,hj,ht,e⟩
      · exact .inl h
      · exact .inr ⟨j,t,by omega,ht,e⟩
    · exact .inr ⟨m,t,by omega,ht,e⟩
theorem instLF_fst {nets:Nat→Nat} {arcs:Nat→Nat→DArc} {ms:Nat→Nat} {x:Nat→DInst} (hx:∀ i,nets i=(x i).2.2.length):∀ m,(foldN (instLF nets arcs ms) m (0,[])).1=(offs x m:Int)
  | 0=>rfl
  | m+1=>by
    show (foldN (instLF nets arcs ms) m (0,[])).1+(nets m:Int)=((offs x m+(x m).2.2.length:Nat):Int)
    rw [instLF_fst hx m,hx m]; omega
theorem instLF_mem {nets:Nat→Nat} {arcs:Nat→Nat→DArc} {ms:Nat→Nat} {x:Nat→DInst} (hx:∀ i,nets i=(x i).2.2.length) {l:DLink}:∀ m,l∈(foldN (instLF nets arcs ms) m (0,[])).2→∃ i j t,i < m∧j < ms i∧t < (transV (arcs i j).1 (arcs i j).2.2.2.1).length∧l=cLink (offs x i:Int) (arcs i j) j t
  | 0,h=>by cases h
  | m+1,h=>by
    rcases List.mem_append.1 (show l∈(foldN (instLF nets arcs ms) m (0,[])).2++cellLinksD _ _ _ from h) with h | h
    · obtain ⟨i,j,t,hi,hr⟩:=instLF_mem hx m h
      exact ⟨i,j,t,by omega,hr⟩
    · rcases carcF_mem _ h with h | ⟨j,t,hj,ht,e⟩
      · cases h
      · rw [instLF_fst hx m] at e
        exact ⟨m,j,t,by omega,hj,ht,e⟩
theorem wsinkF_mem {d:Int} {sn:List Int} {z:List DLink} {l:DLink}:∀ k,l∈foldN (wsinkF d sn) k z→l∈z∨∃ j t,j < k∧t < 2∧l=wLink d (sn.getD j 0) j t
  | 0,h=>.inl h
  | k+1,h=>by
    have h:l∈(foldN (wsinkF d sn) k z++[wLink d (sn.getD k 0) k 0])++[wLink d (sn.getD k 0) k 1]:=h
    rcases List.mem_append.1 h with h | h
    · rcases List.mem_append.1 h with h | h
      · rcases wsinkF_mem k h with h | ⟨j,t,hj,ht,e⟩
        · exact .inl h
        · exact .inr ⟨j,t,by omega,ht,e⟩
      · exact .inr ⟨k,0,by omega,by omega,List.mem_singleton.1 h⟩
    · exact .inr ⟨k,1,by omega,by omega,List.mem_singleton.1 h⟩
theorem netLF_mem {d:Nat→Int} {sn:Nat→List Int} {z:List DLink} {l:DLink}:∀ m,l∈foldN (netLF d sn) m z→l∈z∨∃ i j t,i < m∧j < (sn i).length∧t < 2∧l=wLink (d i) ((sn i).getD j 0) j t
  | 0,h=>.inl h
  | m+1,h=>by
    rcases wsinkF_mem _ (show l∈foldN (wsinkF (d m) (sn m)) _ (foldN (netLF d sn) m z) from h) with h | ⟨j,t,hj,ht,e⟩
    · rcases netLF_mem m h with h | ⟨i,j,t,hi,hr⟩
      · exact .inl h
      · exact .inr ⟨i,j,t,by omega,hr⟩
    · exact .inr ⟨m,j,t,by omega,hj,ht,e⟩
/-! ### The links of a cell, appended one by one -/
theorem clinkF_app (f a b x:Int) (tr:List (Int×Int)) (s:List DLink):∀ k,foldN (clinkF f a b x tr) k s=s++foldN (clinkF f a b x tr) k []
  | 0=>(List.append_nil _).symm
  | k+1=>by
    show foldN (clinkF f a b x tr) k s++[_]=s++(foldN (clinkF f a b x tr) k []++[_])
    rw [clinkF_app f a b x tr s k,List.append_assoc]
theorem carcF_app (f:Int) (arcs:Nat→DArc) (s:List DLink):∀ m,foldN (carcF f arcs) m s=s++cellLinksD f arcs m
  | 0=>(List.append_nil _).symm
  | m+1=>by
    show carcF f arcs m (foldN (carcF f arcs) m s)=s++carcF f arcs m (cellLinksD f arcs m)
    rw [carcF_app f arcs s m]
    unfold carcF
    rw [clinkF_app,clinkF_app _ _ _ _ _ (cellLinksD f arcs m),List.append_assoc]
end Go.Proofs.Xd
end
section
/- The loads of a net's wire, and the delays of its sinks: the reference's way. -/
namespace Go.Proofs.YticmgmebjmblgaaGreatDoor
open Go Go.Proofs Go.Proofs.Sv Go.Proofs.Xv Go.Proofs.Xl Go.Proofs.Xd
theorem r161 (l:List Y145) (d:Y42) (df:DF l d) {p:DPlace} (hp:p∈plcs d):u161 l d p=some (capV l d p):=by
  unfold u161 capV
  rcases plc_pin df hp with h | ⟨h1,h2,h3,h4,h5,h6⟩
  · rw [if_pos (by rw [h.1]; decide),if_pos (by omega)]
  · refine (if_neg (by simp; omega)).trans ?_
    rw [if_neg (by omega),gd_pos ⟨⟨by omega,by omega⟩,⟨h3,by show (insOf d p.1.toNat).2.1 < _; omega⟩,⟨h5,by show p.2.1 < (((l.getD (insOf d p.1.toNat).2.1.toNat (dflt y145)).2.2.1.length:Nat):Int); omega⟩,trivial⟩]
    rfl
theorem r160 (xs:List Int) (h:xs.length≤1048576):u160 xs=some xs:=gd_pos ⟨⟨by omega,by omega⟩,trivial⟩
theorem r118 (b:Y45) (hw:wf y45 b) {i:Nat} (h:NetOk b i):u118 b (i:Int)=some (loadsV b i):=by
  have hd:=hw.2.1
  have df:=h.df
  have hb:=hw.2.2.1
  have hi:=h.lt
  have n1:=h.wf.n1
  have n8:=h.wf.n8
  have hsn:=h.sn
  have hs:=h.s78
  have hcl:=h.wf.cap
  unfold u118
  have e3:((i:Int)).toNat=i:=rfl
  have es:u78 b.2.1 (i:Int)=some (sinksV b.2.1 i):=r78 b.2.1 hd df _
  rw [gd_pos ⟨⟨by omega,by omega⟩,trivial⟩,lt_eq,e3,r160 _ (by show (wirOf b i).2.2.1.length≤_; omega),vl_some,gd_pos ⟨rfl,trivial⟩,lt_eq,r117 b.2.1 hd df.fac.ni14 df.fac.np8 df.pin,vl_some,gd_pos ⟨rfl,trivial⟩,lt_eq,es,vl_some,gd_pos ⟨rfl,trivial⟩,lt_eq]
  have key:=lp_fold (n:=(sinksV b.2.1 i).length) (by omega) (fun k (s:List Int)=>((k:Int),s)) (capF (nodeS b i) (capS b i)) (fun k v=>Low v (wirOf b i).1.length (500*((wirOf b i).1.length:Int)+500*(k:Int))) (J:=u118J0 (wirOf b i)) (F:=u118L1 b (plcs b.2.1) (sinksV b.2.1 i) (wirOf b i)) (fun g k v hk hI=>by
    have e4:((k:Int)).toNat=k:=rfl
    obtain ⟨c1,c2,c3,c4⟩:=h.capIn hk
    obtain ⟨c5,c6⟩:=sinksV_at hk
    have hv:=hI.bd (by omega) (nodeS b i k).toNat
    have c1':0≤(wirOf b i).2.2.2.getD k 0:=c1
    have c2':((wirOf b i).2.2.2.getD k 0).toNat < v.length:=by rw [hI.len]; exact c2
    refine (if_pos (by simpa using hk)).trans ?_
    rw [e4,r161 b.1 b.2.1 df (plc_mem c6),vl_some]
    rw [gd_pos ⟨⟨by omega,by omega⟩,⟨c1',by omega⟩,c2',⟨by omega,by omega⟩,hk,⟨c5,by omega⟩,c6,rfl,⟨by show _≤v.getD (nodeS b i k).toNat 0+capS b i k; omega,by show v.getD (nodeS b i k).toNat 0+capS b i k≤_; omega⟩,⟨c1',by omega⟩,c2',trivial⟩,lt_eq]
    exact gd_pos ⟨⟨by omega,by omega⟩,trivial⟩) (fun k v hk hI=>by
    obtain ⟨c1,c2,c3,c4⟩:=h.capIn hk
    have:=hI.add c2 c3
    refine ⟨this.len,this.pos,Int.le_trans this.sum ?_⟩
    rw [Int.natCast_add,Int.mul_add]
    simp only [Int.natCast_one]
    omega) (fun g s _=>all_end) (wirOf b i).2.2.1 (by
    have:=h.low 0 (Nat.zero_le _)
    exact this)
  refine key.trans ?_
  have hl0:=(h.low _ (Nat.le_refl _)).len
  have hp0:=h.pull 0 (Nat.zero_le _)
  have hL:loadsV b i=foldN (pullF (parS b i) (wirOf b i).1.length) ((wirOf b i).1.length - 1) (foldN (capF (nodeS b i) (capS b i)) (sinksV b.2.1 i).length (wirOf b i).2.2.1):=rfl
  rw [hL]
  have hpl:=h.pull
  generalize foldN (capF (nodeS b i) (capS b i)) (sinksV b.2.1 i).length (wirOf b i).2.2.1=v0 at hl0 hp0 hpl ⊢
  rw [u118J0,hl0,gd_pos ⟨⟨by omega,by omega⟩,trivial⟩]
  have e5:(((wirOf b i).1.length:Int) - 1,v0)=(fun (k:Nat) (s:List Int)=>(((wirOf b i).1.length:Int) - 1 - (k:Int),s)) 0 v0:=by simp
  rw [e5]
  exact lp_fold (n:=(wirOf b i).1.length - 1) (by omega) (fun (k:Nat) (s:List Int)=>(((wirOf b i).1.length:Int) - 1 - (k:Int),s)) (pullF (parS b i) (wirOf b i).1.length) (fun k v=>Pull v (wirOf b i).1.length k 43000) (J:=fun s=>some s) (F:=u118L3 (wirOf b i)) (fun g k v hk hI=>by
    have hp:=h.wf.par ((wirOf b i).1.length - 1 - k) (by omega) (by omega)
    have hp':0≤(wirOf b i).1.getD ((wirOf b i).1.length - 1 - k) 0∧((wirOf b i).1.getD ((wirOf b i).1.length - 1 - k) 0).toNat < (wirOf b i).1.length - 1 - k:=hp
    have hlen:=hI.len
    have e6:((wirOf b i).1.length:Int) - 1 - (k:Int)=(((wirOf b i).1.length - 1 - k:Nat):Int):=by omega
    have e7:((((wirOf b i).1.length - 1 - k:Nat):Int)).toNat=(wirOf b i).1.length - 1 - k:=rfl
    have b1:=hI.pos ((wirOf b i).1.getD ((wirOf b i).1.length - 1 - k) 0).toNat
    have b2:=hI.bd ((wirOf b i).1.getD ((wirOf b i).1.length - 1 - k) 0).toNat
    have b3:=hI.pos ((wirOf b i).1.length - 1 - k)
    have b4:=hI.bd ((wirOf b i).1.length - 1 - k)
    have e8:((wirOf b i).1.length:Int) - 1 - ((k+1:Nat):Int)=(((wirOf b i).1.length - 1 - k:Nat):Int) - 1:=by omega
    show u118L3 (wirOf b i) g (((wirOf b i).1.length:Int) - 1 - (k:Int),v)=g (((wirOf b i).1.length:Int) - 1 - ((k+1:Nat):Int),pullF (parS b i) (wirOf b i).1.length k v)
    rw [e8,e6]
    refine (if_pos (decide_eq_true (by omega))).trans ?_
    rw [e7,gd_pos ⟨⟨by omega,by omega⟩,⟨hp'.1,by omega⟩,by omega,⟨by omega,by omega⟩,by omega,⟨by omega,by omega⟩,⟨hp'.1,by omega⟩,by omega,trivial⟩,lt_eq]
    exact gd_pos ⟨⟨by omega,by omega⟩,trivial⟩) (fun k v hk hI=>pull_step hI hk (h.wf.par _ (by omega) (by omega))) (fun g s _=>by
    have e9:((wirOf b i).1.length:Int) - 1 - (((wirOf b i).1.length - 1:Nat):Int)=0:=by omega
    show u118L3 (wirOf b i) g (((wirOf b i).1.length:Int) - 1 - (((wirOf b i).1.length - 1:Nat):Int),s)=some s
    rw [e9]
    have:u118L3 (wirOf b i) g (0,s)=u118J2 s:=by
      rw [u118L3]
      exact if_neg (by decide)
    exact this.trans rfl) v0 hp0
theorem r135 (b:Y45) (hw:wf y45 b) {i:Nat} (h:NetOk b i):u135 b (i:Int)=some (delaysV b i):=by
  have hi:=h.lt
  have hb:=hw.2.2.1
  have n1:=h.wf.n1
  have n8:=h.wf.n8
  have hr:=h.wf.res
  obtain ⟨ll,lb⟩:=h.loads
  have e3:((i:Int)).toNat=i:=rfl
  unfold u135
  rw [r118 b hw h,vl_some,gd_pos ⟨⟨by omega,by omega⟩,trivial⟩,lt_eq,gd_pos ⟨rfl,trivial⟩,lt_eq,e3]
  have e5:((1:Int),[(0:Int)])=(fun (k:Nat) (s:List Int)=>(((k+1:Nat):Int),s)) 0 [0]:=rfl
  rw [e5]
  refine (lp_fold (n:=(wirOf b i).1.length - 1) (by omega) (fun (k:Nat) (s:List Int)=>(((k+1:Nat):Int),s)) (delF (parS b i) (resS b i) (fun k=>(loadsV b i).getD k 0)) (fun k s=>s.length=k+1∧∀ j,0≤s.getD j 0∧s.getD j 0≤1000*43000*(k:Int)) (J:=fun s=>some s) (F:=u135L1 (wirOf b i) (loadsV b i)) (fun g k s hk hI=>?_) (fun k s hk hI=>?_) (fun g s hI=>?_) [0] ?_)
  · obtain ⟨hl,hs⟩:=hI
    have hp:=h.wf.par (k+1) (by omega) (by omega)
    have e4:(((k+1:Nat):Int)).toNat=k+1:=rfl
    have r1:=h.wf.resIn (k+1) (by omega)
    have l1:=lb (k+1)
    have hm:=mul_le r1.1 r1.2 l1.1 l1.2
    have hs1:=hs ((wirOf b i).1.getD (k+1) 0).toNat
    refine (if_pos (by simp; omega)).trans ?_
    rw [e4,gd_pos ⟨⟨by omega,by omega⟩,⟨hp.1,by omega⟩,by omega,⟨by omega,by omega⟩,⟨by omega,by omega⟩,by omega,⟨by omega,by omega⟩,⟨by omega,by omega⟩,⟨by show s.length+1≤_; omega,by show (s.length+1)*8≤_; omega⟩,trivial⟩,lt_eq]
    exact gd_pos ⟨⟨by omega,by omega⟩,trivial⟩
  · obtain ⟨hl,hs⟩:=hI
    have r1:=h.wf.resIn (k+1) (by omega)
    have l1:=lb (k+1)
    have hm:=mul_le r1.1 r1.2 l1.1 l1.2
    have hs1:=hs (parS b i (k+1)).toNat
    unfold delF
    refine ⟨by rw [List.length_append,hl]; rfl,fun j=>?_⟩
    have hm:0≤resS b i (k+1)*(loadsV b i).getD (k+1) 0∧resS b i (k+1)*(loadsV b i).getD (k+1) 0≤1000*43000:=hm
    rcases Nat.lt_or_ge j s.length with hj | hj
    · have:=hs j
      rw [getD_left hj]; omega
    · rw [getD_right hj]
      cases hjs:j - s.length with
      | zero=>simp only [List.getD_cons_zero]; omega
      | succ q=>simp only [List.getD_cons_succ,List.getD_nil]; omega
  · have e9:(wirOf b i).1.length - 1+1=(loadsV b i).length:=by omega
    show u135L1 (wirOf b i) (loadsV b i) g ((((wirOf b i).1.length - 1+1:Nat):Int),s)=some s
    rw [e9]
    exact all_end
  · exact h.del 0 (Nat.zero_le _)
def sdelV (b:Y45) (i:Nat) (m:Int):List Int:=foldN (appF fun k=>divV ((delaysV b i).getD (nodeS b i k).toNat 0) 1000 m) (sinksV b.2.1 i).length []
theorem r109 (b:Y45) (hw:wf y45 b) {i:Nat} (h:NetOk b i) (m:Int):u109 b (i:Int) m=some (sdelV b i m):=by
  have hi:=h.lt
  have hb:=hw.2.2.1
  have hsn:=h.sn
  have hs:=h.s78
  obtain ⟨dl,db⟩:=h.delays
  have e3:((i:Int)).toNat=i:=rfl
  unfold u109
  rw [r135 b hw h,vl_some,gd_pos ⟨rfl,trivial⟩,lt_eq]
  unfold sdelV
  rw [← hsn]
  refine lp_fold (n:=(wirOf b i).2.2.2.length) (by omega) (fun (k:Nat) (s:List Int)=>((k:Int),s)) (appF fun k=>divV ((delaysV b i).getD (nodeS b i k).toNat 0) 1000 m) (fun k s=>s.length=k) (J:=fun s=>some s) (F:=u109L1 (delaysV b i) b (i:Int) m) (fun g k s hk hI=>?_) (fun k s hk hI=>?_) (fun g s _=>?_) [] rfl
  · have e4:((k:Int)).toNat=k:=rfl
    have h1:0≤(b.2.2.getD i (dflt y137)).2.2.2.getD k 0∧((b.2.2.getD i (dflt y137)).2.2.2.getD k 0).toNat < (delaysV b i).length:=by rw [dl]; exact h.wf.snkIn k hk
    have hk':k < (b.2.2.getD i (dflt y137)).2.2.2.length:=hk
    have hI:s.length=k:=hI
    have hd:=db ((wirOf b i).2.2.2.getD k 0).toNat
    have ed:=(r1142 ((delaysV b i).getD ((wirOf b i).2.2.2.getD k 0).toNat 0) 1000 m (by omega) (by omega) (by decide)).2
    refine (gd_pos ⟨⟨by omega,by omega⟩,trivial⟩).trans ?_
    refine (if_pos (by simpa using hk)).trans ?_
    rw [e3,e4,ed,vl_some,gd_pos ⟨⟨by omega,by omega⟩,⟨by omega,by omega⟩,⟨h1.1,by omega⟩,by omega,rfl,⟨by show s.length+1≤_; omega,by show (s.length+1)*8≤_; omega⟩,trivial⟩,lt_eq]
    exact gd_pos ⟨⟨by omega,by omega⟩,trivial⟩
  · have hI:s.length=k:=hI
    unfold appF
    rw [List.length_append,hI]; rfl
  · refine (gd_pos ⟨⟨by omega,by omega⟩,trivial⟩).trans ?_
    exact all_end
theorem sdelV_get {b:Y45} {i k:Nat} {m:Int} (hk:k < (sinksV b.2.1 i).length):(sdelV b i m).getD k 0=divV ((delaysV b i).getD (nodeS b i k).toNat 0) 1000 m:=appF_get _ 0 _ k hk
theorem sdelV_len (b:Y45) (i:Nat) (m:Int):(sdelV b i m).length=(sinksV b.2.1 i).length:=appF_len _ _
end Go.Proofs.YticmgmebjmblgaaGreatDoor
end
section
/- The links of a block: the reference's way. -/
namespace Go.Proofs.YticmgmebjmblgaaGreatDoor
open Go Go.Proofs Go.Proofs.Sv Go.Proofs.Xv Go.Proofs.Xl Go.Proofs.Xd
theorem r85 (l:List DLink) (f t a b k i:Int) (hf:0≤f∧f≤1000) (ht:0≤t∧t≤1000) (ha:0≤a∧a≤1) (hb:0≤b∧b≤1) (hl:l.length≤100000):u85 l f t a b k i=some (l++[(2*f+a,2*t+b,k,i)]) :=
  gd_pos ⟨⟨by omega,by omega⟩,⟨by omega,by omega⟩,⟨by omega,by omega⟩,⟨by omega,by omega⟩,⟨by show l.length+1≤_; omega,by show (l.length+1)*32≤_; omega⟩,trivial⟩
def fitsV (k s:Int) (x y:Nat):Bool:=if (k==1)=true then s==3||(s==1)==((x:Int)==(y:Int)) else if (k==2)=true then (x:Int)==0 else if (k==3)=true then (x:Int)==1 else false
def arcE (k s f t i:Int) (x y:Nat) (l:List DLink):List DLink:=if fitsV k s x y=true then l++[(2*f+(x:Int),2*t+(y:Int),1,i)] else l
theorem arcE_len (k s f t i:Int) (x y:Nat) (l:List DLink):(arcE k s f t i x y l).length≤l.length+1:=by
  unfold arcE
  split
  · rw [List.length_append]; exact Nat.le_refl _
  · omega
theorem arcE_fold (k s f t i:Int) (x:Nat) (l:List DLink):∀ n,(foldN (arcE k s f t i x) n l).length≤l.length+n
  | 0=>Nat.le_refl _
  | n+1=>by
    have h:=arcE_fold k s f t i x l n
    have:=arcE_len k s f t i x n (foldN (arcE k s f t i x) n l)
    show (arcE k s f t i x n (foldN (arcE k s f t i x) n l)).length≤_
    omega
theorem r82 (a:Y102) (l:List DLink) (f t i:Int) (hf:0≤f∧f≤1000) (ht:0≤t∧t≤1000) (hl:l.length≤90000):u82 l a f t i=some (foldN (fun x s=>foldN (arcE a.1 a.2.2.2.1 f t i x) 2 s) 2 l):=by
  unfold u82
  refine lp_fold (n:=2) (by decide) (fun (x:Nat) (s:List DLink)=>((x:Int),s)) (fun x s=>foldN (arcE a.1 a.2.2.2.1 f t i x) 2 s) (fun x s=>s.length≤l.length+2*x) (J:=fun s=>some s) (F:=u82L1 f t i a) (fun g x s hx hI=>?_) (fun x s hx hI=>?_) (fun g s _=>by
    show u82L1 f t i a g (((2:Nat):Int),s)=_
    rw [u82L1]
    exact if_neg (by decide)) l (Nat.le_refl _)
  · have hI:s.length≤l.length+2*x:=hI
    refine (if_pos (decide_eq_true (by omega))).trans ?_
    refine (lp_fold (n:=2) (by decide) (fun (y:Nat) (s:List DLink)=>((y:Int),s)) (arcE a.1 a.2.2.2.1 f t i x) (fun y s=>s.length≤l.length+2*x+y) (J:=fun s=>u82J2 (x:Int) g s) (F:=u82L3 f t (x:Int) i a g) (fun g' y s hy hI=>?_) (fun y s hy hI=>?_) (fun g' s _=>by
      show u82L3 f t (x:Int) i a g g' (((2:Nat):Int),s)=_
      rw [u82L3]
      exact if_neg (by decide)) s hI).trans ?_
    · have hI:s.length≤l.length+2*x+y:=hI
      have j4:∀ v,u82J4 (y:Int) g' v=g' (((y+1:Nat):Int),v):=fun v=>gd_pos ⟨⟨by omega,by omega⟩,trivial⟩
      have j5:∀ v,u82J5 (y:Int) s f t (x:Int) i g' v=g' (((y+1:Nat):Int),if v=true then s++[(2*f+(x:Int),2*t+(y:Int),1,i)] else s):=fun v=>by
        cases v with
        | true=>rw [u82J5,if_pos rfl,if_pos rfl,r85 s f t x y 1 i hf ht (by omega) (by omega) (by omega),gd_pos ⟨rfl,trivial⟩,vl_some,lt_eq,j4]
        | false=>rw [u82J5,if_neg (by simp),if_neg (by simp),j4]
      refine (if_pos (decide_eq_true (by omega))).trans ?_
      show _=g' (((y+1:Nat):Int),arcE a.1 a.2.2.2.1 f t i x y s)
      unfold arcE fitsV
      rw [j5,j5,j5,j5]
      by_cases h1:(a.1==1)=true
      · rw [if_pos h1,if_pos h1]
      rw [if_neg h1,if_neg h1]
      by_cases h2:(a.1==2)=true
      · rw [if_pos h2,if_pos h2]
      rw [if_neg h2,if_neg h2]
      by_cases h3:(a.1==3)=true
      · rw [if_pos h3,if_pos h3]
      rw [if_neg h3,if_neg h3]
    · have hI:s.length≤l.length+2*x+y:=hI
      have:=arcE_len a.1 a.2.2.2.1 f t i x y s
      omega
    · exact gd_pos ⟨⟨by omega,by omega⟩,trivial⟩
  · have hI:s.length≤l.length+2*x:=hI
    have:=arcE_fold a.1 a.2.2.2.1 f t i x s 2
    omega
theorem arc_eq {k s:Int} (h:(k=1∧(s=1∨s=2∨s=3))∨k=2∨k=3) (fo A B i:Int) (l:List DLink):foldN (fun x z=>foldN (arcE k s (fo+A) (fo+B) i x) 2 z) 2 l=foldN (clinkF fo A B i (transV k s)) (transV k s).length l:=by
  rcases h with ⟨rfl,rfl | rfl | rfl⟩ | rfl | rfl <;> rfl
theorem find_first {b:Nat→Bool} {n m:Nat} (hm:m < n) (h1:b m=true) (h2:∀ j,j < m→b j=false):(List.range n).find? b=some m:=by
  rw [List.find?_range_eq_some]
  refine ⟨h1,List.mem_range.2 hm,fun j hj=>?_⟩
  rw [h2 j hj]; rfl
theorem r83 (d:Y42) (hd:wf y42 d) {l:List Y145} (df:DF l d) {i k:Nat} (hi:i < d.1.length) (hk:k < (insOf d i).2.2.length):u83 d (i:Int) (k:Int)=some ((offs (insOf d) i+k:Nat):Int)∧offs (insOf d) i+k < (plcs d).length:=by
  have hl:=df.len
  have hlt:offs (insOf d) i+k < (plcs d).length:=by
    have:=offs_lt (insOf d) hi hk
    unfold plcs
    rw [places_len]; omega
  refine ⟨?_,hlt⟩
  unfold u83
  rw [r117 d hd df.fac.ni14 df.fac.np8 df.pin,vl_some,gd_pos ⟨rfl,trivial⟩,lt_eq]
  have ho:∀ j,j < (plcs d).length→((plcOf d j).1==(i:Int)&&(plcOf d j).2.1==(k:Int))=decide (j=offs (insOf d) i+k):=fun j hj=>place_only d.1.length d.2.2.length (insOf d) (prtOf d) (dflt y159) hi hk hj
  have key:=idx_some (n:=(plcs d).length) (by omega) (fun j=>(plcOf d j).1==(i:Int)&&(plcOf d j).2.1==(k:Int)) (F:=u83L1 (plcs d) (i:Int) (k:Int)) (fun g j hj=>by
    have e3:((j:Int)).toNat=j:=rfl
    refine (if_pos (by simpa using hj)).trans ?_
    rw [e3,gd_pos ⟨⟨by omega,by omega⟩,hj,(fun _=>⟨by omega,by omega⟩),(fun _=>hj),trivial⟩,gd_pos ⟨⟨by omega,by omega⟩,trivial⟩]) (fun g=>all_end)
  refine key.trans ?_
  rw [find_first hlt (by rw [ho _ hlt,decide_eq_true rfl]) (fun j hj=>by rw [ho j (by omega)]; exact decide_eq_false (by omega))]
theorem drv_cnt {b:Y45} (hb:blockOk b=true) {t:Nat} (ht:t < b.2.2.length):cntF (drvB (plcOf b.2.1) t) (plcs b.2.1).length=1:=by
  obtain ⟨hd,hlen,_⟩:=block_design hb
  have df:=df_of hd
  have hD:designB _ _ _ _ _ _ _ _ _=true:=hd
  unfold designB at hD
  rw [Bool.and_eq_true] at hD
  have hx:∀ i,i < b.2.1.1.length→1≤(insOf b.2.1 i).2.2.length∧inB ((insOf b.2.1 i).2.2.getD ((insOf b.2.1 i).2.2.length - 1) 0) 0 ((b.2.1.2.1.length:Int) - 1)=true:=fun i hi=>by
    have h1:=(df.pin i hi).1
    exact ⟨h1,df.fac.net.1 i hi _ (by omega)⟩
  obtain ⟨p1,p2⟩:=port_cnt (d:=dflt y159) hx (fun i hi=>df.fac.net.2 i hi) b.2.1.2.2.length (Nat.le_refl _)
  have hall:=all_getD (p:=fun x=>x==1) hD.2 (i:=t) (by
    unfold driveN
    rw [p1]; omega)
  have h1:(driveN b.2.1.1.length b.2.1.2.2.length b.2.1.2.1.length (insOf b.2.1) (prtOf b.2.1)).getD t 0=1:=beq_iff_eq.1 hall
  have h2:=p2 t (by omega)
  unfold driveN at h1
  rw [h1] at h2
  have h3:(plcs b.2.1).length=offs (insOf b.2.1) b.2.1.1.length+b.2.1.2.2.length:=places_len _ _ _ _
  rw [h3]
  exact Int.ofNat.inj h2.symm
theorem r84 (b:Y45) (hw:wf y45 b) (hb:blockOk b=true) {t:Nat} (ht:t < b.2.2.length):u84 b.2.1 (t:Int)=some (drvV b t)∧0≤drvV b t∧(drvV b t).toNat < (plcs b.2.1).length:=by
  have df:=df_of (block_design hb).1
  have hl:=df.len
  obtain ⟨i,h1,h2,h3,h4⟩:=drv_one (drv_cnt hb ht)
  have hv:drvV b t=(i:Int):=h4
  refine ⟨?_,by omega,by omega⟩
  unfold u84
  rw [r117 b.2.1 hw.2.1 df.fac.ni14 df.fac.np8 df.pin,vl_some,gd_pos ⟨rfl,trivial⟩,lt_eq]
  have key:=idx_some (n:=(plcs b.2.1).length) (by omega) (drvB (plcOf b.2.1) t) (F:=u84L1 (plcs b.2.1) (t:Int)) (fun g j hj=>by
    have e3:((j:Int)).toNat=j:=rfl
    refine (if_pos (by simpa using hj)).trans ?_
    rw [e3,gd_pos ⟨⟨by omega,by omega⟩,hj,(fun _=>⟨by omega,by omega⟩),(fun _=>hj),trivial⟩,gd_pos ⟨⟨by omega,by omega⟩,trivial⟩]
    rfl) (fun g=>all_end)
  refine key.trans ?_
  rw [find_first h1 h2 (fun j hj=>by rw [h3 j (by omega)]; exact decide_eq_false (by omega)),hv]
end Go.Proofs.YticmgmebjmblgaaGreatDoor
end
section
/- The links of a block: both ways are the same, and what they are. -/
namespace Go.Proofs.YticmgmebjmblgaaGreatDoor
open Go Go.Proofs Go.Proofs.Sv Go.Proofs.Xv Go.Proofs.Xl Go.Proofs.Xd
theorem arc_facts {c:Y145} (h:cellOk isArcS c=true) {j:Nat} (hj:j < c.2.2.2.1.length):isArcS c.2.2.1.length (pinOf c) (arcOf c j)=true:=by
  have h:cellB isArcS _ _ _ _ _ _ _ _ _=true:=h
  unfold cellB arcsB at h
  simp only [Bool.and_eq_true,decide_eq_true_eq] at h
  have:=not_any.1 h.1.1.1.2.2 j hj
  rw [Bool.or_eq_false_iff,Bool.not_eq_false'] at this
  exact this.1
theorem arc_comb {n:Nat} {p:Nat→DPin} {a:DArc} (h:isArcS n p a=true) (hk:a.1≤3):((a.1=1∧(a.2.2.2.1=1∨a.2.2.2.1=2∨a.2.2.2.1=3))∨a.1=2∨a.1=3)∧areTables a.2.2.2.2.1 true=true∧areTables a.2.2.2.2.2 true=true:=by
  unfold isArcS at h
  simp only [Bool.and_eq_true] at h
  obtain ⟨_,h⟩:=h
  by_cases h1:a.1=1
  · rw [if_pos h1] at h
    simp only [Bool.and_eq_true] at h
    have:=inB_iff.1 h.1.1.2
    exact ⟨.inl ⟨h1,by omega⟩,h.1.2,h.2⟩
  rw [if_neg h1] at h
  by_cases h2:a.1=2∨a.1=3
  · rw [if_pos h2] at h
    simp only [Bool.and_eq_true] at h
    exact ⟨.inr h2,h.1.2,h.2⟩
  rw [if_neg h2] at h
  by_cases h3:a.1=4∨a.1=5
  · omega
  · rw [if_neg h3] at h; cases h
theorem trans_none {k s:Int} (h:3 < k):transV k s=[]:=by
  unfold transV
  rw [if_neg (by rw [beq_iff_eq]; omega),if_neg (by rw [beq_iff_eq]; omega),if_pos (by rw [bne_iff_ne]; omega)]
theorem trans_kind {k s:Int} (h:0 < (transV k s).length):k=1∨k=2∨k=3:=by
  unfold transV at h
  by_cases h2:(k==2)=true
  · exact .inr (.inl (beq_iff_eq.1 h2))
  by_cases h3:(k==3)=true
  · exact .inr (.inr (beq_iff_eq.1 h3))
  by_cases h1:(k != 1)=true
  · rw [if_neg h2,if_neg h3,if_pos h1] at h
    cases h
  · exact .inl (by simpa using h1)
def cellF (b:Y45) (i:Nat) (s:List DLink):List DLink:=s++cellLinksD (offs (insOf b.2.1) i) (arcOf (celI b i)) (celI b i).2.2.2.1.length
theorem cellF_fold (b:Y45):∀ n,foldN (cellF b) n []=(foldN (instLV b) n (0,[])).2
  | 0=>rfl
  | n+1=>by
    show cellF b n (foldN (cellF b) n [])=(foldN (instLV b) n (0,[])).2++cellLinksD (foldN (instLV b) n (0,[])).1 (arcOf (celI b n)) (celI b n).2.2.2.1.length
    have h1:(foldN (instLV b) n (0,[])).1=(offs (insOf b.2.1) n:Int):=instLF_fst (fun _=>rfl) n
    rw [cellF_fold b n,h1]; rfl
theorem sink_place {b:Y45} (df:DF b.1 b.2.1) {t:Int} {k:Nat} (hk:k < (sinksV b.2.1 t).length):0≤(sinksV b.2.1 t).getD k 0∧(sinksV b.2.1 t).getD k 0≤1000:=by
  have:=sinksV_at hk
  have:=df.len
  omega
theorem r39 (b:Y45) (hw:wf y45 b) (hb:blockOk b=true):u39 b=some (linksV b):=by
  obtain ⟨hd0,hlen,hwire⟩:=block_design hb
  have df:=df_of hd0
  have hd:=hw.2.1
  have h14:=df.fac.ni14
  have h30:=df.fac.nn30
  have hpl:=df.len
  unfold u39
  refine (lp_fold (n:=b.2.1.1.length) (by omega) (fun (i:Nat) (s:List DLink)=>((i:Int),s)) (cellF b) (fun i s=>s.length≤32*i) (J:=u39J0 b) (F:=u39L1 b) (fun g i s hi hI=>?_) (fun i s hi hI=>?_) (fun g s _=>all_end) [] (Nat.le_refl _)).trans ?_
  · have hI:s.length≤32*i:=hI
    have e3:((i:Int)).toNat=i:=rfl
    obtain ⟨x1,x2,x3⟩:=inst_cell' df hi
    obtain ⟨c1,c2,c3,c4⟩:=cell_arcs x2
    have hfind:=fun k hk=>r83 b.2.1 hd df (i:=i) (k:=k) hi hk
    refine (if_pos (by simpa using hi)).trans ?_
    rw [e3,gd_pos ⟨⟨by omega,by omega⟩,x1,trivial⟩,lt_eq]
    refine (lp_fold (n:=(celI b i).2.2.2.1.length) (by omega) (fun (j:Nat) (z:List DLink)=>((j:Int),z)) (carcF (offs (insOf b.2.1) i) (arcOf (celI b i))) (fun j z=>z.length≤s.length+4*j) (J:=u39J2 (i:Int) g) (F:=u39L3 (celI b i) b (i:Int) g) (fun g' j z hj hz=>?_) (fun j z hj hz=>?_) (fun g' z _=>all_end) s (Nat.le_refl _)).trans ?_
    · have hz:z.length≤s.length+4*j:=hz
      have e4:((j:Int)).toNat=j:=rfl
      obtain ⟨a1,a2,a3,a4⟩:=c4 j hj
      have ha:=arc_facts x2 hj
      have j4:∀ v,u39J4 (j:Int) g' v=g' (((j+1:Nat):Int),v):=fun v=>gd_pos ⟨⟨by omega,by omega⟩,trivial⟩
      refine (if_pos (by simpa using hj)).trans ?_
      rw [e4,gd_pos ⟨⟨by omega,by omega⟩,trivial⟩]
      show (if decide ((arcOf (celI b i) j).1≤3)=true then _ else _)=g' (((j+1:Nat):Int),carcF (offs (insOf b.2.1) i) (arcOf (celI b i)) j z)
      by_cases hk:(arcOf (celI b i) j).1≤3
      · refine (if_pos (decide_eq_true hk)).trans ?_
        obtain ⟨k1,k2,k3⟩:=arc_comb ha hk
        obtain ⟨A,hA⟩:∃ A:Nat,(arcOf (celI b i) j).2.1=(A:Int):=⟨(arcOf (celI b i) j).2.1.toNat,by omega⟩
        obtain ⟨B,hB⟩:∃ B:Nat,(arcOf (celI b i) j).2.2.1=(B:Int):=⟨(arcOf (celI b i) j).2.2.1.toNat,by omega⟩
        obtain ⟨fA,lA⟩:=hfind A (by omega)
        obtain ⟨fB,lB⟩:=hfind B (by omega)
        have hs:=r82 (arcOf (celI b i) j) z ((offs (insOf b.2.1) i+A:Nat):Int) ((offs (insOf b.2.1) i+B:Nat):Int) (j:Int) (by omega) (by omega) (by omega)
        have ee:=arc_eq k1 (offs (insOf b.2.1) i:Int) (A:Int) (B:Int) (j:Int) z
        rw [← Int.natCast_add,← Int.natCast_add] at ee
        rw [ee] at hs
        show gd (ix (j:Int) (celI b i).2.2.2.1.length∧ix (j:Int) (celI b i).2.2.2.1.length∧(u83 b.2.1 (i:Int) (arcOf (celI b i) j).2.1).isSome=true∧ix (j:Int) (celI b i).2.2.2.1.length∧(u83 b.2.1 (i:Int) (arcOf (celI b i) j).2.2.1).isSome=true∧(u82 z (arcOf (celI b i) j) (vl (u83 b.2.1 (i:Int) (arcOf (celI b i) j).2.1)) (vl (u83 b.2.1 (i:Int) (arcOf (celI b i) j).2.2.1)) (j:Int)).isSome=true∧True) (lt (vl (u82 z (arcOf (celI b i) j) (vl (u83 b.2.1 (i:Int) (arcOf (celI b i) j).2.1)) (vl (u83 b.2.1 (i:Int) (arcOf (celI b i) j).2.2.1)) (j:Int))) fun v=>u39J4 (j:Int) g' v)=_
        rw [hA,hB,fA,fB,vl_some,vl_some,hs,vl_some,gd_pos ⟨⟨by omega,by omega⟩,⟨by omega,by omega⟩,rfl,⟨by omega,by omega⟩,rfl,rfl,trivial⟩,lt_eq,j4]
        unfold carcF
        rw [hA,hB]
      · refine (if_neg (by simpa using hk)).trans ?_
        rw [j4]
        unfold carcF
        rw [trans_none (by omega)]
        rfl
    · have hz:z.length≤s.length+4*j:=hz
      have:=carcF_len (offs (insOf b.2.1) i) (arcOf (celI b i)) j z
      omega
    · rw [carcF_app]
      exact gd_pos ⟨⟨by omega,by omega⟩,trivial⟩
  · have hI:s.length≤32*i:=hI
    obtain ⟨x1,x2,x3⟩:=inst_cell' df hi
    have c3:=(cell_arcs x2).2.2.1
    have:=cellLinksD_len (offs (insOf b.2.1) i) (arcOf (celI b i)) (celI b i).2.2.2.1.length
    unfold cellF
    rw [List.length_append]
    omega
  · have hcl:(foldN (cellF b) b.2.1.1.length []).length≤500:=by
      have:=instLV_in df b.2.1.1.length (Nat.le_refl _)
      rw [cellF_fold]
      omega
    have hcv:foldN (cellF b) b.2.1.1.length []=clinksV b:=cellF_fold b _
    unfold linksV
    rw [hcv] at hcl ⊢
    generalize clinksV b=z at hcl ⊢
    unfold u39J0
    rw [hlen]
    refine lp_fold (n:=b.2.1.2.1.length) (by omega) (fun (i:Nat) (s:List DLink)=>((i:Int),s)) (netLF (drvV b) (fun i=>sinksV b.2.1 i)) (fun i s=>s.length≤500+160*i) (J:=fun s=>some s) (F:=u39L6 b) (fun g i s hi hI=>?_) (fun i s hi hI=>?_) (fun g s _=>all_end) z hcl
    · have hI:s.length≤500+160*i:=hI
      have hi':i < b.2.2.length:=by omega
      have hs78:=(net_ok hb hi').s78
      obtain ⟨d1,d2,d3⟩:=r84 b hw hb hi'
      have es:u78 b.2.1 (i:Int)=some (sinksV b.2.1 i):=r78 b.2.1 hd df _
      refine (if_pos (by simpa using hi)).trans ?_
      rw [d1,vl_some,gd_pos ⟨rfl,trivial⟩,lt_eq,es,vl_some,gd_pos ⟨rfl,trivial⟩,lt_eq]
      refine (lp_fold (n:=(sinksV b.2.1 i).length) (by omega) (fun (k:Nat) (y:List DLink)=>((k:Int),y)) (wsinkF (drvV b i) (sinksV b.2.1 i)) (fun k y=>y.length=s.length+2*k) (J:=u39J7 (i:Int) g) (F:=u39L8 (drvV b i) (sinksV b.2.1 i) (i:Int) g) (fun g8 k y hk hy=>?_) (fun k y hk hy=>?_) (fun g8 y _=>all_end) s rfl).trans ?_
      · have hy:y.length=s.length+2*k:=hy
        have e4:((k:Int)).toNat=k:=rfl
        have hsp:=sink_place df hk
        have p1:=r85 y (drvV b i) ((sinksV b.2.1 i).getD k 0) 0 0 2 (k:Int) (by omega) hsp ⟨by omega,by omega⟩ ⟨by omega,by omega⟩ (by omega)
        have p2:=r85 (y++[(2*drvV b i+0,2*(sinksV b.2.1 i).getD k 0+0,2,(k:Int))]) (drvV b i) ((sinksV b.2.1 i).getD k 0) 1 1 2 (k:Int) (by omega) hsp ⟨by omega,by omega⟩ ⟨by omega,by omega⟩ (by rw [List.length_append]; show y.length+1≤_; omega)
        refine (if_pos (by simpa using hk)).trans ?_
        rw [e4,p1,vl_some,gd_pos ⟨⟨by omega,by omega⟩,hk,rfl,trivial⟩,lt_eq,p2,vl_some,gd_pos ⟨⟨by omega,by omega⟩,hk,rfl,trivial⟩,lt_eq]
        exact gd_pos ⟨⟨by omega,by omega⟩,trivial⟩
      · have hy:y.length=s.length+2*k:=hy
        rw [wsinkF_len,hy]; omega
      · exact gd_pos ⟨⟨by omega,by omega⟩,trivial⟩
    · have hI:s.length≤500+160*i:=hI
      have hs78:=(net_ok hb (show i < b.2.2.length by omega)).s78
      unfold netLF
      rw [wsink_len]
      show s.length+2*(sinksV b.2.1 i).length≤_
      omega
theorem links_len {b:Y45} (hb:blockOk b=true):(linksV b).length≤6000:=by
  have df:=df_of (block_design hb).1
  have h14:=df.fac.ni14
  have h1:=instLV_in df b.2.1.1.length (Nat.le_refl _)
  have h2:=netL_len (drvV b) (fun i=>sinksV b.2.1 i) (clinksV b) (n:=b.2.2.length) (c:=78) (fun i hi=>(net_ok hb hi).s78) b.2.2.length (Nat.le_refl _)
  have h3:=(block_design hb).2.1
  have h30:=df.fac.nn30
  have h4:(clinksV b).length=(foldN (instLV b) b.2.1.1.length (0,[])).2.length:=rfl
  unfold linksV
  omega
theorem link_is {b:Y45} {l:DLink} (h:l∈linksV b):(∃ i j t,i < b.2.1.1.length∧j < (celI b i).2.2.2.1.length∧t < (transV (arcOf (celI b i) j).1 (arcOf (celI b i) j).2.2.2.1).length∧l=cLink (offs (insOf b.2.1) i:Int) (arcOf (celI b i) j) j t) ∨
    ∃ i k t,i < b.2.2.length∧k < (sinksV b.2.1 i).length∧t < 2∧l=wLink (drvV b i) ((sinksV b.2.1 i).getD k 0) k t:=by
  rcases netLF_mem _ h with h | h
  · exact .inl (instLF_mem (fun _=>rfl) _ h)
  · exact .inr h
end Go.Proofs.YticmgmebjmblgaaGreatDoor
end

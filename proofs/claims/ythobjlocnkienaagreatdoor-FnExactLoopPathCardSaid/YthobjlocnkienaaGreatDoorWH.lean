/- Shortest closed paths: both ways. -/
import Derived.Test.YthobjlocnkienaaGreatDoorWG
import Derived.Test.YthobjlocnkienaaGreatDoorXK
import Derived.Test.YthobjlocnkienaaGreatDoorXF
import Derived.Test.YthobjlocnkienaaGreatDoorGn23
import Derived.Test.YthobjlocnkienaaGreatDoorWB
section
namespace Go.Proofs.YthobjlocnkienaaGreatDoor
open Go Go.Proofs Go.Proofs.Sv Go.Proofs.Xv Go.Proofs.Xl Go.Proofs.Xd
theorem lp_mk' {σ τ ρ:Type} (mk:σ->τ) {F:(τ->Option ρ)->τ->Option ρ} {G:(σ->Option ρ)->σ->Option ρ} (h:∀ g s,F g (mk s)=G (fun s=>g (mk s)) s) (s:σ):lp F (mk s)=lp G s:=by
 have key:∀ n s,itF F n (mk s)=itF G n s:=by
  intro n
  induction n with
  | zero=>intro s; rfl
  | succ n ih =>
    intro s
    show F (itF F n) (mk s)=G (itF G n) s
    rw [h]
    congr 1
    exact funext fun s=>ih s
 exact key _ s
theorem nbS_bd (f:Nat->Int) (M:Nat) {s:Int} {i:Nat} (hi:i < M) (h : -1<=s/\s < (M:Int)) : -1<=nbS f s i/\nbS f s i < (M:Int):=by
 unfold nbS
 split
 ·omega
 ·exact h
section
variable {b:Y46}
theorem r112 (hb:blockOk b=true) {lv:List Bool} (hlv:lv.length=(lV b).length) {d:List Int} (hd:d.length=nodN b) (a:Nat):u112 (a:Int) (viewV b,lv) d=some (nearV (lV b).length (frN b) (toN b) (fun i=>lv.getD i false) d a,decide (0<=nearV (lV b).length (frN b) (toN b) (fun i=>lv.getD i false) d a)):=by
 have hM:=links_len hb
 have hN:=nod_le b hb
 obtain ⟨il1,il2⟩:=idxV_len (fun i=>lv.getD i false&&frN b i==a) (lV b).length
 unfold u112
 rw [r113 hb hlv,vS,gP ⟨rfl,trivial⟩,lE]
 have hfin:nearV (lV b).length (frN b) (toN b) (fun i=>lv.getD i false) d a=fN (fun k s=>nbS (fun i=>d.getD (toN b i) 0) s (((List.range (lV b).length).filter fun i=>lv.getD i false&&frN b i==a).getD k 0)) ((List.range (lV b).length).filter fun i=>lv.getD i false&&frN b i==a).length (-1):=by
  rw [foldN_foldl (nbS fun i=>d.getD (toN b i) 0)]
  exact fold_filter (nbS fun i=>d.getD (toN b i) 0) (fun i=>lv.getD i false&&frN b i==a) (-1) _
 rw [hfin]
 refine lF (n:=((List.range (lV b).length).filter fun i=>lv.getD i false&&frN b i==a).length) (by omega) (fun (k:Nat) (s:Int)=>(s,(k:Int))) (fun k s=>nbS (fun i=>d.getD (toN b i) 0) s (((List.range (lV b).length).filter fun i=>lv.getD i false&&frN b i==a).getD k 0)) (fun _ s => -1<=s/\s < ((lV b).length:Int)) (J:=fun s=>some (s,decide (0<=s))) (F:=u112L1 (idxV (fun i=>lv.getD i false&&frN b i==a) (lV b).length) d (viewV b,lv)) (fun g k s hk hI=>?_) (fun k s hk hI=>?_) (fun g s _=>?_) (-1) oo
 ·have hI : -1<=s/\s < ((lV b).length:Int):=hI
  have hi:=filt_lt hk
  have eg:=idxV_get (fun i=>lv.getD i false&&frN b i==a) (lV b).length k
  generalize ((List.range (lV b).length).filter fun i=>lv.getD i false&&frN b i==a).getD k 0=i at hi eg ⊢
  obtain ⟨f1,f2,f3,f4⟩:=frto b hb hi
  have e3:((k:Int)).toNat=k:=rfl
  have e4:((i:Int)).toNat=i:=rfl
  have e5:((toN b i:Int)).toNat=toN b i:=rfl
  have f2':((((viewV b,lv):Y113×List Bool).1.2.2.1).getD i (dflt y107)).2.1=(toN b i:Int):=f2
  refine (if_pos (decide_eq_true (by omega))).trans ?_
  rw [e3,eg]
  refine (gP ⟨oo,by omega,trivial⟩).trans ?_
  rw [e4,f2',e5]
  refine (gP ⟨⟨by omega,by show (i:Int) < ((lV b).length:Int); omega⟩,oo,trivial⟩).trans ?_
  rw [lE]
  by_cases hs:s < 0
  ·have hs1:decide (s < 0)=true:=decide_eq_true hs
   refine (gP ⟨fun h=>(by rw [hs1] at h; exact absurd h.1 (by simp)),fun h=>(by rw [hs1] at h; exact absurd h.1 (by simp)),trivial⟩).trans ?_
   unfold nbS
   rw [hs1,Bool.true_or,Bool.true_or,Bool.and_true]
   show (if decide (0<=d.getD (toN b i) 0)=true then _ else _)=g (if decide (0<=d.getD (toN b i) 0)=true then _ else _,_)
   by_cases hz:decide (0<=d.getD (toN b i) 0)=true
   ·rw [if_pos hz,if_pos hz]
    exact gP ⟨oo,trivial⟩
   ·rw [if_neg hz,if_neg hz]
    exact gP ⟨oo,trivial⟩
  ·obtain ⟨j,rfl⟩:=Int.eq_ofNat_of_zero_le (show 0<=s by omega)
   have hj:j < (lV b).length:=by omega
   obtain ⟨g1,g2,g3,g4⟩:=frto b hb hj
   have g2':((((viewV b,lv):Y113×List Bool).1.2.2.1).getD ((j:Int)).toNat (dflt y107)).2.1=(toN b j:Int):=g2
   have e6:((toN b j:Int)).toNat=toN b j:=rfl
   rw [g2',e6]
   refine (gP ⟨fun _=>⟨by omega,by show (j:Int) < ((lV b).length:Int); omega⟩,fun _=>oo,trivial⟩).trans ?_
   unfold nbS
   show (if (decide (0<=d.getD (toN b i) 0)&&(decide ((j:Int) < 0)||decide (d.getD (toN b i) 0 < d.getD (toN b j) 0)))=true then _ else _)=g (if (decide (0<=d.getD (toN b i) 0)&&(decide ((j:Int) < 0)||decide (d.getD (toN b i) 0 < d.getD (toN b j) 0)))=true then _ else _,_)
   by_cases hz:(decide (0<=d.getD (toN b i) 0)&&(decide ((j:Int) < 0)||decide (d.getD (toN b i) 0 < d.getD (toN b j) 0)))=true
   ·rw [if_pos hz,if_pos hz]
    exact gP ⟨oo,trivial⟩
   ·rw [if_neg hz,if_neg hz]
    exact gP ⟨oo,trivial⟩
 ·exact nbS_bd _ _ (filt_lt hk) hI
 ·refine (if_neg ?_).trans rfl
  rw [dq]
  omega
theorem r63 (hb:blockOk b=true) {lv:List Bool} (hlv:lv.length=(lV b).length) {s:Nat} (hs:s < nodN b):u63 (viewV b,lv) (s:Int)=if nearV (lV b).length (frN b) (toN b) (fun i=>lv.getD i false) (farV (lV b).length (nodN b) (frN b) (toN b) (fun i=>lv.getD i false) s) s < 0 then some (.inl ()) else
  some (.inr (pathV (lV b).length (frN b) (toN b) (fun i=>lv.getD i false) (farV (lV b).length (nodN b) (frN b) (toN b) (fun i=>lv.getD i false) s) s)):=by
 have hM:=links_len hb
 have hN:=nod_le b hb
 have hf:∀ i,i < (lV b).length->frN b i < nodN b:=fun i hi=>(frto b hb hi).2.2.1
 have ht:∀ i,i < (lV b).length->toN b i < nodN b:=fun i hi=>(frto b hb hi).2.2.2
 have hfar:=far_ok (lV b).length (nodN b) (frN b) (toN b) (fun i=>lv.getD i false) hf ht hs
 unfold u63
 rw [r111 hb hlv hs,vS,gP ⟨rfl,trivial⟩,lE]
 generalize farV (lV b).length (nodN b) (frN b) (toN b) (fun i=>lv.getD i false) s=d at hfar ⊢
 refine Eq.trans (lp_mk' (fun q:Int×List Int=>(q.2,q.1)) (F:=u63L0 (s:Int) (viewV b,lv) d) (G:=fun g q=>u63L0 (s:Int) (viewV b,lv) d (fun t=>g (t.2,t.1)) (q.2,q.1)) (fun g q=>rfl) ((s:Int),[])) ?_
 refine walk_lp hfar hs ht hN (F:=fun g q=>u63L0 (s:Int) (viewV b,lv) d (fun t=>g (t.2,t.1)) (q.2,q.1)) (J:=fun p=>some (.inr p)) (E:=some (.inl ())) fun g a l ha hl=>?_
 show u63L0 (s:Int) (viewV b,lv) d (fun t=>g (t.2,t.1)) (l,(a:Int))=_
 rw [u63L0]
 rw [r112 hb hlv hfar.len,vS,gP ⟨rfl,trivial⟩,lE]
 by_cases hn:nearV (lV b).length (frN b) (toN b) (fun i=>lv.getD i false) d a < 0
 ·rw [if_pos hn]
  refine if_pos ?_
  show (!decide (0<=nearV (lV b).length (frN b) (toN b) (fun i=>lv.getD i false) d a))=true
  rw [decide_eq_false (by omega)]
  rfl
 ·rw [if_neg hn]
  obtain ⟨i,hi⟩:=Int.eq_ofNat_of_zero_le (show 0<=nearV (lV b).length (frN b) (toN b) (fun i=>lv.getD i false) d a by omega)
  obtain ⟨g1,_⟩:=near_ok (lV b).length (frN b) (toN b) (fun i=>lv.getD i false) d hi
  obtain ⟨f1,f2,f3,f4⟩:=frto b hb g1
  rw [hi]
  have e4:((i:Int)).toNat=i:=rfl
  refine (if_neg (by show ¬ (!decide ((0:Int)<=(i:Int)))=true; rw [decide_eq_true (by omega)]; simp)).trans ?_
  refine (gP ⟨⟨by show l.length+1<=_; omega,by show (l.length+1)*8<=_; omega⟩,trivial⟩).trans ?_
  refine (gP ⟨⟨by show 0<=(i:Int); omega,by show (i:Int) < ((lV b).length:Int); omega⟩,trivial⟩).trans ?_
  rw [lE]
  have f2':((((viewV b,lv):Y113×List Bool).1.2.2.1).getD ((i:Int)).toNat (dflt y107)).2.1=(toN b i:Int):=f2
  show (if (((((viewV b,lv):Y113×List Bool).1.2.2.1).getD ((i:Int)).toNat (dflt y107)).2.1==(s:Int))=true then some (.inr (l++[(i:Int)])) else g (((((viewV b,lv):Y113×List Bool).1.2.2.1).getD ((i:Int)).toNat (dflt y107)).2.1,l++[(i:Int)]))=_
  rw [f2',e4]
  by_cases he:(toN b i:Int)=(s:Int)
  ·rw [if_pos he,if_pos (beq_iff_eq.2 he)]
  ·rw [if_neg he,if_neg (fun h=>he (beq_iff_eq.1 h))]
end
section
variable (M:Nat) (fr to:Nat->Nat) (lv:Nat->Bool) (d:List Int)
def stp (k:Nat) (q:Nat×List Int):Nat×List Int:=match (List.range M).find? (fun i=>lv i&&fr i==q.1&&d.getD (to i) 0==(k:Int)) with
 | some i=>(to i,q.2++[(i:Int)])
 | none=>q
theorem stp_go (L s:Nat):∀ j,j<=L->(fN (fun j q=>stp M fr to lv d (L - 1 - j) q) j (s,[])).2++pthGo M fr to lv d (L - j) (fN (fun j q=>stp M fr to lv d (L - 1 - j) q) j (s,[])).1=pthGo M fr to lv d L s
 | 0,_=>rfl
 | j+1,h=>by
   have ih:=stp_go L s j (by omega)
   rw [<- ih,show L - j=(L - (j+1))+1 by omega]
   show (stp M fr to lv d (L - 1 - j) (fN (fun j q=>stp M fr to lv d (L - 1 - j) q) j (s,[]))).2++pthGo M fr to lv d (L - (j+1)) (stp M fr to lv d (L - 1 - j) (fN (fun j q=>stp M fr to lv d (L - 1 - j) q) j (s,[]))).1=_
   generalize fN (fun j q=>stp M fr to lv d (L - 1 - j) q) j (s,[])=q
   rw [show L - 1 - j=L - (j+1) by omega]
   show _=q.2++(match (List.range M).find? (fun i=>lv i&&fr i==q.1&&d.getD (to i) 0==((L - (j+1):Nat):Int)) with
    | some i=>(i:Int) :: pthGo M fr to lv d (L - (j+1)) (to i)
    | none=>pthGo M fr to lv d (L - (j+1)) q.1)
   unfold stp
   cases (List.range M).find? (fun i=>lv i&&fr i==q.1&&d.getD (to i) 0==((L - (j+1):Nat):Int)) with
   | none=>rfl
   | some i=>show q.2++[(i:Int)]++_=_; rw [List.append_assoc]; rfl
theorem pthGo_len:∀ k a,(pthGo M fr to lv d k a).length<=k
 | 0,_=>Nat.le_refl _
 | k+1,a=>by
   show (match (List.range M).find? (fun i=>lv i&&fr i==a&&d.getD (to i) 0==(k:Int)) with
    | some i=>(i:Int) :: pthGo M fr to lv d k (to i)
    | none=>pthGo M fr to lv d k a).length<=k+1
   split
   ·rename_i i _
    have:=pthGo_len k (to i)
    rw [List.length_cons]; omega
   ·have:=pthGo_len k a
    omega
end
section
variable {b:Y46}
theorem r60L (hb:blockOk b=true) {lv:List Bool} (hlv:lv.length=(lV b).length) {d:List Int} {s:Nat} (hs:s < nodN b) (h:FarOk (lV b).length (nodN b) (frN b) (toN b) (fun i=>lv.getD i false) s d) (L:Nat) (hL:L<=nodN b) :
  lp (u60L4 (lV b) lv d) ((s:Int),(L:Int),[])=some (pthGo (lV b).length (frN b) (toN b) (fun i=>lv.getD i false) d L s,decide (0 < ((pthGo (lV b).length (frN b) (toN b) (fun i=>lv.getD i false) d L s).length:Int))):=by
 have hM:=links_len hb
 have hN:=nod_le b hb
 have hgo:=stp_go (lV b).length (frN b) (toN b) (fun i=>lv.getD i false) d L s L (Nat.le_refl _)
 rw [Nat.sub_self] at hgo
 have hgo:(fN (fun j q=>stp (lV b).length (frN b) (toN b) (fun i=>lv.getD i false) d (L - 1 - j) q) L (s,[])).2=pthGo (lV b).length (frN b) (toN b) (fun i=>lv.getD i false) d L s:=by
  rw [<- hgo]
  exact (List.append_nil _).symm
 rw [<- hgo]
 refine lF (n:=L) (by omega) (fun (j:Nat) (q:Nat×List Int)=>((q.1:Int),((L - j:Nat):Int),q.2)) (fun j q=>stp (lV b).length (frN b) (toN b) (fun i=>lv.getD i false) d (L - 1 - j) q) (fun j q=>q.1 < nodN b/\q.2.length<=j) (J:=fun q=>some (q.2,decide (0 < (q.2.length:Int)))) (F:=u60L4 (lV b) lv d) (fun g j q hj hI=>?_) (fun j q hj hI=>?_) (fun g q _=>?_) (s,[]) ⟨hs,Nat.le_refl _⟩
 ·obtain ⟨h1,h2⟩:=hI
  obtain ⟨a,o⟩:=q
  have h1:a < nodN b:=h1
  have h2:o.length<=j:=h2
  refine (if_pos (decide_eq_true (by show (0:Int) < ((L - j:Nat):Int); omega))).trans ?_
  have key:=lp_any (n:=(lV b).length) (by omega) (fun i=>lv.getD i false&&frN b i==a&&d.getD (toN b i) 0==((L - 1 - j:Nat):Int)) (fun i=>g ((toN b i:Int),((L - (j+1):Nat):Int),o++[(i:Int)])) (e:=g ((a:Int),((L - (j+1):Nat):Int),o)) (F:=u60L6 ((L - j:Nat):Int) o (lV b) lv (a:Int) d g) 0 (Nat.zero_le _) (fun g' i _ hi=>?_) (fun g'=>?_)
  ·refine key.trans ?_
   rw [Nat.sub_zero,<- List.range_eq_range']
   show _=g (((stp (lV b).length (frN b) (toN b) (fun i=>lv.getD i false) d (L - 1 - j) (a,o)).1:Int),((L - (j+1):Nat):Int),(stp (lV b).length (frN b) (toN b) (fun i=>lv.getD i false) d (L - 1 - j) (a,o)).2)
   unfold stp
   show _=g (((match (List.range (lV b).length).find? (fun i=>lv.getD i false&&frN b i==a&&d.getD (toN b i) 0==((L - 1 - j:Nat):Int)) with | some i=>(toN b i,o++[(i:Int)]) | none=>(a,o)).1:Int),((L - (j+1):Nat):Int),(match (List.range (lV b).length).find? (fun i=>lv.getD i false&&frN b i==a&&d.getD (toN b i) 0==((L - 1 - j:Nat):Int)) with | some i=>(toN b i,o++[(i:Int)]) | none=>(a,o)).2)
   cases (List.range (lV b).length).find? (fun i=>lv.getD i false&&frN b i==a&&d.getD (toN b i) 0==((L - 1 - j:Nat):Int)) <;> rfl
  ·obtain ⟨f1,f2,f3,f4⟩:=frto b hb hi
   have e3:((i:Int)).toNat=i:=rfl
   have e5:((toN b i:Int)).toNat=toN b i:=rfl
   have hdl:=h.len
   have eL:((L - j:Nat):Int) - 1=((L - (j+1):Nat):Int):=by omega
   have eL2:L - 1 - j=L - (j+1):=by omega
   have eb:(((frN b i:Nat):Int)==((a:Nat):Int))=(frN b i==a):=by
    rw [Bool.eq_iff_iff,beq_iff_eq,beq_iff_eq]
    omega
   refine (if_pos (decide_eq_true (by omega))).trans ?_
   rw [e3,f1,f2,e5,eb,eL,eL2]
   refine (gP ⟨oo,(fun _=>oo),(fun _=>oo),(fun _=>oo),(fun _=>by omega),(fun _=>oo),trivial⟩).trans ?_
   by_cases hc:(lv.getD i false&&frN b i==a&&d.getD (toN b i) 0==((L - (j+1):Nat):Int))=true
   ·rw [if_pos hc,if_pos hc]
    refine (gP ⟨⟨by show o.length+1<=_; omega,by show (o.length+1)*8<=_; omega⟩,trivial⟩).trans ?_
    refine (gP ⟨oo,trivial⟩).trans ?_
    rw [lE,f2]
    show gd (in64 (((L - j:Nat):Int) - 1)/\True) (g ((toN b i:Int),((L - j:Nat):Int) - 1,o++[(i:Int)]))=_
    rw [eL]
    exact gP ⟨oo,trivial⟩
   ·rw [if_neg hc,if_neg hc]
    exact gP ⟨oo,trivial⟩
  ·refine (if_neg (by rw [dq]; omega)).trans ?_
   have eL:((L - j:Nat):Int) - 1=((L - (j+1):Nat):Int):=by omega
   show gd (in64 (((L - j:Nat):Int) - 1)/\True) (g ((a:Int),((L - j:Nat):Int) - 1,o))=_
   rw [eL]
   exact gP ⟨oo,trivial⟩
 ·obtain ⟨h1,h2⟩:=hI
  unfold stp
  split
  ·rename_i i hi
   have hi:=List.mem_range.1 (List.mem_of_find?_eq_some hi)
   refine ⟨(frto b hb hi).2.2.2,?_⟩
   show (q.2++[(i:Int)]).length<=j+1
   rw [List.length_append,List.length_singleton]
   omega
  ·exact ⟨h1,by omega⟩
 ·exact if_neg (by rw [dq]; omega)
theorem r60 (hb:blockOk b=true) {lv:List Bool} (hlv:lv.length=(lV b).length) {s:Nat} (hs:s < nodN b):u60 (nodN b:Int) (lV b) lv (s:Int)=some (pathV (lV b).length (frN b) (toN b) (fun i=>lv.getD i false) (farV (lV b).length (nodN b) (frN b) (toN b) (fun i=>lv.getD i false) s) s,
  decide (0 < ((pathV (lV b).length (frN b) (toN b) (fun i=>lv.getD i false) (farV (lV b).length (nodN b) (frN b) (toN b) (fun i=>lv.getD i false) s) s).length:Int))):=by
 have hM:=links_len hb
 have hN:=nod_le b hb
 have hf:∀ i,i < (lV b).length->frN b i < nodN b:=fun i hi=>(frto b hb hi).2.2.1
 have ht:∀ i,i < (lV b).length->toN b i < nodN b:=fun i hi=>(frto b hb hi).2.2.2
 have hfar:=far_ok (lV b).length (nodN b) (frN b) (toN b) (fun i=>lv.getD i false) hf ht hs
 unfold u60
 rw [r108 hb hlv hs,vS,gP ⟨rfl,trivial⟩,lE]
 generalize farV (lV b).length (nodN b) (frN b) (toN b) (fun i=>lv.getD i false) s=d at hfar ⊢
 refine (lF (n:=(lV b).length) (by omega) (fun (k:Nat) (l:Int)=>(l,(k:Int))) (fun k l=>if (lv.getD k false&&frN b k==s)=true then lfS (fun i=>d.getD (toN b i) 0) l k else l) (fun _ _=>True) (J:=fun l=>u60J0 (lV b) lv d (s:Int) l) (F:=u60L1 d (lV b) lv (s:Int)) (fun g k l hk _=>?_) (fun _ _ _ _=>trivial) (fun g l _=>aE) (-1) trivial).trans ?_
 ·obtain ⟨f1,f2,f3,f4⟩:=frto b hb hk
  have e3:((k:Int)).toNat=k:=rfl
  have e5:((toN b k:Int)).toNat=toN b k:=rfl
  have hdl:=hfar.len
  have hdb:=hfar.lo (toN b k) f4
  have eb:(((frN b k:Nat):Int)==((s:Nat):Int))=(frN b k==s):=by
   rw [Bool.eq_iff_iff,beq_iff_eq,beq_iff_eq]
   omega
  refine (if_pos (by simpa using hk)).trans ?_
  rw [e3,f1,f2,e5,eb]
  refine (gP ⟨oo,oo,by omega,trivial⟩).trans ?_
  refine (gP ⟨oo,(fun _=>oo),(fun _=>oo),trivial⟩).trans ?_
  unfold lfS
  show _=g ((if (lv.getD k false&&frN b k==s)=true then (if (decide (0<=d.getD (toN b k) 0)&&(decide (l < 0)||decide (d.getD (toN b k) 0+1 < l)))=true then d.getD (toN b k) 0+1 else l) else l),((k+1:Nat):Int))
  by_cases hp:(lv.getD k false&&frN b k==s)=true
  ·rw [if_pos hp,hp,Bool.true_and]
   by_cases hc:(decide (0<=d.getD (toN b k) 0)&&(decide (l < 0)||decide (d.getD (toN b k) 0+1 < l)))=true
   ·rw [if_pos hc,if_pos hc]
    refine (gP ⟨oo,trivial⟩).trans ?_
    exact gP ⟨oo,trivial⟩
   ·rw [if_neg hc,if_neg hc]
    exact gP ⟨oo,trivial⟩
  ·rw [if_neg hp]
   refine (if_neg (fun h=>hp (by rw [ba,ba] at h; exact h.1.1))).trans ?_
   exact gP ⟨oo,trivial⟩
 ·show lp (u60L4 (lV b) lv d) ((s:Int),leftV (lV b).length (frN b) (toN b) (fun i=>lv.getD i false) d s,[])=some (pthGo (lV b).length (frN b) (toN b) (fun i=>lv.getD i false) d (leftV (lV b).length (frN b) (toN b) (fun i=>lv.getD i false) d s).toNat s,_)
  rcases Int.lt_or_le (nearV (lV b).length (frN b) (toN b) (fun i=>lv.getD i false) d s) 0 with hn | hn
  ·obtain ⟨_,e2,_⟩:=near_no (lV b).length (frN b) (toN b) (fun i=>lv.getD i false) d hn
   unfold pathV
   rw [e2]
   exact lF (n:=0) (by omega) (fun _ (l:List Int)=>((s:Int),(-1:Int),l)) (fun _ l=>l) (fun _ l=>l=[]) (J:=fun l=>some (l,decide (0 < (l.length:Int)))) (F:=u60L4 (lV b) lv d) (fun g i l hi=>absurd hi (Nat.not_lt_zero _)) (fun i l hi=>absurd hi (Nat.not_lt_zero _)) (fun g l _=>if_neg (by simp)) [] rfl
  ·obtain ⟨i,hi⟩:=Int.eq_ofNat_of_zero_le hn
   obtain ⟨g1,g2,g3,g4,g5,_⟩:=near_ok (lV b).length (frN b) (toN b) (fun i=>lv.getD i false) d hi
   have hlo:=hfar.lo (toN b i) (ht i g1)
   unfold pathV
   obtain ⟨L,hL⟩:=Int.eq_ofNat_of_zero_le (show 0<=leftV (lV b).length (frN b) (toN b) (fun i=>lv.getD i false) d s by omega)
   rw [hL]
   exact r60L hb hlv hs hfar L (by omega)
end
theorem path_pos {M N:Nat} {fr to:Nat->Nat} {lv:Nat->Bool} {d:List Int} {s:Nat} (hn:0<=nearV M fr to lv d s):0 < (pathV M fr to lv d s).length:=by
 obtain ⟨i,hi⟩:=Int.eq_ofNat_of_zero_le hn
 obtain ⟨g1,g2,g3,g4,g5,_,g7⟩:=near_ok M fr to lv d hi
 obtain ⟨m,hm⟩:=Int.eq_ofNat_of_zero_le g4
 unfold pathV
 rw [g5,hm,show ((m:Int)+1).toNat=m+1 from rfl]
 show 0 < (match (List.range M).find? (fun i=>lv i&&fr i==s&&d.getD (to i) 0==(m:Int)) with
  | some i=>(i:Int) :: pthGo M fr to lv d m (to i)
  | none=>pthGo M fr to lv d m s).length
 rw [hm] at g7
 rw [g7]
 simp
def lpF (b:Y46) (br:List Int) (a:Int):List Int×Int:=if codeN b br a=0 then (if nearV (lV b).length (frN b) (toN b) (fun i=>(liveV (lV b).length br).getD i false) (farV (lV b).length (nodN b) (frN b) (toN b) (fun i=>(liveV (lV b).length br).getD i false) a.toNat) a.toNat < 0 then ([],5) else
 (pathV (lV b).length (frN b) (toN b) (fun i=>(liveV (lV b).length br).getD i false) (farV (lV b).length (nodN b) (frN b) (toN b) (fun i=>(liveV (lV b).length br).getD i false) a.toNat) a.toNat,0)) else ([],codeN b br a)
theorem node_lt {b:Y46} {a:Int} (hi:inB a 0 ((nodN b:Int) - 1)=true):a.toNat < nodN b:=by
 unfold inB at hi
 simp only [ba,dq] at hi
 omega
theorem r24 (b:Y46) (hw:wf y46 b) (hm:cnt y46 b<=1048576) (br:List Int) (hl:br.length<=1048576) (a:Int):u24 b br a=some (lpF b br a):=by
 unfold u24 lpF
 rw [r58 b hw hm br hl,vS,gP ⟨rfl,trivial⟩,lE]
 by_cases h:codeN b br a=0
 ·obtain ⟨hc,hi⟩:=codeN_ok h
  obtain ⟨hb,hr⟩:=codeG_ok hc
  have hM:=links_len hb
  have ha:=nat_of hi
  have hlt:=node_lt hi
  have hp:=r60 hb (live_len _ br) hlt
  rw [<- ha] at hp
  rw [h]
  refine (if_neg (by decide)).trans ?_
  rw [if_pos rfl,r59 b hw hb,vS,gP ⟨rfl,trivial⟩,lE,r61 b hw hb,vS,r62 _ _ (by omega) hl,vS,hp,vS]
  refine (gP ⟨rfl,rfl,rfl,trivial⟩).trans ?_
  rw [lE]
  rcases Int.lt_or_le (nearV (lV b).length (frN b) (toN b) (fun i=>(liveV (lV b).length br).getD i false) (farV (lV b).length (nodN b) (frN b) (toN b) (fun i=>(liveV (lV b).length br).getD i false) a.toNat) a.toNat) 0 with hn | hn
  ·obtain ⟨_,e2,_⟩:=near_no (lV b).length (frN b) (toN b) (fun i=>(liveV (lV b).length br).getD i false) _ hn
   rw [if_pos hn]
   refine if_pos ?_
   show (!decide (0 < ((pathV (lV b).length (frN b) (toN b) (fun i=>(liveV (lV b).length br).getD i false) (farV (lV b).length (nodN b) (frN b) (toN b) (fun i=>(liveV (lV b).length br).getD i false) a.toNat) a.toNat).length:Int)))=true
   unfold pathV
   rw [e2]
   rfl
  ·have hpos:=path_pos (N:=nodN b) hn
   rw [if_neg (by omega)]
   refine (if_neg ?_).trans rfl
   show ¬ (!decide (0 < ((pathV (lV b).length (frN b) (toN b) (fun i=>(liveV (lV b).length br).getD i false) (farV (lV b).length (nodN b) (frN b) (toN b) (fun i=>(liveV (lV b).length br).getD i false) a.toNat) a.toNat).length:Int)))=true
   rw [decide_eq_true (by omega)]
   simp
 ·rw [if_neg h]
  exact if_pos (by simp [h])
theorem r25 (b:Y46) (hw:wf y46 b) (hm:cnt y46 b<=1048576) (br:List Int) (hl:br.length<=1048576) (a:Int):u25 b br a=some (lpF b br a):=by
 have hn:=r42 b hw hm br hl a
 unfold u25 lpF
 rw [hn]
 by_cases h:codeN b br a=0
 ·obtain ⟨hc,hi⟩:=codeN_ok h
  obtain ⟨hb,hr⟩:=codeG_ok hc
  have ha:=nat_of hi
  have hlt:=node_lt hi
  have hp:=r63 hb (live_len _ br) hlt
  rw [<- ha] at hp
  rw [if_pos h,if_pos h]
  refine (if_neg (by simp [isL])).trans ((gP ⟨rfl,trivial⟩).trans ?_)
  rw [lE]
  refine (if_neg (by simp [vR])).trans ?_
  show (if isL (u63 (viewV b,liveV (lV b).length br) a)=true then gd (isL (u63 (viewV b,liveV (lV b).length br) a)=true/\True) (some ([],5)) else gd (isR (u63 (viewV b,liveV (lV b).length br) a)=true/\True) (gd (0 < (vR (u63 (viewV b,liveV (lV b).length br) a)).length/\True) (some (vR (u63 (viewV b,liveV (lV b).length br) a),0))))=_
  rw [hp]
  rcases Int.lt_or_le (nearV (lV b).length (frN b) (toN b) (fun i=>(liveV (lV b).length br).getD i false) (farV (lV b).length (nodN b) (frN b) (toN b) (fun i=>(liveV (lV b).length br).getD i false) a.toNat) a.toNat) 0 with hn | hn
  ·rw [if_pos hn,if_pos hn]
   refine (if_pos rfl).trans ?_
   exact gP ⟨rfl,trivial⟩
  ·have hpos:=path_pos (N:=nodN b) hn
   have hn':=Int.not_lt.2 hn
   rw [if_neg hn',if_neg hn']
   refine (if_neg (by simp [isL])).trans ?_
   refine (gP ⟨rfl,trivial⟩).trans ?_
   exact gP ⟨hpos,trivial⟩
 ·rw [if_neg h,if_neg h]
  refine (if_pos rfl).trans ((gP ⟨rfl,trivial⟩).trans ?_)
  exact if_pos (by show (codeN b br a != 0)=true; simp [h])
theorem lpF_len (b:Y46) (br:List Int) (a:Int):(lpF b br a).1.length<=1048576:=by
 unfold lpF
 split
 ·rename_i h
  obtain ⟨hc,hi⟩:=codeN_ok h
  obtain ⟨hb,hr⟩:=codeG_ok hc
  have hN:=nod_le b hb
  have hlt:=node_lt hi
  have hf:∀ i,i < (lV b).length->frN b i < nodN b:=fun i hi=>(frto b hb hi).2.2.1
  have ht:∀ i,i < (lV b).length->toN b i < nodN b:=fun i hi=>(frto b hb hi).2.2.2
  have hfar:=far_ok (lV b).length (nodN b) (frN b) (toN b) (fun i=>(liveV (lV b).length br).getD i false) hf ht hlt
  split
  ·exact Nat.zero_le _
  ·rename_i hn
   obtain ⟨i,hi⟩:=Int.eq_ofNat_of_zero_le (show 0<=nearV (lV b).length (frN b) (toN b) (fun i=>(liveV (lV b).length br).getD i false) (farV (lV b).length (nodN b) (frN b) (toN b) (fun i=>(liveV (lV b).length br).getD i false) a.toNat) a.toNat by omega)
   obtain ⟨g1,g2,g3,g4,g5,_⟩:=near_ok (lV b).length (frN b) (toN b) (fun i=>(liveV (lV b).length br).getD i false) _ hi
   have hlo:=hfar.lo (toN b i) (ht i g1)
   refine Nat.le_trans (pthGo_len _ _ _ _ _ _ _) ?_
   omega
 ·exact Nat.zero_le _
end Go.Proofs.YthobjlocnkienaaGreatDoor
end
section
namespace Go.Proofs.Xd
open Go Go.Proofs.Xl Go.Proofs.Xv
def wd:Ty->Nat
 | .pr a b=>wd a+wd b
 | .sl e=>wd e
 | .pt _=>0
 | _=>1
theorem cntM_le:∀ (t:Ty) (x:den t),cntM t x<=wd t*(1+cnt t x)
 | .int _,_=>by simp [cntM,wd]
 | .bool,_=>by simp [cntM,wd]
 | .str,_=>by simp [cntM,wd]
 | .pt _,_=>by simp [cntM]
 | .sl e,xs=>by
   have key:∀ l:List (den e),(l.map (cntM e)).sum<=wd e*(l.length+(l.map (cnt e)).sum):=by
    intro l
    induction l with
    | nil=>exact Nat.zero_le _
    | cons a r ih =>
      have h1:=cntM_le e a
      rw [List.map_cons,List.sum_cons,List.map_cons,List.sum_cons,List.length_cons]
      have e1:wd e*(r.length+1+(cnt e a+(r.map (cnt e)).sum))=wd e*(1+cnt e a)+wd e*(r.length+(r.map (cnt e)).sum):=by
       rw [<- Nat.mul_add]; congr 1; omega
      omega
   refine Nat.le_trans (key xs) ?_
   show _<=wd e*(1+(xs.length+(xs.map (cnt e)).sum))
   exact Nat.mul_le_mul_left _ (by omega)
 | .pr a b,x=>by
   have h1:=cntM_le a x.1
   have h2:=cntM_le b x.2
   show cntM a x.1+cntM b x.2<=(wd a+wd b)*(1+(cnt a x.1+cnt b x.2))
   have h3:wd a*(1+cnt a x.1)<=wd a*(1+(cnt a x.1+cnt b x.2)):=Nat.mul_le_mul_left _ (by omega)
   have h4:wd b*(1+cnt b x.2)<=wd b*(1+(cnt a x.1+cnt b x.2)):=Nat.mul_le_mul_left _ (by omega)
   rw [Nat.add_mul]
   omega
theorem cntM_bd {t:Ty} {x:den t} {k:Nat} (h:cnt t x<=1048576) (hw:wd t<=k):(cntM t x:Int)<=(k*1048577:Nat):=by
 have h1:=cntM_le t x
 have h2:wd t*(1+cnt t x)<=k*1048577:=Nat.mul_le_mul hw (by omega)
 omega
theorem mkI_get:∀ (m:Nat) (k:Int) (i:Nat),i < m->(mkI k m).getD i 0=k+(i:Int)
 | m+1,k,0,_=>by simp [mkI]
 | m+1,k,i+1,h=>by
   rw [mkI,List.getD_cons_succ,mkI_get m (k+1) i (by omega)]
   omega
theorem fold_one:∀ n:Nat,fN (fun _ (v:Int)=>v+1) n 1=1+((1*n:Nat):Int)
 | 0=>rfl
 | n+1=>by rw [fN,fold_one n]; omega
end Go.Proofs.Xd
end
section
namespace Go.Proofs.YthobjlocnkienaaGreatDoor
open Go Go.Proofs Go.Proofs.Sv Go.Proofs.Xv Go.Proofs.Xl Go.Proofs.Xd
theorem r19 (n:Nat) (hn:n<=4611686018427387904):u19 (mkI 1 n) (1:Int)=some (1+((1*n:Nat):Int)):=by
 have hl:=mkI_len n 1
 rw [<- fold_one n]
 refine lF (n:=n) (by omega) (fun i (s:Int)=>(s,(i:Int))) (fun _ s=>s+1) (fun i s=>s=1+(i:Int)) (J:=u19J0) (F:=u19L1 (mkI 1 n)) (fun g i s hi hs=>?_) (fun i s hi hs=>by subst hs; omega) (fun g s _=>if_neg (by rw [hl]; simp)) _ rfl
 subst hs
 refine (if_pos (decide_eq_true (by rw [hl]; omega))).trans ?_
 refine (gP ⟨⟨by omega,by rw [hl]; omega⟩,trivial⟩).trans ?_
 have e:(i:Int).toNat=i:=rfl
 rw [e,mkI_get n 1 i hi]
 refine (if_neg (by simp)).trans ?_
 refine (gP ⟨oo,trivial⟩).trans ?_
 exact gP ⟨oo,trivial⟩
theorem cnt_len {br:List Int} (h:br.length<=1048576):cnt (.sl (.int .i64)) br<=1048576:=by
 have e:cnt (.sl (.int .i64)) br=br.length+0:=cnt_ints
 omega
theorem r6 (b:Y32) (br:List Int) (a:Int) (hw:wf y32 b) (hbr:wf (.sl (.int .i64)) br) (_:InI a):G6 b br a:=by
 refine ⟨_,z10 b 1048576 hw (by decide) (by decide),fun h0 hl=>?_⟩
 have hm:cnt y32 b<=1048576:=by
  unfold szN at h0
  split at h0 <;> omega
 have hcl:=cnt_len hl
 have hr:=lpF_len b br a
 have k1:=cntM_bd (t:=y46) (x:=b) (k:=64) hm (by decide)
 have k2:=cntM_bd (t:=.sl (.int .i64)) (x:=br) (k:=64) hcl (by decide)
 exact ⟨(lpF b br a).1,(lpF b br a).2,⟨w12 b hm,w13 br hcl,r24 b hw hm br hl a,r25 b hw hm br hl a,e15 _ (cnt_len hr),e16 b hm,e15 br hcl,by omega,by omega,by omega,r19 _ (by omega)⟩⟩
end Go.Proofs.YthobjlocnkienaaGreatDoor
end

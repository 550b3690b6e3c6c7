/- The loads of a net's wire, and the delays of its sinks: the program's way. -/
import Derived.Test.YtgmpfbpemmohnaaGreatDoorWD
import Derived.Test.YtgmpfbpemmohnaaGreatDoorGn19
import Derived.Test.YtgmpfbpemmohnaaGreatDoorWB
import Derived.Test.YtgmpfbpemmohnaaGreatDoorWC
import Derived.Test.YtgmpfbpemmohnaaGreatDoorXK
import Derived.Test.YtgmpfbpemmohnaaGreatDoorXF
section
/- The loads of a net's wire, and the delays of its sinks: the program's way. -/
namespace Go.Proofs.YtgmpfbpemmohnaaGreatDoor
open Go Go.Proofs Go.Proofs.Sv Go.Proofs.Xv Go.Proofs.Xl Go.Proofs.Xd
theorem r141 (l:List Y134) (d:Y43) (df:DF l d) {p:DPlace} (hp:p∈plcs d):u141 d l p=some (capV l d p):=by
 unfold u141 capV
 rcases plc_pin df hp with h | ⟨h1,h2,h3,h4,h5,h6⟩
 ·rw [if_pos (by rw [h.1]; decide),if_pos (by omega)]
 ·refine (if_neg (by simp; omega)).trans ?_
  rw [if_neg (by omega),gd_pos ⟨⟨by omega,by omega⟩,⟨h3,by show (insOf d p.1.toNat).2.1 < _; omega⟩,⟨h5,by show p.2.1 < (((l.getD (insOf d p.1.toNat).2.1.toNat (dflt y134)).2.2.1.length:Nat):Int); omega⟩,trivial⟩]
  rfl
theorem r140 (d:Y43) (hd:wf y43 d) {l:List Y134} (df:DF l d) (t:Int):u140 d t=some (sinksV d t):=by
 have hl:=df.len
 unfold u140
 rw [r96 d hd df.fac.ni14 df.fac.np8 df.pin,vl_some,gd_pos ⟨rfl,trivial⟩,lt_eq]
 exact lp_fold (n:=(plcs d).length) (by omega) (fun i (s:List Int)=>(s,(i:Int))) (sinkL (plcOf d) t) (fun i s=>s.length≤i) (J:=fun s=>some s) (F:=u140L1 t (plcs d)) (fun g i s hi hI=>by
  have e3:((i:Int)).toNat=i:=rfl
  have j2:∀ s',u140J2 (i:Int) g s'=g (s',((i+1:Nat):Int)):=fun v'=>gd_pos ⟨⟨by omega,by omega⟩,trivial⟩
  refine (if_pos (by simpa using hi)).trans ?_
  have hI':s.length≤i:=hI
  rw [e3,gd_pos ⟨⟨by omega,by omega⟩,hi,trivial⟩,lt_eq,gd_pos ⟨⟨by show s.length+1≤_; omega,by show (s.length+1)*8≤_; omega⟩,trivial⟩,j2,j2]
  show _=g (sinkL (plcOf d) t i s,_)
  unfold sinkL
  show (if ((plcOf d i).2.2.1==t&&!(plcOf d i).2.2.2)=true then _ else _)=_
  split <;> rfl) (fun i s hi hI=>by
  have hI':s.length≤i:=hI
  unfold sinkL
  split
  ·rw [List.length_append]; show s.length+1≤i+1; omega
  ·omega) (fun g s _=>all_end) [] (Nat.le_refl _)
theorem r139 (xs:List Int) (h:xs.length≤1048576):u139 xs=some xs:=gd_pos ⟨⟨by omega,by omega⟩,trivial⟩
theorem r100 (b:Y46) (hw:wf y46 b) {i:Nat} (h:NetOk b i):u100 b (i:Int)=some (loadsV b i):=by
 have hd:=hw.2.1
 have df:=h.df
 have hb:=hw.2.2.1
 have hi:=h.lt
 have n1:=h.wf.n1
 have n8:=h.wf.n8
 have hsn:=h.sn
 have hs:=h.s78
 have hcl:=h.wf.cap
 unfold u100
 have e3:((i:Int)).toNat=i:=rfl
 rw [gd_pos ⟨⟨by omega,by omega⟩,trivial⟩,lt_eq,e3,r139 _ (by show (wirOf b i).2.2.1.length≤_; omega),vl_some,gd_pos ⟨rfl,trivial⟩,lt_eq,r96 b.2.1 hd df.fac.ni14 df.fac.np8 df.pin,vl_some,gd_pos ⟨rfl,trivial⟩,lt_eq,r140 b.2.1 hd df,vl_some,gd_pos ⟨rfl,trivial⟩,lt_eq]
 have key:=lp_fold (n:=(sinksV b.2.1 i).length) (by omega) (fun k (s:List Int)=>((k:Int),s)) (capF (nodeS b i) (capS b i)) (fun k v=>Low v (wirOf b i).1.length (500*((wirOf b i).1.length:Int)+500*(k:Int))) (J:=u100J0 (wirOf b i)) (F:=u100L1 b (plcs b.2.1) (sinksV b.2.1 i) (wirOf b i)) (fun g k v hk hI=>by
  have e4:((k:Int)).toNat=k:=rfl
  obtain ⟨c1,c2,c3,c4⟩:=h.capIn hk
  obtain ⟨c5,c6⟩:=sinksV_at hk
  have hv:=hI.bd (by omega) (nodeS b i k).toNat
  have c1':0≤(wirOf b i).2.2.2.getD k 0:=c1
  have c2':((wirOf b i).2.2.2.getD k 0).toNat < v.length:=by rw [hI.len]; exact c2
  refine (if_pos (by simpa using hk)).trans ?_
  rw [e4,gd_pos ⟨⟨by omega,by omega⟩,hk,trivial⟩,r141 b.1 b.2.1 df (plc_mem c6),vl_some]
  rw [gd_pos ⟨⟨by omega,by omega⟩,⟨c1',by omega⟩,c2',⟨c5,by omega⟩,c6,rfl,⟨by show _≤v.getD (nodeS b i k).toNat 0+capS b i k; omega,by show v.getD (nodeS b i k).toNat 0+capS b i k≤_; omega⟩,⟨c1',by omega⟩,c2',trivial⟩,lt_eq]
  exact gd_pos ⟨⟨by omega,by omega⟩,trivial⟩) (fun k v hk hI=>by
  obtain ⟨c1,c2,c3,c4⟩:=h.capIn hk
  have:=hI.add c2 c3
  refine ⟨this.len,this.pos,Int.le_trans this.sum ?_⟩
  rw [Int.natCast_add,Int.mul_add]
  simp only [Int.natCast_one]
  omega) (fun g s _=>all_end) (wirOf b i).2.2.1 (by
  have:=h.low 0 (Nat.zero_le _)
  exact this)
 refine key.trans ?_
 have hl0:=(h.low _ (Nat.le_refl _)).len
 have hp0:=h.pull 0 (Nat.zero_le _)
 have hL:loadsV b i=foldN (pullF (parS b i) (wirOf b i).1.length) ((wirOf b i).1.length - 1) (foldN (capF (nodeS b i) (capS b i)) (sinksV b.2.1 i).length (wirOf b i).2.2.1):=rfl
 rw [hL]
 have hpl:=h.pull
 generalize foldN (capF (nodeS b i) (capS b i)) (sinksV b.2.1 i).length (wirOf b i).2.2.1=v0 at hl0 hp0 hpl ⊢
 rw [u100J0,hl0,gd_pos ⟨⟨by omega,by omega⟩,trivial⟩]
 have e5:(((wirOf b i).1.length:Int) - 1,v0)=(fun (k:Nat) (s:List Int)=>(((wirOf b i).1.length:Int) - 1 - (k:Int),s)) 0 v0:=by simp
 rw [e5]
 exact lp_fold (n:=(wirOf b i).1.length - 1) (by omega) (fun (k:Nat) (s:List Int)=>(((wirOf b i).1.length:Int) - 1 - (k:Int),s)) (pullF (parS b i) (wirOf b i).1.length) (fun k v=>Pull v (wirOf b i).1.length k 43000) (J:=fun s=>some s) (F:=u100L3 (wirOf b i)) (fun g k v hk hI=>by
  have hp:=h.wf.par ((wirOf b i).1.length - 1 - k) (by omega) (by omega)
  have hp':0≤(wirOf b i).1.getD ((wirOf b i).1.length - 1 - k) 0∧((wirOf b i).1.getD ((wirOf b i).1.length - 1 - k) 0).toNat < (wirOf b i).1.length - 1 - k:=hp
  have hlen:=hI.len
  have e6:((wirOf b i).1.length:Int) - 1 - (k:Int)=(((wirOf b i).1.length - 1 - k:Nat):Int):=by omega
  have e7:((((wirOf b i).1.length - 1 - k:Nat):Int)).toNat=(wirOf b i).1.length - 1 - k:=rfl
  have b1:=hI.pos ((wirOf b i).1.getD ((wirOf b i).1.length - 1 - k) 0).toNat
  have b2:=hI.bd ((wirOf b i).1.getD ((wirOf b i).1.length - 1 - k) 0).toNat
  have b3:=hI.pos ((wirOf b i).1.length - 1 - k)
  have b4:=hI.bd ((wirOf b i).1.length - 1 - k)
  have e8:((wirOf b i).1.length:Int) - 1 - ((k+1:Nat):Int)=(((wirOf b i).1.length - 1 - k:Nat):Int) - 1:=by omega
  show u100L3 (wirOf b i) g (((wirOf b i).1.length:Int) - 1 - (k:Int),v)=g (((wirOf b i).1.length:Int) - 1 - ((k+1:Nat):Int),pullF (parS b i) (wirOf b i).1.length k v)
  rw [e8,e6]
  refine (if_pos (decide_eq_true (by omega))).trans ?_
  rw [e7,gd_pos ⟨⟨by omega,by omega⟩,⟨hp'.1,by omega⟩,by omega,⟨by omega,by omega⟩,by omega,⟨by omega,by omega⟩,⟨hp'.1,by omega⟩,by omega,trivial⟩,lt_eq]
  exact gd_pos ⟨⟨by omega,by omega⟩,trivial⟩) (fun k v hk hI=>pull_step hI hk (h.wf.par _ (by omega) (by omega))) (fun g s _=>by
  have e9:((wirOf b i).1.length:Int) - 1 - (((wirOf b i).1.length - 1:Nat):Int)=0:=by omega
  show u100L3 (wirOf b i) g (((wirOf b i).1.length:Int) - 1 - (((wirOf b i).1.length - 1:Nat):Int),s)=some s
  rw [e9]
  have:u100L3 (wirOf b i) g (0,s)=u100J2 s:=by
   rw [u100L3]
   exact if_neg (by decide)
  exact this.trans rfl) v0 hp0
end Go.Proofs.YtgmpfbpemmohnaaGreatDoor
end
section
/- The delays of a net's nodes and sinks: the program's way. -/
namespace Go.Proofs.YtgmpfbpemmohnaaGreatDoor
open Go Go.Proofs Go.Proofs.Sv Go.Proofs.Xv Go.Proofs.Xl Go.Proofs.Xd
def delaysV (b:Y46) (i:Nat):List Int:=delaysD (wirOf b i).1.length (parS b i) (resS b i) (fun k=>(loadsV b i).getD k 0)
def exactV (b:Y46) (i:Nat):List Int:=foldN (exF (delaysV b i) (nodeS b i)) (sinksV b.2.1 i).length []
theorem NetOk.del {b:Y46} {i:Nat} (h:NetOk b i):∀ k,k≤(wirOf b i).1.length - 1→(foldN (delF (parS b i) (resS b i) (fun k=>(loadsV b i).getD k 0)) k [0]).length=k+1∧∀ j,0≤(foldN (delF (parS b i) (resS b i) (fun k=>(loadsV b i).getD k 0)) k [0]).getD j 0∧(foldN (delF (parS b i) (resS b i) (fun k=>(loadsV b i).getD k 0)) k [0]).getD j 0≤1000*43000*(k:Int) :=
 delF_in (n:=(wirOf b i).1.length) (fun k hk=>h.wf.resIn k hk) (fun k _=>h.loads.2 k) (by decide)
theorem NetOk.delays {b:Y46} {i:Nat} (h:NetOk b i):(delaysV b i).length=(wirOf b i).1.length∧∀ j,0≤(delaysV b i).getD j 0∧(delaysV b i).getD j 0≤301000000:=by
 have h1:=h.del _ (Nat.le_refl _)
 have n1:=h.wf.n1
 have n8:=h.wf.n8
 refine ⟨h1.1.trans (by omega),fun j=>⟨(h1.2 j).1,Int.le_trans (h1.2 j).2 (by omega)⟩⟩
theorem r78 (b:Y46) (hw:wf y46 b) {i:Nat} (h:NetOk b i):u78 b (i:Int)=some (delaysV b i):=by
 have hi:=h.lt
 have hb:=hw.2.2.1
 have n1:=h.wf.n1
 have n8:=h.wf.n8
 have hr:=h.wf.res
 obtain ⟨ll,lb⟩:=h.loads
 have e3:((i:Int)).toNat=i:=rfl
 unfold u78
 rw [r100 b hw h,vl_some,gd_pos ⟨⟨by omega,by omega⟩,rfl,trivial⟩,lt_eq,e3]
 show gd ((0≤((loadsV b i).length:Int)∧((loadsV b i).length:Int)=((loadsV b i).length:Int)∧((loadsV b i).length:Int).toNat*8≤281474976710656∧((loadsV b i).length:Int)≤9223372036854775807)∧True) (lp (u78L1 (wirOf b i) (loadsV b i)) (1,List.replicate ((loadsV b i).length:Int).toNat 0))=_
 rw [ll,gd_pos ⟨⟨by omega,rfl,by omega,by omega⟩,trivial⟩]
 have e5:((1:Int),List.replicate ((wirOf b i).1.length:Int).toNat (0:Int))=(fun (k:Nat) (s:List Int)=>(((k+1:Nat):Int),s++List.replicate ((wirOf b i).1.length - 1 - k) 0)) 0 [0]:=by
  show ((1:Int),List.replicate (wirOf b i).1.length (0:Int))=_
  have:(wirOf b i).1.length=((wirOf b i).1.length - 1)+1:=by omega
  rw [this,List.replicate_succ]
  rfl
 rw [e5]
 refine (lp_fold (n:=(wirOf b i).1.length - 1) (by omega) (fun (k:Nat) (s:List Int)=>(((k+1:Nat):Int),s++List.replicate ((wirOf b i).1.length - 1 - k) 0)) (delF (parS b i) (resS b i) (fun k=>(loadsV b i).getD k 0)) (fun k s=>s.length=k+1∧∀ j,0≤s.getD j 0∧s.getD j 0≤1000*43000*(k:Int)) (J:=fun s=>some s) (F:=u78L1 (wirOf b i) (loadsV b i)) (fun g k s hk hI=>?_) (fun k s hk hI=>?_) (fun g s hI=>?_) [0] ?_)
 ·obtain ⟨hl,hs⟩:=hI
  have hp:=h.wf.par (k+1) (by omega) (by omega)
  have hfl:(s++List.replicate ((wirOf b i).1.length - 1 - k) (0:Int)).length=(wirOf b i).1.length:=by rw [List.length_append,List.length_replicate]; omega
  have e4:(((k+1:Nat):Int)).toNat=k+1:=rfl
  have hg:=fill_get (n:=(wirOf b i).1.length) hl hp.2
  have r1:=h.wf.resIn (k+1) (by omega)
  have l1:=lb (k+1)
  have hm:=mul_le r1.1 r1.2 l1.1 l1.2
  have hs1:=hs ((wirOf b i).1.getD (k+1) 0).toNat
  show u78L1 (wirOf b i) (loadsV b i) g (((k+1:Nat):Int),s++List.replicate ((wirOf b i).1.length - 1 - k) 0)=g (((k+1+1:Nat):Int),delF (parS b i) (resS b i) (fun k=>(loadsV b i).getD k 0) k s++List.replicate ((wirOf b i).1.length - 1 - (k+1)) 0)
  have e6:delF (parS b i) (resS b i) (fun k=>(loadsV b i).getD k 0) k s++List.replicate ((wirOf b i).1.length - 1 - (k+1)) 0=(s++List.replicate ((wirOf b i).1.length - 1 - k) 0).set (k+1) (s.getD ((wirOf b i).1.getD (k+1) 0).toNat 0+(wirOf b i).2.1.getD (k+1) 0*(loadsV b i).getD (k+1) 0):=(fill_one hl (by omega)).symm
  rw [e6,← hg]
  generalize s++List.replicate ((wirOf b i).1.length - 1 - k) (0:Int)=v at hfl hg ⊢
  refine (if_pos (by simp; omega)).trans ?_
  rw [e4,gd_pos ⟨⟨by omega,by omega⟩,⟨hp.1,by omega⟩,by omega,⟨by omega,by omega⟩,⟨by omega,by omega⟩,by omega,⟨by omega,by omega⟩,⟨by omega,by omega⟩,⟨by omega,by omega⟩,by omega,trivial⟩,lt_eq]
  exact gd_pos ⟨⟨by omega,by omega⟩,trivial⟩
 ·obtain ⟨hl,hs⟩:=hI
  have r1:=h.wf.resIn (k+1) (by omega)
  have l1:=lb (k+1)
  have hm:=mul_le r1.1 r1.2 l1.1 l1.2
  have hs1:=hs (parS b i (k+1)).toNat
  unfold delF
  refine ⟨by rw [List.length_append,hl]; rfl,fun j=>?_⟩
  have hm:0≤resS b i (k+1)*(loadsV b i).getD (k+1) 0∧resS b i (k+1)*(loadsV b i).getD (k+1) 0≤1000*43000:=hm
  rcases Nat.lt_or_ge j s.length with hj | hj
  ·have:=hs j
   rw [getD_left hj]; omega
  ·rw [getD_right hj]
   cases hjs:j - s.length with
   | zero=>simp only [List.getD_cons_zero]; omega
   | succ q=>simp only [List.getD_cons_succ,List.getD_nil]; omega
 ·have e9:(wirOf b i).1.length - 1 - ((wirOf b i).1.length - 1)=0:=by omega
  show u78L1 (wirOf b i) (loadsV b i) g ((((wirOf b i).1.length - 1+1:Nat):Int),s++List.replicate ((wirOf b i).1.length - 1 - ((wirOf b i).1.length - 1)) 0)=some s
  rw [e9,List.replicate_zero,List.append_nil,← hI.1]
  exact all_end
 ·exact h.del 0 (Nat.zero_le _)
theorem r40 (b:Y46) (hw:wf y46 b) {i:Nat} (h:NetOk b i):u40 b (i:Int)=some (exactV b i):=by
 have hi:=h.lt
 have hb:=hw.2.2.1
 have hsn:=h.sn
 have hs:=h.s78
 obtain ⟨dl,db⟩:=h.delays
 have e3:((i:Int)).toNat=i:=rfl
 unfold u40
 rw [r78 b hw h,vl_some,gd_pos ⟨rfl,trivial⟩,lt_eq,gd_pos ⟨⟨by omega,by omega⟩,trivial⟩,lt_eq,e3]
 unfold exactV
 rw [← hsn]
 exact lp_fold (n:=(wirOf b i).2.2.2.length) (by omega) (fun (k:Nat) (s:List Int)=>(s,(k:Int))) (exF (delaysV b i) (nodeS b i)) (fun k s=>s.length=k) (J:=fun s=>some s) (F:=u40L1 (delaysV b i) (wirOf b i)) (fun g k s hk hI=>by
  have e4:((k:Int)).toNat=k:=rfl
  have h1:=h.wf.snkIn k hk
  have hI:s.length=k:=hI
  refine (if_pos (by simpa using hk)).trans ?_
  rw [e4,gd_pos ⟨⟨by omega,by omega⟩,trivial⟩,gd_pos ⟨⟨h1.1,by omega⟩,by omega,⟨by show s.length+1≤_; omega,by show (s.length+1)*8≤_; omega⟩,trivial⟩,lt_eq]
  exact gd_pos ⟨⟨by omega,by omega⟩,trivial⟩) (fun k s hk hI=>by
  have hI:s.length=k:=hI
  unfold exF
  rw [List.length_append,hI]; rfl) (fun g s _=>all_end) [] rfl
theorem exact_get {b:Y46} {i k:Nat} (hk:k < (sinksV b.2.1 i).length):(exactV b i).getD k 0=(delaysV b i).getD (nodeS b i k).toNat 0:=exF_get _ _ _ k hk
theorem exact_len (b:Y46) (i:Nat):(exactV b i).length=(sinksV b.2.1 i).length:=exF_len _ _ _
end Go.Proofs.YtgmpfbpemmohnaaGreatDoor
end
section
/- The links of a block. Plain facts. -/
namespace Go.Proofs.Xd
open Go Go.Proofs Go.Proofs.Xl
def appF {α:Type} (f:Nat→α) (i:Nat) (s:List α):List α:=s++[f i]
theorem appF_len {α:Type} (f:Nat→α):∀ n,(foldN (appF f) n []).length=n
 | 0=>rfl
 | n+1=>by
   have:=appF_len f n
   show (appF f n (foldN (appF f) n [])).length=_
   generalize foldN (appF f) n []=z at this
   unfold appF
   rw [List.length_append,this]; rfl
theorem appF_get {α:Type} (f:Nat→α) (d:α):∀ n i,i < n→(foldN (appF f) n []).getD i d=f i
 | n+1,i,h=>by
   have hl:=appF_len f n
   have ih:=appF_get f d n i
   show (appF f n (foldN (appF f) n [])).getD i d=_
   generalize foldN (appF f) n []=s at hl ih
   unfold appF
   rcases Nat.lt_or_ge i n with hi | hi
   ·rw [getD_left (by rw [hl]; exact hi)]; exact ih hi
   ·have:i=n:=by omega
    subst this
    rw [getD_right (by rw [hl]; exact Nat.le_refl _),hl,Nat.sub_self]; rfl
end Go.Proofs.Xd
end
section
/- Where the places of a design lie; who drives a net. Plain facts. -/
namespace Go.Proofs.Xd
open Go Go.Proofs Go.Proofs.Xl
end Go.Proofs.Xd
end
section
/- Axes of tables: rising; the place of a number between the elements. -/
namespace Go.Proofs.Xd
open Go Go.Proofs.Xv Go.Proofs.Xl
end Go.Proofs.Xd
end
section
/- Rounded division; loops with a measure; whole roots. Plain facts. -/
namespace Go.Proofs.Xd
open Go Go.Proofs Go.Proofs.Xl
def divV (a b m:Int):Int:=if (decide (a.tmod b < 0)&&m==0)=true then a.tdiv b - 1 else if (decide (0 < a.tmod b)&&m==1)=true then a.tdiv b+1 else a.tdiv b
end Go.Proofs.Xd
end
section
/- Division that rounds: the program's function and the reference's. -/
namespace Go.Proofs.YtgmpfbpemmohnaaGreatDoor
open Go Go.Proofs Go.Proofs.Xv Go.Proofs.Xl Go.Proofs.Xd
theorem r412 (a b m:Int) (h : -1000000000000000000≤a) (h':a≤1000000000000000000) (hb:0 < b):u41 a b m=some (divV a b m)∧u71 a b m=some (divV a b m):=by
 have t1:a.tdiv b≤1000000000000000000 ∧ -1000000000000000000≤a.tdiv b:=by
  have h1:(a.tdiv b).natAbs≤a.natAbs:=by
   rw [Int.natAbs_tdiv]
   exact Nat.div_le_self _ _
  omega
 have g1:in64 (a.tdiv b - 1)∧True:=⟨⟨by omega,by omega⟩,trivial⟩
 have g2:in64 (a.tdiv b+1)∧True:=⟨⟨by omega,by omega⟩,trivial⟩
 unfold u41 u71 divV
 rw [gd_pos (V:=0 < b∧0 < b∧True) ⟨hb,hb,trivial⟩,gd_pos (V:=0 < b∧True) ⟨hb,trivial⟩,gd_pos (V:=0 < b∧True) ⟨hb,trivial⟩,gd_pos g1,gd_pos g2,Bool.and_comm (m==0),Bool.and_comm (m==1)]
 by_cases c1:(decide (a.tmod b < 0)&&m==0)=true
 ·rw [if_pos c1,if_pos c1]; exact ⟨rfl,rfl⟩
 ·by_cases c2:(decide (0 < a.tmod b)&&m==1)=true
  ·rw [if_neg c1,if_pos c2,if_neg c1,if_pos c2]; exact ⟨rfl,rfl⟩
  ·rw [if_neg c1,if_neg c2,if_neg c1,if_neg c2]; exact ⟨rfl,rfl⟩
end Go.Proofs.YtgmpfbpemmohnaaGreatDoor
end
section
/- The loads of a net's wire, and the delays of its sinks: the reference's way. -/
namespace Go.Proofs.YtgmpfbpemmohnaaGreatDoor
open Go Go.Proofs Go.Proofs.Sv Go.Proofs.Xv Go.Proofs.Xl Go.Proofs.Xd
theorem r148 (l:List Y134) (d:Y43) (df:DF l d) {p:DPlace} (hp:p∈plcs d):u148 l d p=some (capV l d p):=by
 unfold u148 capV
 rcases plc_pin df hp with h | ⟨h1,h2,h3,h4,h5,h6⟩
 ·rw [if_pos (by rw [h.1]; decide),if_pos (by omega)]
 ·refine (if_neg (by simp; omega)).trans ?_
  rw [if_neg (by omega),gd_pos ⟨⟨by omega,by omega⟩,⟨h3,by show (insOf d p.1.toNat).2.1 < _; omega⟩,⟨h5,by show p.2.1 < (((l.getD (insOf d p.1.toNat).2.1.toNat (dflt y134)).2.2.1.length:Nat):Int); omega⟩,trivial⟩]
  rfl
theorem r147 (xs:List Int) (h:xs.length≤1048576):u147 xs=some xs:=gd_pos ⟨⟨by omega,by omega⟩,trivial⟩
theorem r116 (b:Y46) (hw:wf y46 b) {i:Nat} (h:NetOk b i):u116 b (i:Int)=some (loadsV b i):=by
 have hd:=hw.2.1
 have df:=h.df
 have hb:=hw.2.2.1
 have hi:=h.lt
 have n1:=h.wf.n1
 have n8:=h.wf.n8
 have hsn:=h.sn
 have hs:=h.s78
 have hcl:=h.wf.cap
 unfold u116
 have e3:((i:Int)).toNat=i:=rfl
 have es:u90 b.2.1 (i:Int)=some (sinksV b.2.1 i):=r90 b.2.1 hd df _
 rw [gd_pos ⟨⟨by omega,by omega⟩,trivial⟩,lt_eq,e3,r147 _ (by show (wirOf b i).2.2.1.length≤_; omega),vl_some,gd_pos ⟨rfl,trivial⟩,lt_eq,r106 b.2.1 hd df.fac.ni14 df.fac.np8 df.pin,vl_some,gd_pos ⟨rfl,trivial⟩,lt_eq,es,vl_some,gd_pos ⟨rfl,trivial⟩,lt_eq]
 have key:=lp_fold (n:=(sinksV b.2.1 i).length) (by omega) (fun k (s:List Int)=>((k:Int),s)) (capF (nodeS b i) (capS b i)) (fun k v=>Low v (wirOf b i).1.length (500*((wirOf b i).1.length:Int)+500*(k:Int))) (J:=u116J0 (wirOf b i)) (F:=u116L1 b (plcs b.2.1) (sinksV b.2.1 i) (wirOf b i)) (fun g k v hk hI=>by
  have e4:((k:Int)).toNat=k:=rfl
  obtain ⟨c1,c2,c3,c4⟩:=h.capIn hk
  obtain ⟨c5,c6⟩:=sinksV_at hk
  have hv:=hI.bd (by omega) (nodeS b i k).toNat
  have c1':0≤(wirOf b i).2.2.2.getD k 0:=c1
  have c2':((wirOf b i).2.2.2.getD k 0).toNat < v.length:=by rw [hI.len]; exact c2
  refine (if_pos (by simpa using hk)).trans ?_
  rw [e4,r148 b.1 b.2.1 df (plc_mem c6),vl_some]
  rw [gd_pos ⟨⟨by omega,by omega⟩,⟨c1',by omega⟩,c2',⟨by omega,by omega⟩,hk,⟨c5,by omega⟩,c6,rfl,⟨by show _≤v.getD (nodeS b i k).toNat 0+capS b i k; omega,by show v.getD (nodeS b i k).toNat 0+capS b i k≤_; omega⟩,⟨c1',by omega⟩,c2',trivial⟩,lt_eq]
  exact gd_pos ⟨⟨by omega,by omega⟩,trivial⟩) (fun k v hk hI=>by
  obtain ⟨c1,c2,c3,c4⟩:=h.capIn hk
  have:=hI.add c2 c3
  refine ⟨this.len,this.pos,Int.le_trans this.sum ?_⟩
  rw [Int.natCast_add,Int.mul_add]
  simp only [Int.natCast_one]
  omega) (fun g s _=>all_end) (wirOf b i).2.2.1 (by
  have:=h.low 0 (Nat.zero_le _)
  exact this)
 refine key.trans ?_
 have hl0:=(h.low _ (Nat.le_refl _)).len
 have hp0:=h.pull 0 (Nat.zero_le _)
 have hL:loadsV b i=foldN (pullF (parS b i) (wirOf b i).1.length) ((wirOf b i).1.length - 1) (foldN (capF (nodeS b i) (capS b i)) (sinksV b.2.1 i).length (wirOf b i).2.2.1):=rfl
 rw [hL]
 have hpl:=h.pull
 generalize foldN (capF (nodeS b i) (capS b i)) (sinksV b.2.1 i).length (wirOf b i).2.2.1=v0 at hl0 hp0 hpl ⊢
 rw [u116J0,hl0,gd_pos ⟨⟨by omega,by omega⟩,trivial⟩]
 have e5:(((wirOf b i).1.length:Int) - 1,v0)=(fun (k:Nat) (s:List Int)=>(((wirOf b i).1.length:Int) - 1 - (k:Int),s)) 0 v0:=by simp
 rw [e5]
 exact lp_fold (n:=(wirOf b i).1.length - 1) (by omega) (fun (k:Nat) (s:List Int)=>(((wirOf b i).1.length:Int) - 1 - (k:Int),s)) (pullF (parS b i) (wirOf b i).1.length) (fun k v=>Pull v (wirOf b i).1.length k 43000) (J:=fun s=>some s) (F:=u116L3 (wirOf b i)) (fun g k v hk hI=>by
  have hp:=h.wf.par ((wirOf b i).1.length - 1 - k) (by omega) (by omega)
  have hp':0≤(wirOf b i).1.getD ((wirOf b i).1.length - 1 - k) 0∧((wirOf b i).1.getD ((wirOf b i).1.length - 1 - k) 0).toNat < (wirOf b i).1.length - 1 - k:=hp
  have hlen:=hI.len
  have e6:((wirOf b i).1.length:Int) - 1 - (k:Int)=(((wirOf b i).1.length - 1 - k:Nat):Int):=by omega
  have e7:((((wirOf b i).1.length - 1 - k:Nat):Int)).toNat=(wirOf b i).1.length - 1 - k:=rfl
  have b1:=hI.pos ((wirOf b i).1.getD ((wirOf b i).1.length - 1 - k) 0).toNat
  have b2:=hI.bd ((wirOf b i).1.getD ((wirOf b i).1.length - 1 - k) 0).toNat
  have b3:=hI.pos ((wirOf b i).1.length - 1 - k)
  have b4:=hI.bd ((wirOf b i).1.length - 1 - k)
  have e8:((wirOf b i).1.length:Int) - 1 - ((k+1:Nat):Int)=(((wirOf b i).1.length - 1 - k:Nat):Int) - 1:=by omega
  show u116L3 (wirOf b i) g (((wirOf b i).1.length:Int) - 1 - (k:Int),v)=g (((wirOf b i).1.length:Int) - 1 - ((k+1:Nat):Int),pullF (parS b i) (wirOf b i).1.length k v)
  rw [e8,e6]
  refine (if_pos (decide_eq_true (by omega))).trans ?_
  rw [e7,gd_pos ⟨⟨by omega,by omega⟩,⟨hp'.1,by omega⟩,by omega,⟨by omega,by omega⟩,by omega,⟨by omega,by omega⟩,⟨hp'.1,by omega⟩,by omega,trivial⟩,lt_eq]
  exact gd_pos ⟨⟨by omega,by omega⟩,trivial⟩) (fun k v hk hI=>pull_step hI hk (h.wf.par _ (by omega) (by omega))) (fun g s _=>by
  have e9:((wirOf b i).1.length:Int) - 1 - (((wirOf b i).1.length - 1:Nat):Int)=0:=by omega
  show u116L3 (wirOf b i) g (((wirOf b i).1.length:Int) - 1 - (((wirOf b i).1.length - 1:Nat):Int),s)=some s
  rw [e9]
  have:u116L3 (wirOf b i) g (0,s)=u116J2 s:=by
   rw [u116L3]
   exact if_neg (by decide)
  exact this.trans rfl) v0 hp0
theorem r70 (b:Y46) (hw:wf y46 b) {i:Nat} (h:NetOk b i):u70 b (i:Int)=some (delaysV b i):=by
 have hi:=h.lt
 have hb:=hw.2.2.1
 have n1:=h.wf.n1
 have n8:=h.wf.n8
 have hr:=h.wf.res
 obtain ⟨ll,lb⟩:=h.loads
 have e3:((i:Int)).toNat=i:=rfl
 unfold u70
 rw [r116 b hw h,vl_some,gd_pos ⟨⟨by omega,by omega⟩,trivial⟩,lt_eq,gd_pos ⟨rfl,trivial⟩,lt_eq,e3]
 have e5:((1:Int),[(0:Int)])=(fun (k:Nat) (s:List Int)=>(((k+1:Nat):Int),s)) 0 [0]:=rfl
 rw [e5]
 refine (lp_fold (n:=(wirOf b i).1.length - 1) (by omega) (fun (k:Nat) (s:List Int)=>(((k+1:Nat):Int),s)) (delF (parS b i) (resS b i) (fun k=>(loadsV b i).getD k 0)) (fun k s=>s.length=k+1∧∀ j,0≤s.getD j 0∧s.getD j 0≤1000*43000*(k:Int)) (J:=fun s=>some s) (F:=u70L1 (wirOf b i) (loadsV b i)) (fun g k s hk hI=>?_) (fun k s hk hI=>?_) (fun g s hI=>?_) [0] ?_)
 ·obtain ⟨hl,hs⟩:=hI
  have hp:=h.wf.par (k+1) (by omega) (by omega)
  have e4:(((k+1:Nat):Int)).toNat=k+1:=rfl
  have r1:=h.wf.resIn (k+1) (by omega)
  have l1:=lb (k+1)
  have hm:=mul_le r1.1 r1.2 l1.1 l1.2
  have hs1:=hs ((wirOf b i).1.getD (k+1) 0).toNat
  refine (if_pos (by simp; omega)).trans ?_
  rw [e4,gd_pos ⟨⟨by omega,by omega⟩,⟨hp.1,by omega⟩,by omega,⟨by omega,by omega⟩,⟨by omega,by omega⟩,by omega,⟨by omega,by omega⟩,⟨by omega,by omega⟩,⟨by show s.length+1≤_; omega,by show (s.length+1)*8≤_; omega⟩,trivial⟩,lt_eq]
  exact gd_pos ⟨⟨by omega,by omega⟩,trivial⟩
 ·obtain ⟨hl,hs⟩:=hI
  have r1:=h.wf.resIn (k+1) (by omega)
  have l1:=lb (k+1)
  have hm:=mul_le r1.1 r1.2 l1.1 l1.2
  have hs1:=hs (parS b i (k+1)).toNat
  unfold delF
  refine ⟨by rw [List.length_append,hl]; rfl,fun j=>?_⟩
  have hm:0≤resS b i (k+1)*(loadsV b i).getD (k+1) 0∧resS b i (k+1)*(loadsV b i).getD (k+1) 0≤1000*43000:=hm
  rcases Nat.lt_or_ge j s.length with hj | hj
  ·have:=hs j
   rw [getD_left hj]; omega
  ·rw [getD_right hj]
   cases hjs:j - s.length with
   | zero=>simp only [List.getD_cons_zero]; omega
   | succ q=>simp only [List.getD_cons_succ,List.getD_nil]; omega
 ·have e9:(wirOf b i).1.length - 1+1=(loadsV b i).length:=by omega
  show u70L1 (wirOf b i) (loadsV b i) g ((((wirOf b i).1.length - 1+1:Nat):Int),s)=some s
  rw [e9]
  exact all_end
 ·exact h.del 0 (Nat.zero_le _)
def sdelV (b:Y46) (i:Nat) (m:Int):List Int:=foldN (appF fun k=>divV ((delaysV b i).getD (nodeS b i k).toNat 0) 1000 m) (sinksV b.2.1 i).length []
theorem r34 (b:Y46) (hw:wf y46 b) {i:Nat} (h:NetOk b i) (m:Int):u34 b (i:Int) m=some (sdelV b i m):=by
 have hi:=h.lt
 have hb:=hw.2.2.1
 have hsn:=h.sn
 have hs:=h.s78
 obtain ⟨dl,db⟩:=h.delays
 have e3:((i:Int)).toNat=i:=rfl
 unfold u34
 rw [r70 b hw h,vl_some,gd_pos ⟨rfl,trivial⟩,lt_eq]
 unfold sdelV
 rw [← hsn]
 refine lp_fold (n:=(wirOf b i).2.2.2.length) (by omega) (fun (k:Nat) (s:List Int)=>((k:Int),s)) (appF fun k=>divV ((delaysV b i).getD (nodeS b i k).toNat 0) 1000 m) (fun k s=>s.length=k) (J:=fun s=>some s) (F:=u34L1 (delaysV b i) b (i:Int) m) (fun g k s hk hI=>?_) (fun k s hk hI=>?_) (fun g s _=>?_) [] rfl
 ·have e4:((k:Int)).toNat=k:=rfl
  have h1:0≤(b.2.2.getD i (dflt y114)).2.2.2.getD k 0∧((b.2.2.getD i (dflt y114)).2.2.2.getD k 0).toNat < (delaysV b i).length:=by rw [dl]; exact h.wf.snkIn k hk
  have hk':k < (b.2.2.getD i (dflt y114)).2.2.2.length:=hk
  have hI:s.length=k:=hI
  have hd:=db ((wirOf b i).2.2.2.getD k 0).toNat
  have ed:=(r412 ((delaysV b i).getD ((wirOf b i).2.2.2.getD k 0).toNat 0) 1000 m (by omega) (by omega) (by decide)).2
  refine (gd_pos ⟨⟨by omega,by omega⟩,trivial⟩).trans ?_
  refine (if_pos (by simpa using hk)).trans ?_
  rw [e3,e4,ed,vl_some,gd_pos ⟨⟨by omega,by omega⟩,⟨by omega,by omega⟩,⟨h1.1,by omega⟩,by omega,rfl,⟨by show s.length+1≤_; omega,by show (s.length+1)*8≤_; omega⟩,trivial⟩,lt_eq]
  exact gd_pos ⟨⟨by omega,by omega⟩,trivial⟩
 ·have hI:s.length=k:=hI
  unfold appF
  rw [List.length_append,hI]; rfl
 ·refine (gd_pos ⟨⟨by omega,by omega⟩,trivial⟩).trans ?_
  exact all_end
theorem sdelV_get {b:Y46} {i k:Nat} {m:Int} (hk:k < (sinksV b.2.1 i).length):(sdelV b i m).getD k 0=divV ((delaysV b i).getD (nodeS b i k).toNat 0) 1000 m:=appF_get _ 0 _ k hk
theorem sdelV_len (b:Y46) (i:Nat) (m:Int):(sdelV b i m).length=(sinksV b.2.1 i).length:=appF_len _ _
end Go.Proofs.YtgmpfbpemmohnaaGreatDoor
end
section
/- Plain facts on marks: how many there are, what the held ones say. -/
namespace Go.Proofs.Xd
open Go Go.Proofs.Xl Go.Proofs.Xv
def wd:Ty→Nat
 | .pr a b=>wd a+wd b
 | .sl e=>wd e
 | .pt _=>0
 | _=>1
theorem cntM_le:∀ (t:Ty) (x:den t),cntM t x≤wd t*(1+cnt t x)
 | .int _,_=>by simp [cntM,wd]
 | .bool,_=>by simp [cntM,wd]
 | .str,_=>by simp [cntM,wd]
 | .pt _,_=>by simp [cntM]
 | .sl e,xs=>by
   have key:∀ l:List (den e),(l.map (cntM e)).sum≤wd e*(l.length+(l.map (cnt e)).sum):=by
    intro l
    induction l with
    | nil=>exact Nat.zero_le _
    | cons a r ih =>
      have h1:=cntM_le e a
      rw [List.map_cons,List.sum_cons,List.map_cons,List.sum_cons,List.length_cons]
      have e1:wd e*(r.length+1+(cnt e a+(r.map (cnt e)).sum))=wd e*(1+cnt e a)+wd e*(r.length+(r.map (cnt e)).sum):=by
       rw [← Nat.mul_add]; congr 1; omega
      omega
   refine Nat.le_trans (key xs) ?_
   show _≤wd e*(1+(xs.length+(xs.map (cnt e)).sum))
   exact Nat.mul_le_mul_left _ (by omega)
 | .pr a b,x=>by
   have h1:=cntM_le a x.1
   have h2:=cntM_le b x.2
   show cntM a x.1+cntM b x.2≤(wd a+wd b)*(1+(cnt a x.1+cnt b x.2))
   have h3:wd a*(1+cnt a x.1)≤wd a*(1+(cnt a x.1+cnt b x.2)):=Nat.mul_le_mul_left _ (by omega)
   have h4:wd b*(1+cnt b x.2)≤wd b*(1+(cnt a x.1+cnt b x.2)):=Nat.mul_le_mul_left _ (by omega)
   rw [Nat.add_mul]
   omega
theorem cntM_bd {t:Ty} {x:den t} {k:Nat} (h:cnt t x≤1048576) (hw:wd t≤k):(cntM t x:Int)≤(k*1048577:Nat):=by
 have h1:=cntM_le t x
 have h2:wd t*(1+cnt t x)≤k*1048577:=Nat.mul_le_mul hw (by omega)
 omega
theorem mkI_get:∀ (m:Nat) (k:Int) (i:Nat),i < m→(mkI k m).getD i 0=k+(i:Int)
 | m+1,k,0,_=>by simp [mkI]
 | m+1,k,i+1,h=>by
   rw [mkI,List.getD_cons_succ,mkI_get m (k+1) i (by omega)]
   omega
theorem fold_one:∀ n:Nat,foldN (fun _ (v:Int)=>v+1) n 1=1+((1*n:Nat):Int)
 | 0=>rfl
 | n+1=>by rw [foldN,fold_one n]; omega
end Go.Proofs.Xd
end
section
/- The delays of the sinks of a net: what the law asks of its functions. -/
namespace Go.Proofs.YtgmpfbpemmohnaaGreatDoor
open Go Go.Proofs Go.Proofs.Sv Go.Proofs.Xv Go.Proofs.Xl Go.Proofs.Xd
def modK (m:Int):Bool:=m==0||m==1
def netV (b:Y46) (a:Int):Int:=if blockOk b=true then (if inB a 0 ((b.2.2.length:Int) - 1)=true then 0 else 2) else 1
theorem r38 (b:Y46) (hw:wf y46 b) (hm:cnt y46 b≤1048576) (a:Int):u38 b a=some (netV b a):=by
 unfold u38 netV
 rw [r50 b hw hm,vl_some,gd_pos ⟨rfl,trivial⟩]
 cases hb:blockOk b with
 | false=>rfl
 | true =>
   obtain ⟨_,hl,_⟩:=block_design hb
   refine (if_neg (by simp)).trans ?_
   rw [if_pos rfl,r77 b.2.1 hw.2.1 a,vl_some,gd_pos ⟨rfl,trivial⟩,← hl]
   cases inB a 0 ((b.2.2.length:Int) - 1) <;> rfl
theorem r32 (b:Y46) (hw:wf y46 b) (hm:cnt y46 b≤1048576) (a:Int):u32 b a=some (netV b a):=by
 unfold u32 netV
 have hl:b.2.2.length≤9223372036854775807:=hw.2.2.1
 rw [r48 b hw hm,vl_some,gd_pos ⟨rfl,trivial⟩]
 cases hb:blockOk b with
 | false=>rfl
 | true =>
   refine (if_neg (by simp)).trans ?_
   rw [if_pos rfl,r69,vl_some,gd_pos ⟨⟨by omega,by omega⟩,rfl,trivial⟩]
   cases inB a 0 ((b.2.2.length:Int) - 1) <;> rfl
theorem netV_ok {b:Y46} {a:Int} (h:netV b a=0):blockOk b=true∧∃ i:Nat,a=(i:Int)∧i < b.2.2.length:=by
 unfold netV at h
 split at h
 ·rename_i hb
  split at h
  ·rename_i hi
   unfold inB at hi
   simp only [Bool.and_eq_true,decide_eq_true_eq] at hi
   exact ⟨hb,a.toNat,by omega,by omega⟩
  ·cases h
 ·cases h
def stF (φ:Int→Int) (k:Nat) (s:List Int):List Int:=s.set k (φ (s.getD k 0))
theorem stF_fold (φ:Int→Int) (l:List Int):∀ n,n≤l.length→(foldN (stF φ) n l).length=l.length∧∀ j,(foldN (stF φ) n l).getD j 0=if j < n then φ (l.getD j 0) else l.getD j 0
 | 0,_=>⟨rfl,fun j=>by rw [if_neg (by omega)]; rfl⟩
 | n+1,h=>by
   obtain ⟨h1,h2⟩:=stF_fold φ l n (by omega)
   refine ⟨by show (List.set _ _ _).length=_; rw [List.length_set,h1],fun j=>?_⟩
   show ((foldN (stF φ) n l).set n (φ ((foldN (stF φ) n l).getD n 0))).getD j 0=_
   have hn:n < (foldN (stF φ) n l).length:=by omega
   rw [List.getD_eq_getElem?_getD,List.getElem?_set]
   by_cases e:n=j
   ·subst e
    rw [if_pos rfl,if_pos hn,h2,if_neg (by omega),if_pos (by omega)]; rfl
   ·rw [if_neg e,← List.getD_eq_getElem?_getD,h2]
    by_cases e2:j < n
    ·rw [if_pos e2,if_pos (by omega)]
    ·rw [if_neg e2,if_neg (by omega)]
def sdF (b:Y46) (a m:Int):List Int×Int:=if netV b a=0 then (if modK m=true then (sdelV b a.toNat m,0) else ([],2)) else ([],netV b a)
theorem r9 (b:Y46) (hw:wf y46 b) (hm:cnt y46 b≤1048576) (a m:Int):u9 b a m=some (sdF b a m):=by
 unfold u9 sdF
 rw [r32 b hw hm,vl_some,gd_pos ⟨rfl,trivial⟩,lt_eq]
 have e:u33 m=some (modK m):=rfl
 by_cases h:netV b a=0
 ·obtain ⟨hb,i,rfl,hi⟩:=netV_ok h
  rw [h]
  refine (if_neg (by decide)).trans ?_
  rw [if_pos rfl,e,vl_some,gd_pos ⟨rfl,trivial⟩]
  cases modK m with
  | false=>rfl
  | true =>
    refine (if_neg (by simp)).trans ?_
    rw [r34 b hw (net_ok hb hi),vl_some,gd_pos ⟨rfl,trivial⟩,lt_eq]
    rfl
 ·rw [if_neg h]
  exact if_pos (by simp [h])
theorem r11 (b:Y46) (hw:wf y46 b) (hm:cnt y46 b≤1048576) (a m:Int):u11 b a m=some (sdF b a m):=by
 unfold u11 sdF
 rw [r38 b hw hm,vl_some,gd_pos ⟨rfl,trivial⟩,lt_eq]
 have e:u39 m=some (modK m):=rfl
 by_cases h:netV b a=0
 ·obtain ⟨hb,i,rfl,hi⟩:=netV_ok h
  have no:=net_ok hb hi
  have h78:=no.s78
  obtain ⟨_,db⟩:=no.delays
  rw [h]
  refine (if_neg (by decide)).trans ?_
  rw [if_pos rfl,e,vl_some,gd_pos ⟨rfl,trivial⟩]
  cases modK m with
  | false=>rfl
  | true =>
    refine (if_neg (by simp)).trans ?_
    rw [r40 b hw no,vl_some,gd_pos ⟨rfl,trivial⟩,lt_eq,if_pos rfl]
    have hl:=exact_len b i
    have hx:∀ j,j < (sinksV b.2.1 i).length→0≤(exactV b i).getD j 0∧(exactV b i).getD j 0≤301000000:=fun j hj=>by rw [exact_get hj]; exact db _
    refine (lp_fold (n:=(exactV b i).length) (by omega) (fun (k:Nat) (s:List Int)=>((k:Int),s)) (stF fun x=>divV x 1000 m) (fun k s=>s=foldN (stF fun x=>divV x 1000 m) k (exactV b i)) (J:=fun s=>some (s,0)) (F:=u11L1 m (exactV b i)) (fun g k s hk hI=>?_) (fun k s hk hI=>by subst hI; rfl) (fun g s _=>all_end) (exactV b i) rfl).trans ?_
    ·obtain ⟨f1,f2⟩:=stF_fold (fun x=>divV x 1000 m) (exactV b i) k (by omega)
     rw [← hI] at f1 f2
     have f3:s.getD k 0=(exactV b i).getD k 0:=by rw [f2,if_neg (by omega)]
     have f4:=hx k (by omega)
     have ed:=(r412 (s.getD k 0) 1000 m (by omega) (by omega) (by decide)).1
     have e4:((k:Int)).toNat=k:=rfl
     refine (if_pos (by simpa using hk)).trans ?_
     rw [e4,ed,vl_some]
     refine (gd_pos ⟨⟨by omega,by omega⟩,by omega,trivial⟩).trans ?_
     refine (gd_pos ⟨rfl,⟨by omega,by omega⟩,by omega,trivial⟩).trans ?_
     rw [lt_eq]
     exact gd_pos ⟨⟨by omega,by omega⟩,trivial⟩
    ·obtain ⟨f1,f2⟩:=stF_fold (fun x=>divV x 1000 m) (exactV b i) _ (Nat.le_refl _)
     have key:foldN (stF fun x=>divV x 1000 m) (exactV b i).length (exactV b i)=sdelV b i m:=list_eq 0 (by rw [f1,hl,sdelV_len]) fun j hj=>by
      rw [f1] at hj
      rw [f2,if_pos hj,sdelV_get (by omega),exact_get (by omega)]
     rw [key]
     rfl
 ·rw [if_neg h]
  exact if_pos (by simp [h])
theorem sdF_len (b:Y46) (a m:Int):(sdF b a m).1.length≤1048576:=by
 unfold sdF
 split
 ·rename_i h
  obtain ⟨hb,i,rfl,hi⟩:=netV_ok h
  split
  ·have:=(net_ok hb hi).s78
   show (sdelV b i m).length≤_
   rw [sdelV_len]
   omega
  ·exact Nat.zero_le _
 ·exact Nat.zero_le _
theorem r16 (n:Nat) (hn:n≤4611686018427387904):u16 (mkI 1 n) (1:Int)=some (1+((1*n:Nat):Int)):=by
 have hl:=mkI_len n 1
 rw [← fold_one n]
 refine lp_fold (n:=n) (by omega) (fun i (s:Int)=>(s,(i:Int))) (fun _ s=>s+1) (fun i s=>s=1+(i:Int)) (J:=u16J0) (F:=u16L1 (mkI 1 n)) (fun g i s hi hs=>?_) (fun i s hi hs=>by subst hs; omega) (fun g s _=>if_neg (by rw [hl]; simp)) _ rfl
 subst hs
 refine (if_pos (decide_eq_true (by rw [hl]; omega))).trans ?_
 refine (gd_pos ⟨⟨by omega,by rw [hl]; omega⟩,trivial⟩).trans ?_
 have e:(i:Int).toNat=i:=rfl
 rw [e,mkI_get n 1 i hi]
 refine (if_neg (by simp)).trans ?_
 refine (gd_pos ⟨⟨by omega,by omega⟩,trivial⟩).trans ?_
 exact gd_pos ⟨⟨by omega,by omega⟩,trivial⟩
theorem cnt_len {br:List Int} (h:br.length≤1048576):cnt (.sl (.int .i64)) br≤1048576:=by
 have e:cnt (.sl (.int .i64)) br=br.length+0:=cnt_ints
 omega
theorem r3 (b:Y32) (a m:Int) (hw:wf y32 b) (_:InI a) (_:InI m):G3 b a m:=by
 refine ⟨_,z8 b 1048576 hw (by decide) (by decide),fun h0=>?_⟩
 have hm:cnt y32 b≤1048576:=by
  unfold szN at h0
  split at h0 <;> omega
 have hr:=sdF_len b a m
 have k1:=cntM_bd (t:=y46) (x:=b) (k:=64) hm (by decide)
 exact ⟨(sdF b a m).1,(sdF b a m).2,⟨w10 b hm,r9 b hw hm a m,r11 b hw hm a m,e12 _ (cnt_len hr),e13 b hm,by omega,by omega,r16 _ (by omega)⟩⟩
end Go.Proofs.YtgmpfbpemmohnaaGreatDoor
end

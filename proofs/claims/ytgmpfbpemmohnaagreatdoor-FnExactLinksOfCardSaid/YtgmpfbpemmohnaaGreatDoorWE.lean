/- Blocks: what the program's functions and the reference's say of them. -/
import Derived.Test.YtgmpfbpemmohnaaGreatDoorWD
import Derived.Test.YtgmpfbpemmohnaaGreatDoorWC
import Derived.Test.YtgmpfbpemmohnaaGreatDoorGn24
section
/- Blocks: what the program's functions and the reference's say of them. -/
namespace Go.Proofs.YtgmpfbpemmohnaaGreatDoor
open Go Go.Proofs Go.Proofs.Sv Go.Proofs.Xv Go.Proofs.Xl Go.Proofs.Xd
abbrev plcs (d:Y43):List DPlace:=placesN d.1.length d.2.2.length (insOf d) (prtOf d)
abbrev plcOf (d:Y43) (i:Nat):DPlace:=(plcs d).getD i (dflt y146)
abbrev wirOf (b:Y46) (i:Nat):Y114:=b.2.2.getD i (dflt y114)
def blockOk (b:Y46):Bool:=designOk b.1 b.2.1&&decide (b.2.2.length=b.2.1.2.1.length)&&!(List.range b.2.2.length).any fun i=>!wireB (wirOf b i) (cntP (plcOf b.2.1) i (plcs b.2.1).length)
structure DF (l:List Y134) (d:Y43):Prop where
 lib:libOk l=true
 fac:DesignFacts l.length (pinsAt l) d.1.length d.2.2.length d.2.1.length (insOf d) (prtOf d)
 pin:∀ i,i < d.1.length→1≤(insOf d i).2.2.length∧(insOf d i).2.2.length≤5
 plc:netsIn d.2.1.length (plcs d)
 len:(plcs d).length≤78
theorem df_of {l:List Y134} {d:Y43} (h:designOk l d=true):DF l d:=by
 obtain ⟨h1,h2⟩:=design_facts h
 have hp:∀ i,i < d.1.length→1≤(insOf d i).2.2.length∧(insOf d i).2.2.length≤5:=fun i hi=>by
  have hin:=h2.inst i hi
  have g1:=(inst_nets hin (fun y hy=>(lib_pins h1 hy).1)).1
  unfold instB at hin
  simp only [Bool.and_eq_true,beq_iff_eq] at hin
  have:=(lib_pins h1 hin.1.1).2
  exact ⟨g1,by omega⟩
 have hn:=h2.net
 refine ⟨h1,h2,hp,portP_in hn.2 (placesF_in hn.1 d.1.length (Nat.le_refl _)) d.2.2.length (Nat.le_refl _),?_⟩
 have:=placesF_len (x:=insOf d) (ni:=d.1.length) (fun i hi=>(hp i hi).2) d.1.length (Nat.le_refl _)
 have h14:=h2.ni14
 have h8:=h2.np8
 unfold plcs placesN
 rw [portP_len]
 omega
theorem r50 (b:Y46) (hw:wf y46 b) (hm:cnt y46 b≤1048576):u50 b=some (blockOk b):=by
 have hl:=hw.1
 have hd:=hw.2.1
 have h0:=hw.2.2.1
 have mw:b.2.2.length≤1048576:=cnt_len (cnt_snd (cnt_snd hm))
 unfold u50 blockOk
 rw [r95 b.1 b.2.1 hl hd (cnt_fst hm) (cnt_fst (cnt_snd hm)),vl_some,gd_pos ⟨rfl,trivial⟩]
 cases hdo:designOk b.1 b.2.1 with
 | false=>exact if_pos rfl
 | true =>
   have df:=df_of hdo
   by_cases hlen:b.2.2.length=b.2.1.2.1.length
   ·have e0:((b.2.2.length:Int) != (b.2.1.2.1.length:Int))=false:=by rw [hlen]; simp
    rw [e0,decide_eq_true hlen]
    refine (if_neg (by simp)).trans ?_
    rw [gd_pos (rep_ok mw (by decide)),Int.toNat_natCast,r96 b.2.1 hd df.fac.ni14 df.fac.np8 df.pin,vl_some,gd_pos ⟨rfl,trivial⟩,lt_eq]
    have hpl:(plcs b.2.1).length≤9223372036854775807:=by have:=df.len; omega
    have hin:∀ i,i < (plcs b.2.1).length→inB (plcOf b.2.1 i).2.2.1 0 ((b.2.2.length:Int) - 1)=true:=fun i hi=>by
     rw [hlen]; exact df.plc _ (getD_mem hi)
    have key:=lp_fold (n:=(plcs b.2.1).length) hpl (fun i (v:List Int)=>((i:Int),v)) (sinkF (plcOf b.2.1)) (fun i v=>i≤(plcs b.2.1).length∧lowAt v b.2.2.length i) (J:=u50J0 b) (F:=u50L1 (plcs b.2.1) b) (fun g i v hi hI=>by
     have e3:((i:Int)).toNat=i:=rfl
     have j2:∀ v',u50J2 (i:Int) g v'=g (((i+1:Nat):Int),v'):=fun v'=>gd_pos ⟨⟨by omega,by omega⟩,trivial⟩
     refine (if_pos (by simpa using hi)).trans ?_
     rw [e3,gd_pos ⟨⟨by omega,by omega⟩,hi,trivial⟩,lt_eq,j2]
     show (if (!(plcOf b.2.1 i).2.2.2)=true then _ else _)=g (_,sinkF (plcOf b.2.1) i v)
     unfold sinkF
     cases hdr:(plcOf b.2.1 i).2.2.2 with
     | true=>rfl
     | false =>
       refine (if_pos rfl).trans ?_
       refine (gd_pos (inc_ok hI.2 (by have:=df.len; omega) (hin i hi))).trans ?_
       rw [lt_eq]
       exact j2 _) (fun i v hi hI=>⟨by omega,by
     unfold sinkF
     split
     ·exact lowAt_inc hI.2 _
     ·exact lowAt_up hI.2 (by omega)⟩) (fun g v _=>all_end) (List.replicate b.2.2.length 0) ⟨by omega,lowAt_rep _ _⟩
    refine key.trans ?_
    obtain ⟨s1,s2⟩:=sink_fold (plcOf b.2.1) b.2.2.length (plcs b.2.1).length hin
    generalize foldN (sinkF (plcOf b.2.1)) (plcs b.2.1).length (List.replicate b.2.2.length 0)=v at *
    rw [u50J0]
    have key2:=lp_all (n:=b.2.2.length) h0 (fun i=>!wireB (wirOf b i) (cntP (plcOf b.2.1) i (plcs b.2.1).length)) (some false) (e:=some true) (F:=u50L4 v b) (fun g i hi=>by
     have e3:((i:Int)).toNat=i:=rfl
     refine (if_pos (by simpa using hi)).trans ?_
     rw [e3,gd_pos ⟨⟨by omega,by omega⟩,trivial⟩,lt_eq,s2 i hi,r97 _ _ (wf_el hi hw.2.2),vl_some,gd_pos ⟨⟨by omega,by omega⟩,by omega,rfl,trivial⟩,gd_pos ⟨⟨by omega,by omega⟩,trivial⟩]) (fun g=>all_end)
    refine key2.trans ?_
    cases (List.range b.2.2.length).any fun i=>!wireB (wirOf b i) (cntP (plcOf b.2.1) i (plcs b.2.1).length) <;> rfl
   ·have e0:((b.2.2.length:Int) != (b.2.1.2.1.length:Int))=true:=by simp; omega
    rw [e0,decide_eq_false hlen]
    exact if_pos rfl
theorem r90 (d:Y43) (hd:wf y43 d) {l:List Y134} (df:DF l d) (t:Int):u90 d t=some (foldN (sinkL (plcOf d) t) (plcs d).length []):=by
 have hl:=df.len
 unfold u90
 rw [r106 d hd df.fac.ni14 df.fac.np8 df.pin,vl_some,gd_pos ⟨rfl,trivial⟩,lt_eq]
 exact lp_fold (n:=(plcs d).length) (by omega) (fun i (s:List Int)=>((i:Int),s)) (sinkL (plcOf d) t) (fun i s=>s.length≤i) (J:=fun s=>some s) (F:=u90L1 (plcs d) t) (fun g i s hi hI=>by
  have e3:((i:Int)).toNat=i:=rfl
  have j2:∀ s',u90J2 (i:Int) g s'=g (((i+1:Nat):Int),s'):=fun v'=>gd_pos ⟨⟨by omega,by omega⟩,trivial⟩
  refine (if_pos (by simpa using hi)).trans ?_
  have hI':s.length≤i:=hI
  rw [e3,gd_pos ⟨⟨by omega,by omega⟩,hi,fun _=>⟨by omega,by omega⟩,fun _=>hi,trivial⟩,gd_pos ⟨⟨by show s.length+1≤_; omega,by show (s.length+1)*8≤_; omega⟩,trivial⟩,j2,j2]
  show _=g (_,sinkL (plcOf d) t i s)
  unfold sinkL
  show (if ((plcOf d i).2.2.1==t&&!(plcOf d i).2.2.2)=true then _ else _)=_
  split <;> rfl) (fun i s hi hI=>by
  have hI':s.length≤i:=hI
  unfold sinkL
  split
  ·rw [List.length_append]; show s.length+1≤i+1; omega
  ·omega) (fun g s _=>all_end) [] (Nat.le_refl _)
theorem r48 (b:Y46) (hw:wf y46 b) (hm:cnt y46 b≤1048576):u48 b=some (blockOk b):=by
 have hl:=hw.1
 have hd:=hw.2.1
 have h0:=hw.2.2.1
 unfold u48 blockOk
 rw [r88 b.1 b.2.1 hl hd (cnt_fst (cnt_snd hm)),vl_some,gd_pos ⟨rfl,trivial⟩]
 cases hdo:designOk b.1 b.2.1 with
 | false=>exact if_pos rfl
 | true =>
   have df:=df_of hdo
   by_cases hlen:b.2.2.length=b.2.1.2.1.length
   ·have e0:((b.2.2.length:Int) != (b.2.1.2.1.length:Int))=false:=by rw [hlen]; simp
    rw [e0,decide_eq_true hlen]
    refine (if_neg (by simp)).trans ?_
    have key2:=lp_all (n:=b.2.2.length) h0 (fun i=>!wireB (wirOf b i) (cntP (plcOf b.2.1) i (plcs b.2.1).length)) (some false) (e:=some true) (F:=u48L1 b) (fun g i hi=>by
     have e3:((i:Int)).toNat=i:=rfl
     refine (if_pos (by simpa using hi)).trans ?_
     rw [e3,r90 b.2.1 hd df,vl_some,sinkL_len,r89 _ _ (wf_el hi hw.2.2),gd_pos ⟨⟨by omega,by omega⟩,rfl,rfl,trivial⟩,lt_eq,sinkL_len,r89 _ _ (wf_el hi hw.2.2),vl_some,gd_pos ⟨⟨by omega,by omega⟩,trivial⟩]) (fun g=>all_end)
    refine key2.trans ?_
    cases (List.range b.2.2.length).any fun i=>!wireB (wirOf b i) (cntP (plcOf b.2.1) i (plcs b.2.1).length) <;> rfl
   ·have e0:((b.2.2.length:Int) != (b.2.1.2.1.length:Int))=true:=by simp; omega
    rw [e0,decide_eq_false hlen]
    exact if_pos rfl
theorem block_design {b:Y46} (h:blockOk b=true):designOk b.1 b.2.1=true∧b.2.2.length=b.2.1.2.1.length∧∀ i,i < b.2.2.length→wireB (wirOf b i) (cntP (plcOf b.2.1) i (plcs b.2.1).length)=true:=by
 unfold blockOk at h
 rw [Bool.and_eq_true,Bool.and_eq_true,decide_eq_true_eq] at h
 refine ⟨h.1.1,h.1.2,fun i hi=>?_⟩
 have:=not_any.1 h.2 i hi
 rwa [Bool.not_eq_false'] at this
end Go.Proofs.YtgmpfbpemmohnaaGreatDoor
end
section
/- The nets of a valid block, its cells and places: plain facts. -/
namespace Go.Proofs.YtgmpfbpemmohnaaGreatDoor
open Go Go.Proofs Go.Proofs.Sv Go.Proofs.Xv Go.Proofs.Xl Go.Proofs.Xd
abbrev sinksV (d:Y43) (t:Int):List Int:=foldN (sinkL (plcOf d) t) (plcs d).length []
def capV (l:List Y134) (d:Y43) (p:DPlace):Int:=if p.1 < 0 then 0 else ((l.getD (insOf d p.1.toNat).2.1.toNat (dflt y134)).2.2.1.getD p.2.1.toNat (dflt y205)).2.2.1
theorem plc_mem {d:Y43} {i:Nat} (h:i < (plcs d).length):plcOf d i∈plcs d:=getD_mem h
theorem lib_cell' {l:List Y134} (h:libOk l=true) {i:Nat} (hi:i < l.length):cellOk isArcS (celOf l i)=true:=by
 have h:libB _ _ _=true:=h
 unfold libB at h
 rw [Bool.and_eq_true] at h
 have:=not_any.1 h.1 i hi
 rw [Bool.or_eq_false_iff,Bool.not_eq_false'] at this
 exact this.1
theorem plc_pin {l:List Y134} {d:Y43} (df:DF l d) {p:DPlace} (hp:p∈plcs d):(p.1 = -1∧0≤p.2.1∧p.2.1.toNat < d.2.2.length) ∨
  (0≤p.1∧p.1.toNat < d.1.length∧0≤(insOf d p.1.toNat).2.1∧(insOf d p.1.toNat).2.1.toNat < l.length∧0≤p.2.1∧p.2.1.toNat < (l.getD (insOf d p.1.toNat).2.1.toNat (dflt y134)).2.2.1.length):=by
 rcases places_kind d.1.length d.2.2.length (insOf d) (prtOf d) p hp with h | ⟨h1,h2,h3,h4⟩
 ·exact .inl h
 ·have hin:=df.fac.inst p.1.toNat h2
  unfold instB at hin
  simp only [Bool.and_eq_true,beq_iff_eq] at hin
  have h5:=inB_iff.1 hin.1.1
  have h6:=hin.1.2
  refine .inr ⟨h1,h2,h5.1,by omega,h3,?_⟩
  have h6:((insOf d p.1.toNat).2.2.length:Int)=((l.getD (insOf d p.1.toNat).2.1.toNat (dflt y134)).2.2.1.length:Int):=h6
  omega
theorem pin_cap {l:List Y134} {d:Y43} (df:DF l d) {p:DPlace} (hp:p∈plcs d):0≤capV l d p∧capV l d p≤500:=by
 unfold capV
 split
 ·exact ⟨by decide,by decide⟩
 ·rename_i hn
  rcases plc_pin df hp with h | ⟨h1,h2,h3,h4,h5,h6⟩
  ·omega
  ·have hc:cellB isArcS _ _ _ _ _ _ _ _ _=true:=lib_cell' df.lib h4
   unfold cellB pinsOk at hc
   simp only [Bool.and_eq_true] at hc
   have:=not_any.1 hc.1.1.1.1.2.2 p.2.1.toNat h6
   rw [Bool.not_eq_false'] at this
   unfold pinB at this
   rw [Bool.and_eq_true] at this
   exact inB_iff.1 this.1
theorem sinksV_at {d:Y43} {t:Int} {k:Nat} (h:k < (sinksV d t).length):0≤(sinksV d t).getD k 0∧((sinksV d t).getD k 0).toNat < (plcs d).length:=by
 obtain ⟨j,h1,h2,_⟩:=sinkL_in (plcOf d) t (plcs d).length _ (getD_mem (d:=0) h)
 rw [h1]
 exact ⟨Int.natCast_nonneg _,by simpa using h2⟩
structure NetOk (b:Y46) (i:Nat):Prop where
 df:DF b.1 b.2.1
 lt:i < b.2.2.length
 wf:WireFacts (wirOf b i) ((sinksV b.2.1 i).length:Int)
theorem net_ok {b:Y46} (h:blockOk b=true) {i:Nat} (hi:i < b.2.2.length):NetOk b i:=by
 obtain ⟨h1,h2,h3⟩:=block_design h
 refine ⟨df_of h1,hi,?_⟩
 rw [sinkL_len]
 exact wire_facts (h3 i hi)
def nodeS (b:Y46) (i k:Nat):Int:=(wirOf b i).2.2.2.getD k 0
def capS (b:Y46) (i k:Nat):Int:=capV b.1 b.2.1 (plcOf b.2.1 ((sinksV b.2.1 i).getD k 0).toNat)
def parS (b:Y46) (i k:Nat):Int:=(wirOf b i).1.getD k 0
def resS (b:Y46) (i k:Nat):Int:=(wirOf b i).2.1.getD k 0
def loadsV (b:Y46) (i:Nat):List Int:=loadsD (wirOf b i).2.2.1 (wirOf b i).1.length (sinksV b.2.1 i).length (nodeS b i) (capS b i) (parS b i)
theorem NetOk.sn {b:Y46} {i:Nat} (h:NetOk b i):(wirOf b i).2.2.2.length=(sinksV b.2.1 i).length:=by have:=h.wf.snk; omega
theorem NetOk.s78 {b:Y46} {i:Nat} (h:NetOk b i):(sinksV b.2.1 i).length≤78:=by
 have h1:=h.df.len
 have h2:=cntP_le (plcOf b.2.1) i (plcs b.2.1).length
 have h3:=sinkL_len (plcOf b.2.1) i (plcs b.2.1).length
 have h4:((sinksV b.2.1 i).length:Int)=cntP (plcOf b.2.1) i (plcs b.2.1).length:=h3
 omega
theorem NetOk.capIn {b:Y46} {i:Nat} (h:NetOk b i) {k:Nat} (hk:k < (sinksV b.2.1 i).length):0≤nodeS b i k∧(nodeS b i k).toNat < (wirOf b i).1.length∧0≤capS b i k∧capS b i k≤500:=by
 have h1:=h.wf.snkIn k (by rw [h.sn]; exact hk)
 have h2:=pin_cap h.df (plc_mem (sinksV_at hk).2)
 exact ⟨h1.1,h1.2,h2.1,h2.2⟩
theorem NetOk.low {b:Y46} {i:Nat} (h:NetOk b i):∀ m,m≤(sinksV b.2.1 i).length→Low (foldN (capF (nodeS b i) (capS b i)) m (wirOf b i).2.2.1) (wirOf b i).1.length (500*((wirOf b i).1.length:Int)+500*(m:Int)):=fun m hm =>
 capF_low (low_all h.wf.cap h.wf.capOk) m (fun k hk=>h.capIn (by omega))
theorem NetOk.pull {b:Y46} {i:Nat} (h:NetOk b i):∀ k,k≤(wirOf b i).1.length - 1→Pull (foldN (pullF (parS b i) (wirOf b i).1.length) k (foldN (capF (nodeS b i) (capS b i)) (sinksV b.2.1 i).length (wirOf b i).2.2.1)) (wirOf b i).1.length k 43000:=by
 have h1:=h.low _ (Nat.le_refl _)
 have h2:=h.s78
 have h3:=h.wf.n8
 have h4:Low (foldN (capF (nodeS b i) (capS b i)) (sinksV b.2.1 i).length (wirOf b i).2.2.1) (wirOf b i).1.length 43000:=⟨h1.len,h1.pos,by have:=h1.sum; omega⟩
 exact pull_fold h4 (by decide) (fun k h0 hk=>h.wf.par k h0 hk)
theorem NetOk.loads {b:Y46} {i:Nat} (h:NetOk b i):(loadsV b i).length=(wirOf b i).1.length∧∀ j,0≤(loadsV b i).getD j 0∧(loadsV b i).getD j 0≤43000:=by
 have:=h.pull _ (Nat.le_refl _)
 exact ⟨this.len,fun j=>⟨this.pos j,this.bd j⟩⟩
abbrev celI (b:Y46) (i:Nat):Y134:=b.1.getD (insOf b.2.1 i).2.1.toNat (dflt y134)
theorem inst_cell' {b:Y46} (df:DF b.1 b.2.1) {i:Nat} (hi:i < b.2.1.1.length):ix (insOf b.2.1 i).2.1 b.1.length∧cellOk isArcS (celI b i)=true∧(insOf b.2.1 i).2.2.length=(celI b i).2.2.1.length:=by
 have:=df.fac.inst i hi
 unfold instB at this
 rw [Bool.and_eq_true,Bool.and_eq_true,beq_iff_eq] at this
 have h1:=inB_iff.1 this.1.1
 have h2:=this.1.2
 have h3:((insOf b.2.1 i).2.2.length:Int)=((celI b i).2.2.1.length:Int):=h2
 exact ⟨⟨h1.1,by omega⟩,lib_cell' df.lib (by omega),by omega⟩
theorem cell_arcs {c:Y134} (h:cellOk isArcS c=true):2≤c.2.2.1.length∧c.2.2.1.length≤5∧c.2.2.2.1.length≤8∧∀ j,j < c.2.2.2.1.length→0≤(arcOf c j).2.1∧(arcOf c j).2.1 < (c.2.2.1.length:Int) - 1∧0≤(arcOf c j).2.2.1∧(arcOf c j).2.2.1 < (c.2.2.1.length:Int):=by
 have h:cellB isArcS _ _ _ _ _ _ _ _ _=true:=h
 unfold cellB arcsB at h
 simp only [Bool.and_eq_true,decide_eq_true_eq] at h
 have hp:=pins_last h.1.1.1.1.2
 refine ⟨hp.1,hp.2.1,h.1.1.1.2.1,fun j hj=>?_⟩
 have:=not_any.1 h.1.1.1.2.2 j hj
 rw [Bool.or_eq_false_iff,Bool.not_eq_false'] at this
 have ha:=this.1
 unfold isArcS at ha
 rw [Bool.and_eq_true,Bool.and_eq_true] at ha
 have h1:=inB_iff.1 ha.1.1
 have h2:=inB_iff.1 ha.1.2
 omega
end Go.Proofs.YtgmpfbpemmohnaaGreatDoor
end
section
/- The loads of a net's wire, and the delays of its sinks: the program's way. -/
namespace Go.Proofs.YtgmpfbpemmohnaaGreatDoor
open Go Go.Proofs Go.Proofs.Sv Go.Proofs.Xv Go.Proofs.Xl Go.Proofs.Xd
theorem r141 (l:List Y134) (d:Y43) (df:DF l d) {p:DPlace} (hp:p∈plcs d):u141 d l p=some (capV l d p):=by
 unfold u141 capV
 rcases plc_pin df hp with h | ⟨h1,h2,h3,h4,h5,h6⟩
 ·rw [if_pos (by rw [h.1]; decide),if_pos (by omega)]
 ·refine (if_neg (by simp; omega)).trans ?_
  rw [if_neg (by omega),gd_pos ⟨⟨by omega,by omega⟩,⟨h3,by show (insOf d p.1.toNat).2.1 < _; omega⟩,⟨h5,by show p.2.1 < (((l.getD (insOf d p.1.toNat).2.1.toNat (dflt y134)).2.2.1.length:Nat):Int); omega⟩,trivial⟩]
  rfl
theorem r140 (d:Y43) (hd:wf y43 d) {l:List Y134} (df:DF l d) (t:Int):u140 d t=some (sinksV d t):=by
 have hl:=df.len
 unfold u140
 rw [r96 d hd df.fac.ni14 df.fac.np8 df.pin,vl_some,gd_pos ⟨rfl,trivial⟩,lt_eq]
 exact lp_fold (n:=(plcs d).length) (by omega) (fun i (s:List Int)=>(s,(i:Int))) (sinkL (plcOf d) t) (fun i s=>s.length≤i) (J:=fun s=>some s) (F:=u140L1 t (plcs d)) (fun g i s hi hI=>by
  have e3:((i:Int)).toNat=i:=rfl
  have j2:∀ s',u140J2 (i:Int) g s'=g (s',((i+1:Nat):Int)):=fun v'=>gd_pos ⟨⟨by omega,by omega⟩,trivial⟩
  refine (if_pos (by simpa using hi)).trans ?_
  have hI':s.length≤i:=hI
  rw [e3,gd_pos ⟨⟨by omega,by omega⟩,hi,trivial⟩,lt_eq,gd_pos ⟨⟨by show s.length+1≤_; omega,by show (s.length+1)*8≤_; omega⟩,trivial⟩,j2,j2]
  show _=g (sinkL (plcOf d) t i s,_)
  unfold sinkL
  show (if ((plcOf d i).2.2.1==t&&!(plcOf d i).2.2.2)=true then _ else _)=_
  split <;> rfl) (fun i s hi hI=>by
  have hI':s.length≤i:=hI
  unfold sinkL
  split
  ·rw [List.length_append]; show s.length+1≤i+1; omega
  ·omega) (fun g s _=>all_end) [] (Nat.le_refl _)
theorem r139 (xs:List Int) (h:xs.length≤1048576):u139 xs=some xs:=gd_pos ⟨⟨by omega,by omega⟩,trivial⟩
theorem r100 (b:Y46) (hw:wf y46 b) {i:Nat} (h:NetOk b i):u100 b (i:Int)=some (loadsV b i):=by
 have hd:=hw.2.1
 have df:=h.df
 have hb:=hw.2.2.1
 have hi:=h.lt
 have n1:=h.wf.n1
 have n8:=h.wf.n8
 have hsn:=h.sn
 have hs:=h.s78
 have hcl:=h.wf.cap
 unfold u100
 have e3:((i:Int)).toNat=i:=rfl
 rw [gd_pos ⟨⟨by omega,by omega⟩,trivial⟩,lt_eq,e3,r139 _ (by show (wirOf b i).2.2.1.length≤_; omega),vl_some,gd_pos ⟨rfl,trivial⟩,lt_eq,r96 b.2.1 hd df.fac.ni14 df.fac.np8 df.pin,vl_some,gd_pos ⟨rfl,trivial⟩,lt_eq,r140 b.2.1 hd df,vl_some,gd_pos ⟨rfl,trivial⟩,lt_eq]
 have key:=lp_fold (n:=(sinksV b.2.1 i).length) (by omega) (fun k (s:List Int)=>((k:Int),s)) (capF (nodeS b i) (capS b i)) (fun k v=>Low v (wirOf b i).1.length (500*((wirOf b i).1.length:Int)+500*(k:Int))) (J:=u100J0 (wirOf b i)) (F:=u100L1 b (plcs b.2.1) (sinksV b.2.1 i) (wirOf b i)) (fun g k v hk hI=>by
  have e4:((k:Int)).toNat=k:=rfl
  obtain ⟨c1,c2,c3,c4⟩:=h.capIn hk
  obtain ⟨c5,c6⟩:=sinksV_at hk
  have hv:=hI.bd (by omega) (nodeS b i k).toNat
  have c1':0≤(wirOf b i).2.2.2.getD k 0:=c1
  have c2':((wirOf b i).2.2.2.getD k 0).toNat < v.length:=by rw [hI.len]; exact c2
  refine (if_pos (by simpa using hk)).trans ?_
  rw [e4,gd_pos ⟨⟨by omega,by omega⟩,hk,trivial⟩,r141 b.1 b.2.1 df (plc_mem c6),vl_some]
  rw [gd_pos ⟨⟨by omega,by omega⟩,⟨c1',by omega⟩,c2',⟨c5,by omega⟩,c6,rfl,⟨by show _≤v.getD (nodeS b i k).toNat 0+capS b i k; omega,by show v.getD (nodeS b i k).toNat 0+capS b i k≤_; omega⟩,⟨c1',by omega⟩,c2',trivial⟩,lt_eq]
  exact gd_pos ⟨⟨by omega,by omega⟩,trivial⟩) (fun k v hk hI=>by
  obtain ⟨c1,c2,c3,c4⟩:=h.capIn hk
  have:=hI.add c2 c3
  refine ⟨this.len,this.pos,Int.le_trans this.sum ?_⟩
  rw [Int.natCast_add,Int.mul_add]
  simp only [Int.natCast_one]
  omega) (fun g s _=>all_end) (wirOf b i).2.2.1 (by
  have:=h.low 0 (Nat.zero_le _)
  exact this)
 refine key.trans ?_
 have hl0:=(h.low _ (Nat.le_refl _)).len
 have hp0:=h.pull 0 (Nat.zero_le _)
 have hL:loadsV b i=foldN (pullF (parS b i) (wirOf b i).1.length) ((wirOf b i).1.length - 1) (foldN (capF (nodeS b i) (capS b i)) (sinksV b.2.1 i).length (wirOf b i).2.2.1):=rfl
 rw [hL]
 have hpl:=h.pull
 generalize foldN (capF (nodeS b i) (capS b i)) (sinksV b.2.1 i).length (wirOf b i).2.2.1=v0 at hl0 hp0 hpl ⊢
 rw [u100J0,hl0,gd_pos ⟨⟨by omega,by omega⟩,trivial⟩]
 have e5:(((wirOf b i).1.length:Int) - 1,v0)=(fun (k:Nat) (s:List Int)=>(((wirOf b i).1.length:Int) - 1 - (k:Int),s)) 0 v0:=by simp
 rw [e5]
 exact lp_fold (n:=(wirOf b i).1.length - 1) (by omega) (fun (k:Nat) (s:List Int)=>(((wirOf b i).1.length:Int) - 1 - (k:Int),s)) (pullF (parS b i) (wirOf b i).1.length) (fun k v=>Pull v (wirOf b i).1.length k 43000) (J:=fun s=>some s) (F:=u100L3 (wirOf b i)) (fun g k v hk hI=>by
  have hp:=h.wf.par ((wirOf b i).1.length - 1 - k) (by omega) (by omega)
  have hp':0≤(wirOf b i).1.getD ((wirOf b i).1.length - 1 - k) 0∧((wirOf b i).1.getD ((wirOf b i).1.length - 1 - k) 0).toNat < (wirOf b i).1.length - 1 - k:=hp
  have hlen:=hI.len
  have e6:((wirOf b i).1.length:Int) - 1 - (k:Int)=(((wirOf b i).1.length - 1 - k:Nat):Int):=by omega
  have e7:((((wirOf b i).1.length - 1 - k:Nat):Int)).toNat=(wirOf b i).1.length - 1 - k:=rfl
  have b1:=hI.pos ((wirOf b i).1.getD ((wirOf b i).1.length - 1 - k) 0).toNat
  have b2:=hI.bd ((wirOf b i).1.getD ((wirOf b i).1.length - 1 - k) 0).toNat
  have b3:=hI.pos ((wirOf b i).1.length - 1 - k)
  have b4:=hI.bd ((wirOf b i).1.length - 1 - k)
  have e8:((wirOf b i).1.length:Int) - 1 - ((k+1:Nat):Int)=(((wirOf b i).1.length - 1 - k:Nat):Int) - 1:=by omega
  show u100L3 (wirOf b i) g (((wirOf b i).1.length:Int) - 1 - (k:Int),v)=g (((wirOf b i).1.length:Int) - 1 - ((k+1:Nat):Int),pullF (parS b i) (wirOf b i).1.length k v)
  rw [e8,e6]
  refine (if_pos (decide_eq_true (by omega))).trans ?_
  rw [e7,gd_pos ⟨⟨by omega,by omega⟩,⟨hp'.1,by omega⟩,by omega,⟨by omega,by omega⟩,by omega,⟨by omega,by omega⟩,⟨hp'.1,by omega⟩,by omega,trivial⟩,lt_eq]
  exact gd_pos ⟨⟨by omega,by omega⟩,trivial⟩) (fun k v hk hI=>pull_step hI hk (h.wf.par _ (by omega) (by omega))) (fun g s _=>by
  have e9:((wirOf b i).1.length:Int) - 1 - (((wirOf b i).1.length - 1:Nat):Int)=0:=by omega
  show u100L3 (wirOf b i) g (((wirOf b i).1.length:Int) - 1 - (((wirOf b i).1.length - 1:Nat):Int),s)=some s
  rw [e9]
  have:u100L3 (wirOf b i) g (0,s)=u100J2 s:=by
   rw [u100L3]
   exact if_neg (by decide)
  exact this.trans rfl) v0 hp0
end Go.Proofs.YtgmpfbpemmohnaaGreatDoor
end
section
/- The delays of a net's nodes and sinks: the program's way. -/
namespace Go.Proofs.YtgmpfbpemmohnaaGreatDoor
open Go Go.Proofs Go.Proofs.Sv Go.Proofs.Xv Go.Proofs.Xl Go.Proofs.Xd
def delaysV (b:Y46) (i:Nat):List Int:=delaysD (wirOf b i).1.length (parS b i) (resS b i) (fun k=>(loadsV b i).getD k 0)
def exactV (b:Y46) (i:Nat):List Int:=foldN (exF (delaysV b i) (nodeS b i)) (sinksV b.2.1 i).length []
theorem NetOk.del {b:Y46} {i:Nat} (h:NetOk b i):∀ k,k≤(wirOf b i).1.length - 1→(foldN (delF (parS b i) (resS b i) (fun k=>(loadsV b i).getD k 0)) k [0]).length=k+1∧∀ j,0≤(foldN (delF (parS b i) (resS b i) (fun k=>(loadsV b i).getD k 0)) k [0]).getD j 0∧(foldN (delF (parS b i) (resS b i) (fun k=>(loadsV b i).getD k 0)) k [0]).getD j 0≤1000*43000*(k:Int) :=
 delF_in (n:=(wirOf b i).1.length) (fun k hk=>h.wf.resIn k hk) (fun k _=>h.loads.2 k) (by decide)
theorem NetOk.delays {b:Y46} {i:Nat} (h:NetOk b i):(delaysV b i).length=(wirOf b i).1.length∧∀ j,0≤(delaysV b i).getD j 0∧(delaysV b i).getD j 0≤301000000:=by
 have h1:=h.del _ (Nat.le_refl _)
 have n1:=h.wf.n1
 have n8:=h.wf.n8
 refine ⟨h1.1.trans (by omega),fun j=>⟨(h1.2 j).1,Int.le_trans (h1.2 j).2 (by omega)⟩⟩
theorem r78 (b:Y46) (hw:wf y46 b) {i:Nat} (h:NetOk b i):u78 b (i:Int)=some (delaysV b i):=by
 have hi:=h.lt
 have hb:=hw.2.2.1
 have n1:=h.wf.n1
 have n8:=h.wf.n8
 have hr:=h.wf.res
 obtain ⟨ll,lb⟩:=h.loads
 have e3:((i:Int)).toNat=i:=rfl
 unfold u78
 rw [r100 b hw h,vl_some,gd_pos ⟨⟨by omega,by omega⟩,rfl,trivial⟩,lt_eq,e3]
 show gd ((0≤((loadsV b i).length:Int)∧((loadsV b i).length:Int)=((loadsV b i).length:Int)∧((loadsV b i).length:Int).toNat*8≤281474976710656∧((loadsV b i).length:Int)≤9223372036854775807)∧True) (lp (u78L1 (wirOf b i) (loadsV b i)) (1,List.replicate ((loadsV b i).length:Int).toNat 0))=_
 rw [ll,gd_pos ⟨⟨by omega,rfl,by omega,by omega⟩,trivial⟩]
 have e5:((1:Int),List.replicate ((wirOf b i).1.length:Int).toNat (0:Int))=(fun (k:Nat) (s:List Int)=>(((k+1:Nat):Int),s++List.replicate ((wirOf b i).1.length - 1 - k) 0)) 0 [0]:=by
  show ((1:Int),List.replicate (wirOf b i).1.length (0:Int))=_
  have:(wirOf b i).1.length=((wirOf b i).1.length - 1)+1:=by omega
  rw [this,List.replicate_succ]
  rfl
 rw [e5]
 refine (lp_fold (n:=(wirOf b i).1.length - 1) (by omega) (fun (k:Nat) (s:List Int)=>(((k+1:Nat):Int),s++List.replicate ((wirOf b i).1.length - 1 - k) 0)) (delF (parS b i) (resS b i) (fun k=>(loadsV b i).getD k 0)) (fun k s=>s.length=k+1∧∀ j,0≤s.getD j 0∧s.getD j 0≤1000*43000*(k:Int)) (J:=fun s=>some s) (F:=u78L1 (wirOf b i) (loadsV b i)) (fun g k s hk hI=>?_) (fun k s hk hI=>?_) (fun g s hI=>?_) [0] ?_)
 ·obtain ⟨hl,hs⟩:=hI
  have hp:=h.wf.par (k+1) (by omega) (by omega)
  have hfl:(s++List.replicate ((wirOf b i).1.length - 1 - k) (0:Int)).length=(wirOf b i).1.length:=by rw [List.length_append,List.length_replicate]; omega
  have e4:(((k+1:Nat):Int)).toNat=k+1:=rfl
  have hg:=fill_get (n:=(wirOf b i).1.length) hl hp.2
  have r1:=h.wf.resIn (k+1) (by omega)
  have l1:=lb (k+1)
  have hm:=mul_le r1.1 r1.2 l1.1 l1.2
  have hs1:=hs ((wirOf b i).1.getD (k+1) 0).toNat
  show u78L1 (wirOf b i) (loadsV b i) g (((k+1:Nat):Int),s++List.replicate ((wirOf b i).1.length - 1 - k) 0)=g (((k+1+1:Nat):Int),delF (parS b i) (resS b i) (fun k=>(loadsV b i).getD k 0) k s++List.replicate ((wirOf b i).1.length - 1 - (k+1)) 0)
  have e6:delF (parS b i) (resS b i) (fun k=>(loadsV b i).getD k 0) k s++List.replicate ((wirOf b i).1.length - 1 - (k+1)) 0=(s++List.replicate ((wirOf b i).1.length - 1 - k) 0).set (k+1) (s.getD ((wirOf b i).1.getD (k+1) 0).toNat 0+(wirOf b i).2.1.getD (k+1) 0*(loadsV b i).getD (k+1) 0):=(fill_one hl (by omega)).symm
  rw [e6,← hg]
  generalize s++List.replicate ((wirOf b i).1.length - 1 - k) (0:Int)=v at hfl hg ⊢
  refine (if_pos (by simp; omega)).trans ?_
  rw [e4,gd_pos ⟨⟨by omega,by omega⟩,⟨hp.1,by omega⟩,by omega,⟨by omega,by omega⟩,⟨by omega,by omega⟩,by omega,⟨by omega,by omega⟩,⟨by omega,by omega⟩,⟨by omega,by omega⟩,by omega,trivial⟩,lt_eq]
  exact gd_pos ⟨⟨by omega,by omega⟩,trivial⟩
 ·obtain ⟨hl,hs⟩:=hI
  have r1:=h.wf.resIn (k+1) (by omega)
  have l1:=lb (k+1)
  have hm:=mul_le r1.1 r1.2 l1.1 l1.2
  have hs1:=hs (parS b i (k+1)).toNat
  unfold delF
  refine ⟨by rw [List.length_append,hl]; rfl,fun j=>?_⟩
  have hm:0≤resS b i (k+1)*(loadsV b i).getD (k+1) 0∧resS b i (k+1)*(loadsV b i).getD (k+1) 0≤1000*43000:=hm
  rcases Nat.lt_or_ge j s.length with hj | hj
  ·have:=hs j
   rw [getD_left hj]; omega
  ·rw [getD_right hj]
   cases hjs:j - s.length with
   | zero=>simp only [List.getD_cons_zero]; omega
   | succ q=>simp only [List.getD_cons_succ,List.getD_nil]; omega
 ·have e9:(wirOf b i).1.length - 1 - ((wirOf b i).1.length - 1)=0:=by omega
  show u78L1 (wirOf b i) (loadsV b i) g ((((wirOf b i).1.length - 1+1:Nat):Int),s++List.replicate ((wirOf b i).1.length - 1 - ((wirOf b i).1.length - 1)) 0)=some s
  rw [e9,List.replicate_zero,List.append_nil,← hI.1]
  exact all_end
 ·exact h.del 0 (Nat.zero_le _)
theorem r40 (b:Y46) (hw:wf y46 b) {i:Nat} (h:NetOk b i):u40 b (i:Int)=some (exactV b i):=by
 have hi:=h.lt
 have hb:=hw.2.2.1
 have hsn:=h.sn
 have hs:=h.s78
 obtain ⟨dl,db⟩:=h.delays
 have e3:((i:Int)).toNat=i:=rfl
 unfold u40
 rw [r78 b hw h,vl_some,gd_pos ⟨rfl,trivial⟩,lt_eq,gd_pos ⟨⟨by omega,by omega⟩,trivial⟩,lt_eq,e3]
 unfold exactV
 rw [← hsn]
 exact lp_fold (n:=(wirOf b i).2.2.2.length) (by omega) (fun (k:Nat) (s:List Int)=>(s,(k:Int))) (exF (delaysV b i) (nodeS b i)) (fun k s=>s.length=k) (J:=fun s=>some s) (F:=u40L1 (delaysV b i) (wirOf b i)) (fun g k s hk hI=>by
  have e4:((k:Int)).toNat=k:=rfl
  have h1:=h.wf.snkIn k hk
  have hI:s.length=k:=hI
  refine (if_pos (by simpa using hk)).trans ?_
  rw [e4,gd_pos ⟨⟨by omega,by omega⟩,trivial⟩,gd_pos ⟨⟨h1.1,by omega⟩,by omega,⟨by show s.length+1≤_; omega,by show (s.length+1)*8≤_; omega⟩,trivial⟩,lt_eq]
  exact gd_pos ⟨⟨by omega,by omega⟩,trivial⟩) (fun k s hk hI=>by
  have hI:s.length=k:=hI
  unfold exF
  rw [List.length_append,hI]; rfl) (fun g s _=>all_end) [] rfl
end Go.Proofs.YtgmpfbpemmohnaaGreatDoor
end
section
/- The links of a cell: the program's way. -/
namespace Go.Proofs.YtgmpfbpemmohnaaGreatDoor
open Go Go.Proofs Go.Proofs.Sv Go.Proofs.Xv Go.Proofs.Xl Go.Proofs.Xd
theorem r138 (a:Y139):u138 a=some (transV a.1 a.2.2.2.1):=by
 unfold u138 transV
 split
 ·rfl
 split
 ·rfl
 split
 ·rfl
 split
 ·rfl
 split
 ·rfl
 ·rfl
theorem r98 (b:Y46) (df:DF b.1 b.2.1) {i:Nat} (hi:i < b.2.1.1.length) (f:Int) (h0:0≤f) (h1:f≤1000):u98 b (insOf b.2.1 i) f=some (cellLinksD f (arcOf (celI b i)) (celI b i).2.2.2.1.length):=by
 obtain ⟨x1,x2,x3⟩:=inst_cell' df hi
 obtain ⟨c1,c2,c3,c4⟩:=cell_arcs x2
 unfold u98
 rw [gd_pos ⟨x1,trivial⟩,lt_eq]
 show lp (u98L1 f (celI b i)) ([],0)=_
 generalize celI b i=c at c1 c2 c3 c4
 refine lp_fold (n:=c.2.2.2.1.length) (by omega) (fun (j:Nat) (s:List DLink)=>(s,(j:Int))) (carcF f (arcOf c)) (fun j s=>s.length≤4*j) (J:=fun s=>some s) (F:=u98L1 f c) (fun g j s hj hI=>?_) (fun j s hj hI=>?_) (fun g s _=>all_end) [] (Nat.le_refl _)
 ·have e4:((j:Int)).toNat=j:=rfl
  obtain ⟨a1,a2,a3,a4⟩:=c4 j hj
  have hI:s.length≤4*j:=hI
  refine (if_pos (by simpa using hj)).trans ?_
  rw [e4,gd_pos ⟨⟨by omega,by omega⟩,trivial⟩,lt_eq,r138,vl_some,gd_pos ⟨rfl,trivial⟩,lt_eq]
  show lp (u98L3 f (arcOf c j) (j:Int) (transV (arcOf c j).1 (arcOf c j).2.2.2.1) g) (0,s)=g (carcF f (arcOf c) j s,_)
  obtain ⟨t1,t2⟩:=transV_ok (arcOf c j).1 (arcOf c j).2.2.2.1
  have ec:carcF f (arcOf c) j s=foldN (clinkF f (arcOf c j).2.1 (arcOf c j).2.2.1 (j:Int) (transV (arcOf c j).1 (arcOf c j).2.2.2.1)) (transV (arcOf c j).1 (arcOf c j).2.2.2.1).length s:=rfl
  rw [ec]
  generalize transV (arcOf c j).1 (arcOf c j).2.2.2.1=tr at t1 t2
  generalize arcOf c j=a at a1 a2 a3 a4
  refine (lp_fold (n:=tr.length) (by omega) (fun (k:Nat) (s:List DLink)=>((k:Int),s)) (clinkF f a.2.1 a.2.2.1 (j:Int) tr) (fun k z=>z.length=s.length+k) (J:=fun z=>u98J2 (j:Int) g z) (F:=u98L3 f a (j:Int) tr g) (fun g3 k z hk hz=>?_) (fun k z hk hz=>?_) (fun g3 z _=>all_end) s rfl).trans ?_
  ·have e5:((k:Int)).toNat=k:=rfl
   have ht:=t2 _ (getD_mem (d:=((0,0):Int×Int)) hk)
   have hz:z.length=s.length+k:=hz
   refine (if_pos (by simpa using hk)).trans ?_
   rw [e5,gd_pos ⟨⟨by omega,by omega⟩,hk,trivial⟩,lt_eq]
   show gd _ _=_
   rw [gd_pos ⟨⟨by omega,by omega⟩,⟨by omega,by omega⟩,⟨by omega,by omega⟩,⟨by show _≤2*(f+a.2.1)+(tr.getD k (0,0)).1; omega,by show 2*(f+a.2.1)+(tr.getD k (0,0)).1≤_; omega⟩,⟨by omega,by omega⟩,⟨by omega,by omega⟩,⟨by omega,by omega⟩,⟨by show _≤2*(f+a.2.2.1)+(tr.getD k (0,0)).2; omega,by show 2*(f+a.2.2.1)+(tr.getD k (0,0)).2≤_; omega⟩,⟨by show z.length+1≤_; omega,by show (z.length+1)*32≤_; omega⟩,trivial⟩,lt_eq]
   exact gd_pos ⟨⟨by omega,by omega⟩,trivial⟩
  ·have hz:z.length=s.length+k:=hz
   unfold clinkF
   rw [List.length_append,hz]; rfl
  ·exact gd_pos ⟨⟨by omega,by omega⟩,trivial⟩
 ·have hI:s.length≤4*j:=hI
  have:=carcF_len f (arcOf c) j s
  show _≤4*(j+1)
  omega
end Go.Proofs.YtgmpfbpemmohnaaGreatDoor
end
section
/- The view of a block: the program's way. -/
namespace Go.Proofs.YtgmpfbpemmohnaaGreatDoor
open Go Go.Proofs Go.Proofs.Sv Go.Proofs.Xv Go.Proofs.Xl Go.Proofs.Xd
def instLV (b:Y46) (i:Nat) (s:Int×List DLink):Int×List DLink:=instLF (fun i=>(insOf b.2.1 i).2.2.length) (fun i=>arcOf (celI b i)) (fun i=>(celI b i).2.2.2.1.length) i s
def drvV (b:Y46) (i:Nat):Int:=drvN (plcOf b.2.1) i (plcs b.2.1).length
def clinksV (b:Y46):List DLink:=(foldN (instLV b) b.2.1.1.length (0,[])).2
def linksV (b:Y46):List DLink:=foldN (netLF (drvV b) (fun i=>sinksV b.2.1 i)) b.2.2.length (clinksV b)
def loadsL (b:Y46):List Int:=foldN (appF fun i=>(loadsV b i).getD 0 0) b.2.2.length []
def delaysL (b:Y46):List (List Int):=foldN (appF fun i=>exactV b i) b.2.2.length []
theorem instLV_in {b:Y46} (df:DF b.1 b.2.1) (m:Nat) (hm:m≤b.2.1.1.length):0≤(foldN (instLV b) m (0,[])).1∧(foldN (instLV b) m (0,[])).1≤5*(m:Int)∧(foldN (instLV b) m (0,[])).2.length≤32*m :=
 instLF_in (n:=b.2.1.1.length) (fun i hi=>⟨(df.pin i hi).2,(cell_arcs (inst_cell' df hi).2.1).2.2.1⟩) m hm
def stepV (b:Y46) (i:Nat) (s:List Int×List (List Int)×List DLink):List Int×List (List Int)×List DLink:=(s.1++[(loadsV b i).getD 0 0],s.2.1++[exactV b i],netLF (drvV b) (fun i=>sinksV b.2.1 i) i s.2.2)
theorem stepV_fold (b:Y46) (z:List DLink):∀ m,foldN (stepV b) m ([],[],z)=(foldN (appF fun i=>(loadsV b i).getD 0 0) m [],foldN (appF fun i=>exactV b i) m [],foldN (netLF (drvV b) (fun i=>sinksV b.2.1 i)) m z)
 | 0=>rfl
 | m+1=>by
   show stepV b m (foldN (stepV b) m ([],[],z))=_
   rw [stepV_fold b z m]; rfl
end Go.Proofs.YtgmpfbpemmohnaaGreatDoor
end
section
/- Where the places of a design lie; who drives a net. Plain facts. -/
namespace Go.Proofs.Xd
open Go Go.Proofs Go.Proofs.Xl
def offs (x:Nat→DInst):Nat→Nat
 | 0=>0
 | i+1=>offs x i+(x i).2.2.length
theorem instP_get (x:DInst) (i:Int) (d:DPlace) (s:List DPlace):∀ n k,k < n→(foldN (instP x i) n s).getD (s.length+k) d=(i,(k:Int),x.2.2.getD k 0,(k:Int)==(x.2.2.length:Int) - 1)
 | n+1,k,h=>by
   have hl:=instP_len x i s n
   have ih:=instP_get x i d s n k
   show (instP x i n (foldN (instP x i) n s)).getD _ d=_
   generalize foldN (instP x i) n s=z at hl ih
   unfold instP
   rcases Nat.lt_or_ge k n with hk | hk
   ·rw [getD_left (by omega)]; exact ih hk
   ·have:k=n:=by omega
    subst this
    rw [getD_right (by omega),hl,Nat.sub_self]; rfl
theorem instP_old (x:DInst) (i:Int) (d:DPlace) (s:List DPlace):∀ n j,j < s.length→(foldN (instP x i) n s).getD j d=s.getD j d
 | 0,_,_=>rfl
 | n+1,j,h=>by
   have hl:=instP_len x i s n
   have ih:=instP_old x i d s n j h
   show (instP x i n (foldN (instP x i) n s)).getD _ d=_
   generalize foldN (instP x i) n s=z at hl ih
   unfold instP
   rw [getD_left (by omega)]; exact ih
theorem placesF_offs (x:Nat→DInst):∀ n,(foldN (placesF x) n []).length=offs x n
 | 0=>rfl
 | n+1=>by
   have:=placesF_offs x n
   show (placesF x n (foldN (placesF x) n [])).length=_
   unfold placesF
   rw [instP_len]
   show (foldN (placesF x) n []).length+_=_
   rw [this]; rfl
theorem placesF_get (x:Nat→DInst) (d:DPlace):∀ n i k,i < n→k < (x i).2.2.length→(foldN (placesF x) n []).getD (offs x i+k) d=((i:Int),(k:Int),(x i).2.2.getD k 0,(k:Int)==((x i).2.2.length:Int) - 1)
 | n+1,i,k,hi,hk=>by
   have hl:=placesF_offs x n
   have ih:=placesF_get x d n i k
   show (placesF x n (foldN (placesF x) n [])).getD _ d=_
   generalize foldN (placesF x) n []=z at hl ih
   unfold placesF
   rcases Nat.lt_or_ge i n with h | h
   ·have hlt:offs x i+k < z.length:=by
     rw [hl]
     have:∀ m,i < m→offs x i+(x i).2.2.length≤offs x m:=by
      intro m
      induction m with
      | zero=>intro h; omega
      | succ m ih =>
        intro h
        show _≤offs x m+_
        rcases Nat.lt_or_ge i m with h' | h'
        ·have:=ih h'; omega
        ·have:i=m:=by omega
         subst this; omega
     have:=this n h
     omega
    rw [instP_old _ _ _ _ _ _ hlt]
    exact ih h hk
   ·have:i=n:=by omega
    subst this
    rw [← hl]
    exact instP_get _ _ _ _ _ _ hk
theorem portP_old (y:Nat→DPort) (d:DPlace) (s:List DPlace):∀ n j,j < s.length→(foldN (portP y) n s).getD j d=s.getD j d
 | 0,_,_=>rfl
 | n+1,j,h=>by
   have hl:=portP_len y s n
   have ih:=portP_old y d s n j h
   show (portP y n (foldN (portP y) n s)).getD _ d=_
   generalize foldN (portP y) n s=z at hl ih
   unfold portP
   rw [getD_left (by omega)]; exact ih
theorem portP_get (y:Nat→DPort) (d:DPlace) (s:List DPlace):∀ n k,k < n→(foldN (portP y) n s).getD (s.length+k) d=(-1,(k:Int),(y k).2.2,(y k).2.1==1)
 | n+1,k,h=>by
   have hl:=portP_len y s n
   have ih:=portP_get y d s n k
   show (portP y n (foldN (portP y) n s)).getD _ d=_
   generalize foldN (portP y) n s=z at hl ih
   unfold portP
   rcases Nat.lt_or_ge k n with hk | hk
   ·rw [getD_left (by omega)]; exact ih hk
   ·have:k=n:=by omega
    subst this
    rw [getD_right (by omega),hl,Nat.sub_self]; rfl
theorem offs_inv (x:Nat→DInst):∀ n j,j < offs x n→∃ i k,i < n∧k < (x i).2.2.length∧j=offs x i+k
 | n+1,j,h=>by
   have h:j < offs x n+(x n).2.2.length:=h
   rcases Nat.lt_or_ge j (offs x n) with hj | hj
   ·obtain ⟨i,k,h1,h2,h3⟩:=offs_inv x n j hj
    exact ⟨i,k,by omega,h2,h3⟩
   ·exact ⟨n,j - offs x n,by omega,by omega,by omega⟩
theorem offs_lt (x:Nat→DInst) {i n k:Nat} (hi:i < n) (hk:k < (x i).2.2.length):offs x i+k < offs x n:=by
 induction n with
 | zero=>omega
 | succ n ih =>
   show _ < offs x n+(x n).2.2.length
   rcases Nat.lt_or_ge i n with h | h
   ·have:=ih h; omega
   ·have:i=n:=by omega
    subst this; omega
theorem places_len (ni np:Nat) (x:Nat→DInst) (y:Nat→DPort):(placesN ni np x y).length=offs x ni+np:=by
 unfold placesN
 rw [portP_len,placesF_offs]
theorem places_inst (ni np:Nat) (x:Nat→DInst) (y:Nat→DPort) (d:DPlace) {i k:Nat} (hi:i < ni) (hk:k < (x i).2.2.length):(placesN ni np x y).getD (offs x i+k) d=((i:Int),(k:Int),(x i).2.2.getD k 0,(k:Int)==((x i).2.2.length:Int) - 1):=by
 unfold placesN
 rw [portP_old _ _ _ _ _ (by rw [placesF_offs]; exact offs_lt x hi hk)]
 exact placesF_get x d ni i k hi hk
theorem places_port (ni np:Nat) (x:Nat→DInst) (y:Nat→DPort) (d:DPlace) {k:Nat} (hk:k < np):(placesN ni np x y).getD (offs x ni+k) d=(-1,(k:Int),(y k).2.2,(y k).2.1==1):=by
 unfold placesN
 rw [← placesF_offs x ni]
 exact portP_get _ _ _ _ _ hk
theorem place_only (ni np:Nat) (x:Nat→DInst) (y:Nat→DPort) (d:DPlace) {i k:Nat} (hi:i < ni) (hk:k < (x i).2.2.length) {j:Nat} (hj:j < (placesN ni np x y).length):(((placesN ni np x y).getD j d).1==(i:Int)&&((placesN ni np x y).getD j d).2.1==(k:Int))=decide (j=offs x i+k):=by
 rw [Bool.eq_iff_iff,Bool.and_eq_true,beq_iff_eq,beq_iff_eq,decide_eq_true_eq]
 rw [places_len] at hj
 constructor
 ·rintro ⟨h1,h2⟩
  rcases Nat.lt_or_ge j (offs x ni) with h | h
  ·obtain ⟨i',k',h3,h4,h5⟩:=offs_inv x ni j h
   subst h5
   rw [places_inst ni np x y d h3 h4] at h1 h2
   have e1:i'=i:=Int.ofNat.inj h1
   have e2:k'=k:=Int.ofNat.inj h2
   rw [e1,e2]
  ·have e:j=offs x ni+(j - offs x ni):=by omega
   rw [e,places_port ni np x y d (by omega)] at h1
   have h1:(-1:Int)=(i:Int):=h1
   omega
 ·rintro rfl
  rw [places_inst ni np x y d hi hk]
  exact ⟨rfl,rfl⟩
def cntF (P:Nat→Bool) (m:Nat):Nat:=foldN (fun i s=>if P i=true then s+1 else s) m 0
theorem cntF_succ (P:Nat→Bool) (m:Nat):cntF P (m+1)=if P m=true then cntF P m+1 else cntF P m:=rfl
theorem cntF_one {P:Nat→Bool}:∀ {m i:Nat},i < m→P i=true→1≤cntF P m
 | m+1,i,h,hp=>by
   rw [cntF_succ]
   rcases Nat.lt_or_ge i m with h' | h'
   ·have:=cntF_one h' hp; split <;> omega
   ·have:i=m:=by omega
    subst this
    rw [if_pos hp]; omega
theorem cntF_two {P:Nat→Bool}:∀ {m i j:Nat},i < j→j < m→P i=true→P j=true→2≤cntF P m
 | m+1,i,j,h1,h2,hi,hj=>by
   rw [cntF_succ]
   rcases Nat.lt_or_ge j m with h' | h'
   ·have:=cntF_two h1 h' hi hj; split <;> omega
   ·have:j=m:=by omega
    subst this
    have:=cntF_one h1 hi
    rw [if_pos hj]; omega
theorem cntF_ex {P:Nat→Bool}:∀ {m:Nat},1≤cntF P m→∃ i,i < m∧P i=true
 | 0,h=>by simp [cntF,foldN] at h
 | m+1,h=>by
   rw [cntF_succ] at h
   by_cases hp:P m=true
   ·exact ⟨m,by omega,hp⟩
   ·rw [if_neg hp] at h
    obtain ⟨i,h1,h2⟩:=cntF_ex h
    exact ⟨i,by omega,h2⟩
def drvB (pl:Nat→DPlace) (t:Int) (j:Nat):Bool:=(pl j).2.2.1==t&&(pl j).2.2.2
theorem drvN_last {pl:Nat→DPlace} {t:Int}:∀ {m i:Nat},i < m→drvB pl t i=true→(∀ j,i < j→j < m→drvB pl t j=false)→drvN pl t m=(i:Int)
 | m+1,i,h,hi,hn=>by
   have e:drvN pl t (m+1)=if drvB pl t m=true then (m:Int) else drvN pl t m:=rfl
   rw [e]
   rcases Nat.lt_or_ge i m with h' | h'
   ·rw [if_neg (by rw [hn m h' (by omega)]; simp)]
    exact drvN_last h' hi (fun j h1 h2=>hn j h1 (by omega))
   ·have:i=m:=by omega
    subst this
    rw [if_pos hi]
theorem drv_one {pl:Nat→DPlace} {t:Int} {m:Nat} (h:cntF (drvB pl t) m=1):∃ i,i < m∧drvB pl t i=true∧(∀ j,j < m→drvB pl t j=decide (j=i))∧drvN pl t m=(i:Int):=by
 obtain ⟨i,h1,h2⟩:=cntF_ex (Nat.le_of_eq h.symm)
 have hu:∀ j,j < m→drvB pl t j=true→j=i:=fun j hj hd=>by
  rcases Nat.lt_trichotomy i j with h' | h' | h'
  ·have:=cntF_two h' hj h2 hd; omega
  ·exact h'.symm
  ·have:=cntF_two h' h1 hd h2; omega
 refine ⟨i,h1,h2,fun j hj=>?_,drvN_last h1 h2 (fun j hij hj=>?_)⟩
 ·rw [Bool.eq_iff_iff,decide_eq_true_eq]
  exact ⟨hu j hj,fun e=>by rw [e]; exact h2⟩
 ·rw [← Bool.not_eq_true]
  intro hd
  have:=hu j hj hd
  omega
theorem cntF_add (P:Nat→Bool) (m:Nat):∀ n,cntF P (m+n)=cntF P m+cntF (fun i=>P (m+i)) n
 | 0=>rfl
 | n+1=>by
   rw [← Nat.add_assoc,cntF_succ,cntF_succ,cntF_add P m n]
   split <;> omega
theorem cntF_last {P:Nat→Bool} {n:Nat} (h:∀ i,i < n→P i=false):cntF P (n+1)=if P n=true then 1 else 0:=by
 have:∀ m,m≤n→cntF P m=0:=by
  intro m
  induction m with
  | zero=>intro _; rfl
  | succ m ih=>intro hm; rw [cntF_succ,h m (by omega),if_neg (by simp),ih (by omega)]
 rw [cntF_succ,this n (Nat.le_refl _)]
theorem inst_cnt {ni np:Nat} {x:Nat→DInst} {y:Nat→DPort} {d:DPlace} {nn:Nat} (hx:∀ i,i < ni→1≤(x i).2.2.length∧inB ((x i).2.2.getD ((x i).2.2.length - 1) 0) 0 ((nn:Int) - 1)=true):∀ n,n≤ni→(foldN (instF x) n (List.replicate nn 0)).length=nn∧∀ t:Nat,t < nn→(foldN (instF x) n (List.replicate nn 0)).getD t 0=(cntF (drvB (fun j=>(placesN ni np x y).getD j d) t) (offs x n):Nat)
 | 0,_=>⟨List.length_replicate,fun t ht=>by
   show (List.replicate nn (0:Int)).getD t 0=_
   rw [List.getD_eq_getElem?_getD,List.getElem?_replicate,if_pos ht]; rfl⟩
 | n+1,hn=>by
   obtain ⟨h1,h2⟩:=inst_cnt (np:=np) (y:=y) (d:=d) hx n (by omega)
   obtain ⟨h3,h4⟩:=hx n (by omega)
   have h4:=inB_iff.1 h4
   have e:foldN (instF x) (n+1) (List.replicate nn 0)=instF x n (foldN (instF x) n (List.replicate nn 0)):=rfl
   rw [e]
   generalize foldN (instF x) n (List.replicate nn 0)=v at h1 h2
   unfold instF incAt
   refine ⟨by rw [List.length_set]; exact h1,fun t ht=>?_⟩
   rw [getD_set (by omega)]
   show _=((cntF _ (offs x n+(x n).2.2.length):Nat):Int)
   rw [cntF_add]
   have hk:∀ k,k < (x n).2.2.length→drvB (fun j=>(placesN ni np x y).getD j d) t (offs x n+k)=((x n).2.2.getD k 0==(t:Int)&&(k:Int)==((x n).2.2.length:Int) - 1):=fun k hk=>by
    unfold drvB
    show (((placesN ni np x y).getD (offs x n+k) d).2.2.1==(t:Int)&&((placesN ni np x y).getD (offs x n+k) d).2.2.2)=_
    rw [places_inst ni np x y d (by omega) hk]
   obtain ⟨m,hm⟩:∃ m,(x n).2.2.length=m+1:=⟨(x n).2.2.length - 1,by omega⟩
   have hm1:(x n).2.2.length - 1=m:=by omega
   rw [hm1] at h4
   rw [hm1,hm,cntF_last (fun i hi=>by rw [hk i (by omega),hm]; simp; omega),hk m (by omega),hm]
   have e1:((m:Int)==((m+1:Nat):Int) - 1)=true:=by simp
   rw [e1,Bool.and_true]
   have e2:((x n).2.2.getD m 0==(t:Int))=decide (t=((x n).2.2.getD m 0).toNat):=by
    rw [Bool.eq_iff_iff,beq_iff_eq,decide_eq_true_eq]
    omega
   rw [e2]
   by_cases ht':t=((x n).2.2.getD m 0).toNat
   ·rw [if_pos ht',← ht',h2 t ht,decide_eq_true rfl,if_pos rfl]; rfl
   ·rw [if_neg ht',h2 t ht,decide_eq_false ht',if_neg (by simp)]; omega
theorem port_cnt {ni np:Nat} {x:Nat→DInst} {y:Nat→DPort} {d:DPlace} {nn:Nat} (hx:∀ i,i < ni→1≤(x i).2.2.length∧inB ((x i).2.2.getD ((x i).2.2.length - 1) 0) 0 ((nn:Int) - 1)=true) (hy:∀ i,i < np→inB (y i).2.2 0 ((nn:Int) - 1)=true):∀ n,n≤np→(foldN (portF y) n (foldN (instF x) ni (List.replicate nn 0))).length=nn∧∀ t:Nat,t < nn→(foldN (portF y) n (foldN (instF x) ni (List.replicate nn 0))).getD t 0=(cntF (drvB (fun j=>(placesN ni np x y).getD j d) t) (offs x ni+n):Nat)
 | 0,_=>inst_cnt hx ni (Nat.le_refl _)
 | n+1,hn=>by
   obtain ⟨h1,h2⟩:=port_cnt (d:=d) hx hy n (by omega)
   have h4:=inB_iff.1 (hy n (by omega))
   have e:foldN (portF y) (n+1) (foldN (instF x) ni (List.replicate nn 0))=portF y n (foldN (portF y) n (foldN (instF x) ni (List.replicate nn 0))):=rfl
   rw [e]
   generalize foldN (portF y) n (foldN (instF x) ni (List.replicate nn 0))=v at h1 h2
   have hk:∀ t:Nat,drvB (fun j=>(placesN ni np x y).getD j d) t (offs x ni+n)=((y n).2.2==(t:Int)&&(y n).2.1==1):=fun t=>by
    unfold drvB
    show (((placesN ni np x y).getD (offs x ni+n) d).2.2.1==(t:Int)&&((placesN ni np x y).getD (offs x ni+n) d).2.2.2)=_
    rw [places_port ni np x y d (by omega)]
   have e2:∀ t:Nat,((y n).2.2==(t:Int))=decide (t=(y n).2.2.toNat):=fun t=>by
    rw [Bool.eq_iff_iff,beq_iff_eq,decide_eq_true_eq]
    omega
   unfold portF
   split
   ·rename_i hd
    unfold incAt
    refine ⟨by rw [List.length_set]; exact h1,fun t ht=>?_⟩
    rw [getD_set (by omega),← Nat.add_assoc,cntF_succ,hk,e2,hd]
    by_cases ht':t=(y n).2.2.toNat
    ·rw [if_pos ht',← ht',h2 t ht]; simp
    ·rw [if_neg ht',h2 t ht]; simp [ht']
   ·rename_i hd
    refine ⟨h1,fun t ht=>?_⟩
    rw [h2 t ht,← Nat.add_assoc,cntF_succ,hk]
    simp [hd]
end Go.Proofs.Xd
end
section
/- What the links of a block are: where they lead. Plain facts. -/
namespace Go.Proofs.Xd
open Go Go.Proofs Go.Proofs.Xl
theorem instLF_fst {nets:Nat→Nat} {arcs:Nat→Nat→DArc} {ms:Nat→Nat} {x:Nat→DInst} (hx:∀ i,nets i=(x i).2.2.length):∀ m,(foldN (instLF nets arcs ms) m (0,[])).1=(offs x m:Int)
 | 0=>rfl
 | m+1=>by
   show (foldN (instLF nets arcs ms) m (0,[])).1+(nets m:Int)=((offs x m+(x m).2.2.length:Nat):Int)
   rw [instLF_fst hx m,hx m]; omega
theorem clinkF_app (f a b x:Int) (tr:List (Int×Int)) (s:List DLink):∀ k,foldN (clinkF f a b x tr) k s=s++foldN (clinkF f a b x tr) k []
 | 0=>(List.append_nil _).symm
 | k+1=>by
   show foldN (clinkF f a b x tr) k s++[_]=s++(foldN (clinkF f a b x tr) k []++[_])
   rw [clinkF_app f a b x tr s k,List.append_assoc]
theorem carcF_app (f:Int) (arcs:Nat→DArc) (s:List DLink):∀ m,foldN (carcF f arcs) m s=s++cellLinksD f arcs m
 | 0=>(List.append_nil _).symm
 | m+1=>by
   show carcF f arcs m (foldN (carcF f arcs) m s)=s++carcF f arcs m (cellLinksD f arcs m)
   rw [carcF_app f arcs s m]
   unfold carcF
   rw [clinkF_app,clinkF_app _ _ _ _ _ (cellLinksD f arcs m),List.append_assoc]
end Go.Proofs.Xd
end
section
/- The links of a block: the reference's way. -/
namespace Go.Proofs.YtgmpfbpemmohnaaGreatDoor
open Go Go.Proofs Go.Proofs.Sv Go.Proofs.Xv Go.Proofs.Xl Go.Proofs.Xd
theorem r94 (l:List DLink) (f t a b k i:Int) (hf:0≤f∧f≤1000) (ht:0≤t∧t≤1000) (ha:0≤a∧a≤1) (hb:0≤b∧b≤1) (hl:l.length≤100000):u94 l f t a b k i=some (l++[(2*f+a,2*t+b,k,i)]) :=
 gd_pos ⟨⟨by omega,by omega⟩,⟨by omega,by omega⟩,⟨by omega,by omega⟩,⟨by omega,by omega⟩,⟨by show l.length+1≤_; omega,by show (l.length+1)*32≤_; omega⟩,trivial⟩
def fitsV (k s:Int) (x y:Nat):Bool:=if (k==1)=true then s==3||(s==1)==((x:Int)==(y:Int)) else if (k==2)=true then (x:Int)==0 else if (k==3)=true then (x:Int)==1 else false
def arcE (k s f t i:Int) (x y:Nat) (l:List DLink):List DLink:=if fitsV k s x y=true then l++[(2*f+(x:Int),2*t+(y:Int),1,i)] else l
theorem arcE_len (k s f t i:Int) (x y:Nat) (l:List DLink):(arcE k s f t i x y l).length≤l.length+1:=by
 unfold arcE
 split
 ·rw [List.length_append]; exact Nat.le_refl _
 ·omega
theorem arcE_fold (k s f t i:Int) (x:Nat) (l:List DLink):∀ n,(foldN (arcE k s f t i x) n l).length≤l.length+n
 | 0=>Nat.le_refl _
 | n+1=>by
   have h:=arcE_fold k s f t i x l n
   have:=arcE_len k s f t i x n (foldN (arcE k s f t i x) n l)
   show (arcE k s f t i x n (foldN (arcE k s f t i x) n l)).length≤_
   omega
theorem r91 (a:Y139) (l:List DLink) (f t i:Int) (hf:0≤f∧f≤1000) (ht:0≤t∧t≤1000) (hl:l.length≤90000):u91 l a f t i=some (foldN (fun x s=>foldN (arcE a.1 a.2.2.2.1 f t i x) 2 s) 2 l):=by
 unfold u91
 refine lp_fold (n:=2) (by decide) (fun (x:Nat) (s:List DLink)=>((x:Int),s)) (fun x s=>foldN (arcE a.1 a.2.2.2.1 f t i x) 2 s) (fun x s=>s.length≤l.length+2*x) (J:=fun s=>some s) (F:=u91L1 f t i a) (fun g x s hx hI=>?_) (fun x s hx hI=>?_) (fun g s _=>by
  show u91L1 f t i a g (((2:Nat):Int),s)=_
  rw [u91L1]
  exact if_neg (by decide)) l (Nat.le_refl _)
 ·have hI:s.length≤l.length+2*x:=hI
  refine (if_pos (decide_eq_true (by omega))).trans ?_
  refine (lp_fold (n:=2) (by decide) (fun (y:Nat) (s:List DLink)=>((y:Int),s)) (arcE a.1 a.2.2.2.1 f t i x) (fun y s=>s.length≤l.length+2*x+y) (J:=fun s=>u91J2 (x:Int) g s) (F:=u91L3 f t (x:Int) i a g) (fun g' y s hy hI=>?_) (fun y s hy hI=>?_) (fun g' s _=>by
   show u91L3 f t (x:Int) i a g g' (((2:Nat):Int),s)=_
   rw [u91L3]
   exact if_neg (by decide)) s hI).trans ?_
  ·have hI:s.length≤l.length+2*x+y:=hI
   have j4:∀ v,u91J4 (y:Int) g' v=g' (((y+1:Nat):Int),v):=fun v=>gd_pos ⟨⟨by omega,by omega⟩,trivial⟩
   have j5:∀ v,u91J5 (y:Int) s f t (x:Int) i g' v=g' (((y+1:Nat):Int),if v=true then s++[(2*f+(x:Int),2*t+(y:Int),1,i)] else s):=fun v=>by
    cases v with
    | true=>rw [u91J5,if_pos rfl,if_pos rfl,r94 s f t x y 1 i hf ht (by omega) (by omega) (by omega),gd_pos ⟨rfl,trivial⟩,vl_some,lt_eq,j4]
    | false=>rw [u91J5,if_neg (by simp),if_neg (by simp),j4]
   refine (if_pos (decide_eq_true (by omega))).trans ?_
   show _=g' (((y+1:Nat):Int),arcE a.1 a.2.2.2.1 f t i x y s)
   unfold arcE fitsV
   rw [j5,j5,j5,j5]
   by_cases h1:(a.1==1)=true
   ·rw [if_pos h1,if_pos h1]
   rw [if_neg h1,if_neg h1]
   by_cases h2:(a.1==2)=true
   ·rw [if_pos h2,if_pos h2]
   rw [if_neg h2,if_neg h2]
   by_cases h3:(a.1==3)=true
   ·rw [if_pos h3,if_pos h3]
   rw [if_neg h3,if_neg h3]
  ·have hI:s.length≤l.length+2*x+y:=hI
   have:=arcE_len a.1 a.2.2.2.1 f t i x y s
   omega
  ·exact gd_pos ⟨⟨by omega,by omega⟩,trivial⟩
 ·have hI:s.length≤l.length+2*x:=hI
  have:=arcE_fold a.1 a.2.2.2.1 f t i x s 2
  omega
theorem arc_eq {k s:Int} (h:(k=1∧(s=1∨s=2∨s=3))∨k=2∨k=3) (fo A B i:Int) (l:List DLink):foldN (fun x z=>foldN (arcE k s (fo+A) (fo+B) i x) 2 z) 2 l=foldN (clinkF fo A B i (transV k s)) (transV k s).length l:=by
 rcases h with ⟨rfl,rfl | rfl | rfl⟩ | rfl | rfl <;> rfl
theorem find_first {b:Nat→Bool} {n m:Nat} (hm:m < n) (h1:b m=true) (h2:∀ j,j < m→b j=false):(List.range n).find? b=some m:=by
 rw [List.find?_range_eq_some]
 refine ⟨h1,List.mem_range.2 hm,fun j hj=>?_⟩
 rw [h2 j hj]; rfl
theorem r92 (d:Y43) (hd:wf y43 d) {l:List Y134} (df:DF l d) {i k:Nat} (hi:i < d.1.length) (hk:k < (insOf d i).2.2.length):u92 d (i:Int) (k:Int)=some ((offs (insOf d) i+k:Nat):Int)∧offs (insOf d) i+k < (plcs d).length:=by
 have hl:=df.len
 have hlt:offs (insOf d) i+k < (plcs d).length:=by
  have:=offs_lt (insOf d) hi hk
  unfold plcs
  rw [places_len]; omega
 refine ⟨?_,hlt⟩
 unfold u92
 rw [r106 d hd df.fac.ni14 df.fac.np8 df.pin,vl_some,gd_pos ⟨rfl,trivial⟩,lt_eq]
 have ho:∀ j,j < (plcs d).length→((plcOf d j).1==(i:Int)&&(plcOf d j).2.1==(k:Int))=decide (j=offs (insOf d) i+k):=fun j hj=>place_only d.1.length d.2.2.length (insOf d) (prtOf d) (dflt y146) hi hk hj
 have key:=idx_some (n:=(plcs d).length) (by omega) (fun j=>(plcOf d j).1==(i:Int)&&(plcOf d j).2.1==(k:Int)) (F:=u92L1 (plcs d) (i:Int) (k:Int)) (fun g j hj=>by
  have e3:((j:Int)).toNat=j:=rfl
  refine (if_pos (by simpa using hj)).trans ?_
  rw [e3,gd_pos ⟨⟨by omega,by omega⟩,hj,(fun _=>⟨by omega,by omega⟩),(fun _=>hj),trivial⟩,gd_pos ⟨⟨by omega,by omega⟩,trivial⟩]) (fun g=>all_end)
 refine key.trans ?_
 rw [find_first hlt (by rw [ho _ hlt,decide_eq_true rfl]) (fun j hj=>by rw [ho j (by omega)]; exact decide_eq_false (by omega))]
theorem drv_cnt {b:Y46} (hb:blockOk b=true) {t:Nat} (ht:t < b.2.2.length):cntF (drvB (plcOf b.2.1) t) (plcs b.2.1).length=1:=by
 obtain ⟨hd,hlen,_⟩:=block_design hb
 have df:=df_of hd
 have hD:designB _ _ _ _ _ _ _ _ _=true:=hd
 unfold designB at hD
 rw [Bool.and_eq_true] at hD
 have hx:∀ i,i < b.2.1.1.length→1≤(insOf b.2.1 i).2.2.length∧inB ((insOf b.2.1 i).2.2.getD ((insOf b.2.1 i).2.2.length - 1) 0) 0 ((b.2.1.2.1.length:Int) - 1)=true:=fun i hi=>by
  have h1:=(df.pin i hi).1
  exact ⟨h1,df.fac.net.1 i hi _ (by omega)⟩
 obtain ⟨p1,p2⟩:=port_cnt (d:=dflt y146) hx (fun i hi=>df.fac.net.2 i hi) b.2.1.2.2.length (Nat.le_refl _)
 have hall:=all_getD (p:=fun x=>x==1) hD.2 (i:=t) (by
  unfold driveN
  rw [p1]; omega)
 have h1:(driveN b.2.1.1.length b.2.1.2.2.length b.2.1.2.1.length (insOf b.2.1) (prtOf b.2.1)).getD t 0=1:=beq_iff_eq.1 hall
 have h2:=p2 t (by omega)
 unfold driveN at h1
 rw [h1] at h2
 have h3:(plcs b.2.1).length=offs (insOf b.2.1) b.2.1.1.length+b.2.1.2.2.length:=places_len _ _ _ _
 rw [h3]
 exact Int.ofNat.inj h2.symm
theorem r93 (b:Y46) (hw:wf y46 b) (hb:blockOk b=true) {t:Nat} (ht:t < b.2.2.length):u93 b.2.1 (t:Int)=some (drvV b t)∧0≤drvV b t∧(drvV b t).toNat < (plcs b.2.1).length:=by
 have df:=df_of (block_design hb).1
 have hl:=df.len
 obtain ⟨i,h1,h2,h3,h4⟩:=drv_one (drv_cnt hb ht)
 have hv:drvV b t=(i:Int):=h4
 refine ⟨?_,by omega,by omega⟩
 unfold u93
 rw [r106 b.2.1 hw.2.1 df.fac.ni14 df.fac.np8 df.pin,vl_some,gd_pos ⟨rfl,trivial⟩,lt_eq]
 have key:=idx_some (n:=(plcs b.2.1).length) (by omega) (drvB (plcOf b.2.1) t) (F:=u93L1 (plcs b.2.1) (t:Int)) (fun g j hj=>by
  have e3:((j:Int)).toNat=j:=rfl
  refine (if_pos (by simpa using hj)).trans ?_
  rw [e3,gd_pos ⟨⟨by omega,by omega⟩,hj,(fun _=>⟨by omega,by omega⟩),(fun _=>hj),trivial⟩,gd_pos ⟨⟨by omega,by omega⟩,trivial⟩]
  rfl) (fun g=>all_end)
 refine key.trans ?_
 rw [find_first h1 h2 (fun j hj=>by rw [h3 j (by omega)]; exact decide_eq_false (by omega)),hv]
end Go.Proofs.YtgmpfbpemmohnaaGreatDoor
end

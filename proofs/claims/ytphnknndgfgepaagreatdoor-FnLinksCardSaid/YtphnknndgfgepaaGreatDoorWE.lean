/- Wires and places: what the program's functions and the reference's say of them. -/
import Derived.Test.YtphnknndgfgepaaGreatDoorWD
import Derived.Test.YtphnknndgfgepaaGreatDoorWB
import Derived.Test.YtphnknndgfgepaaGreatDoorG74
import Derived.Test.YtphnknndgfgepaaGreatDoorWC
section
namespace Go.Proofs.YtphnknndgfgepaaGreatDoor
open Go Go.Proofs Go.Proofs.Sv Go.Proofs.Xv Go.Proofs.Xl Go.Proofs.Xd
abbrev treeBad(w:Y110)(i:Nat):Bool:=(i==0&&(w.1.getD i 0 != -1||w.2.1.getD 0 0 != 0))||(decide (0<i)&&!inB (w.1.getD i 0) 0 ((i:Int)-1))
theorem r181(w:Y110)(hw:wf y110 w)(hl:w.2.1.length=w.1.length):u181 w=some (!(List.range w.1.length).any (treeBad w)):=by
 have h:=hw.1.1;have key:=lp_all (n:=w.1.length) h (treeBad w) (some false) (e:=some true) (F:=u181L1 w) (fun g i hi=>by
  have e3:((i:Int)).toNat=i:=rfl;have e0:((i:Int)==0)=(i==0):=by rw[Bool.eq_iff_iff,beq_iff_eq,beq_iff_eq]; omega
  have e2:decide ((0:Int) < (i:Int))=decide (0<i):=by rw[decide_eq_decide]; omega
  refine(if_pos (by simpa using hi)).trans ?_;rw[e3,e0,e2,r150,vS,gP ⟨oo,trivial⟩,gP ⟨fun _=>oo,fun _=>oo,fun _=>rfl,trivial⟩,gP ⟨oo,trivial⟩];rfl) (fun g=>aE)
 refine key.trans ?_;cases(List.range w.1.length).any (treeBad w) <;> rfl
theorem r127(w:Y110)(n:Int)(hw:wf y110 w):u127 w n=some (wireB w n):=by
 obtain⟨⟨h1,_⟩,⟨h2,_⟩,⟨h3,_⟩,h4,_⟩:=id hw;have e:∀xs:List Int,u129 xs=some (xs.length:Int):=fun _=>rfl;unfold u127;rw[e,e,e,e]
 repeat rw[vS]
 rw[gP ⟨rfl,trivial⟩,lE,r150,r173 _ _ _ h2,r173 _ _ _ h3,r173 _ _ _ h4]
 repeat rw[vS]
 by_cases hgo:(inB (w.1.length:Int) 1 8&&(w.2.1.length:Int)==(w.1.length:Int)&&(w.2.2.1.length:Int)==(w.1.length:Int))=true
 ·have hg:=hgo;simp only[ba,beq_iff_eq,inB_iff] at hg;rw[r181 w hw (by omega),vS,gP ⟨rfl,fun _=>rfl,fun _=>rfl,fun _=>rfl,fun _=>rfl,fun _=>rfl,fun _=>rfl,fun _=>oo,fun _=>rfl,trivial⟩,lE];refine congrArg some ?_;rw[hgo];unfold wireB;rw[decide_eq_true (show 1<=w.1.length by omega),decide_eq_true (show w.1.length<=8 by omega),decide_eq_true (show w.2.1.length=w.1.length by omega),decide_eq_true (show w.2.2.1.length=w.1.length by omega)];cases(List.range w.1.length).any (treeBad w) <;> cases w.2.1.all (inB · 0 1000) <;> cases w.2.2.1.all (inB · 0 500) <;> cases(w.2.2.2.length:Int)==n <;> cases w.2.2.2.all (inB · 0 ((w.1.length:Int)-1)) <;> rfl
 ·have hg:(inB (w.1.length:Int) 1 8&&(w.2.1.length:Int)==(w.1.length:Int)&&(w.2.2.1.length:Int)==(w.1.length:Int))=false:=by simpa using hgo
  rw[hg,gP ⟨rfl,fun _=>rfl,fun _=>rfl,fun hc=>by simp at hc,fun hc=>by simp at hc,fun hc=>by simp at hc,fun hc=>by simp at hc,fun hc=>by simp at hc,fun hc=>by simp at hc,trivial⟩,lE];refine congrArg some ?_;rw[hg];simp only[Bool.false_and]
  symm
  rw[<- Bool.not_eq_true];intro hc;unfold wireB at hc;simp only[ba,dq] at hc;refine hgo ?_;simp only[ba,beq_iff_eq,inB_iff];omega
theorem r70(w:Y110)(n:Int)(hw:wf y110 w):u70 w n=some (wireB w n):=by
 obtain⟨⟨h1,_⟩,⟨h2,_⟩,⟨h3,_⟩,h4,_⟩:=id hw;unfold u70;by_cases hgo:1<=w.1.length/\w.1.length<=8/\w.2.1.length=w.1.length/\w.2.2.1.length=w.1.length/\(w.2.2.2.length:Int)=n
 ·obtain⟨g1,g2,g3,g4,g5⟩:=hgo;have e0:(decide ((w.1.length:Int)<1)||decide (8 < (w.1.length:Int))||(w.2.1.length:Int) != (w.1.length:Int)||(w.2.2.1.length:Int) != (w.1.length:Int)||(w.2.2.2.length:Int) != n)=false:=by
   rw[<- Bool.not_eq_true]; simp; omega
  refine(if_neg (by rw[e0]; simp)).trans ?_;have k3:=lp_all (n:=w.2.2.2.length) h4 (fun i=>!inB (w.2.2.2.getD i 0) 0 ((w.1.length:Int)-1)) (some false) (e:=some true) (F:=u70L3 w) (fun g i hi=>all_el hi h4 ⟨oo,oo,rfl,trivial⟩) (fun g=>aE);rw[any_getD w.2.2.2 0 (fun x=>!inB x 0 ((w.1.length:Int)-1))] at k3;have k1:=lp_all (n:=w.1.length) h1 (fun i=>(!inB (w.2.2.1.getD i 0) 0 500||!inB (w.2.1.getD i 0) 0 1000)||treeBad w i) (some false) (e:=u70J0 w ()) (F:=u70L1 w) (fun g i hi=>by
   have e3:((i:Int)).toNat=i:=rfl;have e0:((i:Int)==0)=(i==0):=by rw[Bool.eq_iff_iff,beq_iff_eq,beq_iff_eq]; omega
   have e2:decide ((0:Int) < (i:Int))=decide (0<i):=by rw[decide_eq_decide]; omega
   refine(if_pos (by simpa using hi)).trans ?_;rw[e3,e0,e2,r97,r97,r97]
   repeat rw[vS]
   rw[gP ⟨oo,rfl,fun _=>oo,fun _=>rfl,trivial⟩,gP ⟨fun _=>oo,fun _=>oo,fun _=>oo,fun _=>oo,fun _=>rfl,trivial⟩,gP ⟨oo,trivial⟩];have e4:(i==0&&(w.1.getD i 0 != -1||w.2.1.getD i 0 != 0)||decide (0<i)&&!inB (w.1.getD i 0) 0 ((i:Int)-1))=treeBad w i:=by
    unfold treeBad;cases i with
    | zero=>rfl
    | succ i=>rfl
   rw[e4];cases(!inB (w.2.2.1.getD i 0) 0 500||!inB (w.2.1.getD i 0) 0 1000) <;> rfl) (fun g=>aE)
  refine k1.trans ?_;rw[any_or,any_or];have a1:=any_getD w.2.2.1 0 (fun x=>!inB x 0 500);have a2:=any_getD w.2.1 0 (fun x=>!inB x 0 1000);rw[g4] at a1;rw[g3] at a2;rw[a1,a2];unfold u70J0;rw[k3];unfold wireB;rw[decide_eq_true g1,decide_eq_true g2,decide_eq_true g3,decide_eq_true g4,beq_iff_eq.2 g5,<- all_any,<- all_any,<- all_any];cases(List.range w.1.length).any (treeBad w) <;> cases w.2.1.any (fun x=>!inB x 0 1000) <;> cases w.2.2.1.any (fun x=>!inB x 0 500) <;> cases w.2.2.2.any (fun x=>!inB x 0 ((w.1.length:Int)-1)) <;> rfl
 ·have e0:(decide ((w.1.length:Int)<1)||decide (8 < (w.1.length:Int))||(w.2.1.length:Int) != (w.1.length:Int)||(w.2.2.1.length:Int) != (w.1.length:Int)||(w.2.2.2.length:Int) != n)=true:=by
   rw[<- Bool.not_eq_false];intro hc;simp only[Bool.or_eq_false_iff,decide_eq_false_iff_not,bne_eq_false_iff_eq] at hc;exact hgo ⟨by omega,by omega,by omega,by omega,hc.2⟩
  refine(if_pos e0).trans ?_;refine congrArg some ?_
  symm
  rw[<- Bool.not_eq_true];intro hc;unfold wireB at hc;simp only[ba,dq,beq_iff_eq] at hc;exact hgo ⟨by omega,by omega,by omega,by omega,hc.1.1.1.1.2⟩
theorem r68(d:Y31)(hd:wf y31 d)(h14:d.1.length<=14)(h8:d.2.2.length<=8)(h5:∀i,i<d.1.length->1<=(insOf d i).2.2.length/\(insOf d i).2.2.length<=5):u68 d=some (placesN d.1.length d.2.2.length (insOf d) (prtOf d)):=by
 have hi0:=hd.1.1;have hp0:=hd.2.2.1;unfold u68;have k5:∀s:List Y105,s.length<=70->u68J0 d s=some (fN (portP (prtOf d)) d.2.2.length s):=fun s0 hs=>by
  rw[u68J0];exact lF (n:=d.2.2.length) hp0 (fun i (s:List Y105)=>((i:Int),s)) (portP (prtOf d)) (fun i s=>s.length=s0.length+i) (J:=fun s=>some s) (F:=u68L5 d) (fun g i s hi hI=>by
   have e3:((i:Int)).toNat=i:=rfl;refine(if_pos (by simpa using hi)).trans ?_;rw[e3,gP ⟨oo,trivial⟩,lE,gP ⟨⟨by show s.length+1<=_; omega,by show(s.length+1)*32<=_; omega⟩,trivial⟩,gP ⟨oo,trivial⟩];rfl) (fun i s hi hI=>by unfold portP; rw[List.length_append,hI]; rfl) (fun g s _=>aE) s0 rfl
 have key:=lF (n:=d.1.length) hi0 (fun i (s:List Y105)=>(s,(i:Int))) (placesF (insOf d)) (fun i s=>s.length<=5*i) (J:=u68J0 d) (F:=u68L1 d) (fun g i s hi hI=>by
  have e3:((i:Int)).toNat=i:=rfl;have hx:=(h5 i hi).2;have hn:(insOf d i).2.2.length<=9223372036854775807:=by omega
  refine(if_pos (by simpa using hi)).trans ?_;rw[e3,gP ⟨oo,trivial⟩,lE];have inner:=lF (n:=(insOf d i).2.2.length) hn (fun k (s:List Y105)=>((k:Int),s)) (instP (insOf d i) i) (fun k z=>z.length=s.length+k) (J:=u68J2 (i:Int) g) (F:=u68L3 (i:Int) (insOf d i) g) (fun g3 k z hk hz=>by
   have e4:((k:Int)).toNat=k:=rfl;refine(if_pos (by simpa using hk)).trans ?_;rw[e4,gP ⟨oo,trivial⟩,gP ⟨oo,⟨by show z.length+1<=_; omega,by show(z.length+1)*32<=_; omega⟩,trivial⟩,lE];exact gP ⟨oo,trivial⟩) (fun k z hk hz=>by unfold instP; rw[List.length_append,hz]; rfl) (fun g3 z _=>aE) s rfl
  refine inner.trans ?_;exact gP ⟨oo,trivial⟩) (fun i s hi hI=>by
  have hx:=(h5 i hi).2;unfold placesF;rw[instP_len];have hI':s.length<=5*i:=hI;omega) (fun g s _=>aE) [] (Nat.zero_le _)
 refine key.trans (k5 _ ?_);have:=placesF_len (x:=insOf d) (ni:=d.1.length) (fun i hi=>(h5 i hi).2) d.1.length (Nat.le_refl _);omega
theorem r124(d:Y31)(hd:wf y31 d)(h14:d.1.length<=14)(h8:d.2.2.length<=8)(h5:∀i,i<d.1.length->1<=(insOf d i).2.2.length/\(insOf d i).2.2.length<=5):u124 d=some (placesN d.1.length d.2.2.length (insOf d) (prtOf d)):=by
 have hi0:=hd.1.1;have hp0:=hd.2.2.1;unfold u124;have k5:∀s:List Y179,s.length<=70->u124J0 d s=some (fN (portP (prtOf d)) d.2.2.length s):=fun s0 hs=>by
  rw[u124J0];exact lF (n:=d.2.2.length) hp0 (fun i (s:List Y179)=>((i:Int),s)) (portP (prtOf d)) (fun i s=>s.length=s0.length+i) (J:=fun s=>some s) (F:=u124L5 d) (fun g i s hi hI=>by
   have e3:((i:Int)).toNat=i:=rfl;refine(if_pos (by simpa using hi)).trans ?_;rw[e3,gP ⟨oo,oo,⟨by show s.length+1<=_; omega,by show(s.length+1)*32<=_; omega⟩,trivial⟩,lE];exact gP ⟨oo,trivial⟩) (fun i s hi hI=>by unfold portP; rw[List.length_append,hI]; rfl) (fun g s _=>aE) s0 rfl
 have key:=lF (n:=d.1.length) hi0 (fun i (s:List Y179)=>((i:Int),s)) (placesF (insOf d)) (fun i s=>s.length<=5*i) (J:=u124J0 d) (F:=u124L1 d) (fun g i s hi hI=>by
  have e3:((i:Int)).toNat=i:=rfl;have hx:=(h5 i hi).2;have hn:(insOf d i).2.2.length<=9223372036854775807:=by omega
  refine(if_pos (by simpa using hi)).trans ?_;rw[e3,gP ⟨oo,trivial⟩,lE];have inner:=lF (n:=(insOf d i).2.2.length) hn (fun k (s:List Y179)=>((k:Int),s)) (instP (insOf d i) i) (fun k z=>z.length=s.length+k) (J:=u124J2 (i:Int) g) (F:=u124L3 (i:Int) (insOf d i) g) (fun g3 k z hk hz=>by
   have e4:((k:Int)).toNat=k:=rfl;refine(if_pos (by simpa using hk)).trans ?_;rw[e4,gP ⟨oo,oo,⟨by show z.length+1<=_; omega,by show(z.length+1)*32<=_; omega⟩,trivial⟩,lE];exact gP ⟨oo,trivial⟩) (fun k z hk hz=>by unfold instP; rw[List.length_append,hz]; rfl) (fun g3 z _=>aE) s rfl
  refine inner.trans ?_;exact gP ⟨oo,trivial⟩) (fun i s hi hI=>by
  have hx:=(h5 i hi).2;unfold placesF;rw[instP_len];have hI':s.length<=5*i:=hI;omega) (fun g s _=>aE) [] (Nat.zero_le _)
 refine key.trans (k5 _ ?_);have:=placesF_len (x:=insOf d) (ni:=d.1.length) (fun i hi=>(h5 i hi).2) d.1.length (Nat.le_refl _);omega
abbrev plcs(d:Y31):List DPlace:=placesN d.1.length d.2.2.length (insOf d) (prtOf d)
abbrev plcOf(d:Y31)(i:Nat):DPlace:=(plcs d).getD i (dflt y105)
abbrev wirOf(b:Y34)(i:Nat):Y110:=b.2.2.getD i (dflt y110)
def blockOk(b:Y34):Bool:=designOk b.1 b.2.1&&decide (b.2.2.length=b.2.1.2.1.length)&&!(List.range b.2.2.length).any fun i=>!wireB (wirOf b i) (cntP (plcOf b.2.1) i (plcs b.2.1).length)
structure DF(l:List Y163)(d:Y31):Prop where
 lib:libOk l=true
 fac:DesignFacts l.length (pinsAt l) d.1.length d.2.2.length d.2.1.length (insOf d) (prtOf d)
 pin:∀i,i<d.1.length->1<=(insOf d i).2.2.length/\(insOf d i).2.2.length<=5
 plc:netsIn d.2.1.length (plcs d)
 len:(plcs d).length<=78
theorem df_of{l:List Y163}{d:Y31}(h:designOk l d=true):DF l d:=by
 obtain⟨h1,h2⟩:=design_facts h;have hp:∀i,i<d.1.length->1<=(insOf d i).2.2.length/\(insOf d i).2.2.length<=5:=fun i hi=>by
  have hin:=h2.inst i hi;have g1:=(inst_nets hin (fun y hy=>(lib_pins h1 hy).1)).1;unfold instB at hin;simp only[ba,beq_iff_eq] at hin;have:=(lib_pins h1 hin.1.1).2;exact⟨g1,by omega⟩
 have hn:=h2.net;refine⟨h1,h2,hp,portP_in hn.2 (placesF_in hn.1 d.1.length (Nat.le_refl _)) d.2.2.length (Nat.le_refl _),?_⟩;have:=placesF_len (x:=insOf d) (ni:=d.1.length) (fun i hi=>(hp i hi).2) d.1.length (Nat.le_refl _);have h14:=h2.ni14;have h8:=h2.np8;unfold plcs placesN;rw[portP_len];omega
theorem r65(b:Y34)(hw:wf y34 b)(hm:cnt y34 b<=1048576):u65 b=some (blockOk b):=by
 have hl:=hw.1;have hd:=hw.2.1;have h0:=hw.2.2.1;have mw:b.2.2.length<=1048576:=cnt_len (cS (cS hm));unfold u65 blockOk;rw[r126 b.1 b.2.1 hl hd (cF hm) (cF (cS hm)),vS,gP ⟨rfl,trivial⟩];cases hdo:designOk b.1 b.2.1 with
 | false=>exact if_pos rfl
 | true =>
   have df:=df_of hdo;by_cases hlen:b.2.2.length=b.2.1.2.1.length
   ·have e0:((b.2.2.length:Int) != (b.2.1.2.1.length:Int))=false:=by rw[hlen]; simp
    rw[e0,decide_eq_true hlen];refine(if_neg (by simp)).trans ?_;rw[gP (rep_ok mw (by decide)),Int.toNat_natCast,r68 b.2.1 hd df.fac.ni14 df.fac.np8 df.pin,vS,gP ⟨rfl,trivial⟩,lE];have hpl:(plcs b.2.1).length<=9223372036854775807:=by have:=df.len; omega
    have hin:∀i,i < (plcs b.2.1).length->inB (plcOf b.2.1 i).2.2.1 0 ((b.2.2.length:Int)-1)=true:=fun i hi=>by
     rw[hlen]; exact df.plc _ (getD_mem hi)
    have key:=lF (n:=(plcs b.2.1).length) hpl (fun i (v:List Int)=>((i:Int),v)) (sinkF (plcOf b.2.1)) (fun i v=>i<=(plcs b.2.1).length/\lowAt v b.2.2.length i) (J:=u65J0 b) (F:=u65L1 (plcs b.2.1) b) (fun g i v hi hI=>by
     have e3:((i:Int)).toNat=i:=rfl;have j2:∀v',u65J2 (i:Int) g v'=g (((i+1:Nat):Int),v'):=fun v'=>gP ⟨oo,trivial⟩;refine(if_pos (by simpa using hi)).trans ?_;rw[e3,gP ⟨oo,hi,trivial⟩,lE,j2];show(if(!(plcOf b.2.1 i).2.2.2)=true then _ else _)=g (_,sinkF (plcOf b.2.1) i v);unfold sinkF;cases hdr:(plcOf b.2.1 i).2.2.2 with
     | true=>rfl
     | false =>
       refine(if_pos rfl).trans ?_;refine(gP (inc_ok hI.2 (by have:=df.len; omega) (hin i hi))).trans ?_;rw[lE];exact j2 _) (fun i v hi hI=>⟨by omega,by
     unfold sinkF;split
     ·exact lowAt_inc hI.2 _
     ·exact lowAt_up hI.2 (by omega)⟩) (fun g v _=>aE) (List.replicate b.2.2.length 0) ⟨by omega,lowAt_rep _ _⟩
    refine key.trans ?_;obtain⟨s1,s2⟩:=sink_fold (plcOf b.2.1) b.2.2.length (plcs b.2.1).length hin;generalize fN (sinkF (plcOf b.2.1)) (plcs b.2.1).length (List.replicate b.2.2.length 0)=v at *
    rw[u65J0];have key2:=lp_all (n:=b.2.2.length) h0 (fun i=>!wireB (wirOf b i) (cntP (plcOf b.2.1) i (plcs b.2.1).length)) (some false) (e:=some true) (F:=u65L4 v b) (fun g i hi=>by
     have e3:((i:Int)).toNat=i:=rfl;refine(if_pos (by simpa using hi)).trans ?_;rw[e3,gP ⟨oo,trivial⟩,lE,s2 i hi,r127 _ _ (wf_el hi hw.2.2),vS,gP ⟨oo,by omega,rfl,trivial⟩,gP ⟨oo,trivial⟩]) (fun g=>aE)
    refine key2.trans ?_;cases(List.range b.2.2.length).any fun i=>!wireB (wirOf b i) (cntP (plcOf b.2.1) i (plcs b.2.1).length) <;> rfl
   ·have e0:((b.2.2.length:Int) != (b.2.1.2.1.length:Int))=true:=by simp; omega
    rw[e0,decide_eq_false hlen];exact if_pos rfl
theorem r71(d:Y31)(hd:wf y31 d){l:List Y163}(df:DF l d)(t:Int):u71 d t=some (fN (sinkL (plcOf d) t) (plcs d).length []):=by
 have hl:=df.len;unfold u71;rw[r124 d hd df.fac.ni14 df.fac.np8 df.pin,vS,gP ⟨rfl,trivial⟩,lE];exact lF (n:=(plcs d).length) (by omega) (fun i (s:List Int)=>((i:Int),s)) (sinkL (plcOf d) t) (fun i s=>s.length<=i) (J:=fun s=>some s) (F:=u71L1 (plcs d) t) (fun g i s hi hI=>by
  have e3:((i:Int)).toNat=i:=rfl;have j2:∀s',u71J2 (i:Int) g s'=g (((i+1:Nat):Int),s'):=fun v'=>gP ⟨oo,trivial⟩;refine(if_pos (by simpa using hi)).trans ?_;have hI':s.length<=i:=hI;rw[e3,gP ⟨oo,hi,fun _=>oo,fun _=>hi,trivial⟩,gP ⟨⟨by show s.length+1<=_; omega,by show(s.length+1)*8<=_; omega⟩,trivial⟩,j2,j2];show _=g (_,sinkL (plcOf d) t i s);unfold sinkL;show(if((plcOf d i).2.2.1==t&&!(plcOf d i).2.2.2)=true then _ else _)=_;split <;> rfl) (fun i s hi hI=>by
  have hI':s.length<=i:=hI;unfold sinkL;split
  ·rw[List.length_append]; show s.length+1<=i+1; omega
  ·omega) (fun g s _=>aE) [] (Nat.le_refl _)
theorem r23(b:Y34)(hw:wf y34 b)(hm:cnt y34 b<=1048576):u23 b=some (blockOk b):=by
 have hl:=hw.1;have hd:=hw.2.1;have h0:=hw.2.2.1;unfold u23 blockOk;rw[r69 b.1 b.2.1 hl hd (cF (cS hm)),vS,gP ⟨rfl,trivial⟩];cases hdo:designOk b.1 b.2.1 with
 | false=>exact if_pos rfl
 | true =>
   have df:=df_of hdo;by_cases hlen:b.2.2.length=b.2.1.2.1.length
   ·have e0:((b.2.2.length:Int) != (b.2.1.2.1.length:Int))=false:=by rw[hlen]; simp
    rw[e0,decide_eq_true hlen];refine(if_neg (by simp)).trans ?_;have key2:=lp_all (n:=b.2.2.length) h0 (fun i=>!wireB (wirOf b i) (cntP (plcOf b.2.1) i (plcs b.2.1).length)) (some false) (e:=some true) (F:=u23L1 b) (fun g i hi=>by
     have e3:((i:Int)).toNat=i:=rfl;refine(if_pos (by simpa using hi)).trans ?_;rw[e3,r71 b.2.1 hd df,vS,sinkL_len,r70 _ _ (wf_el hi hw.2.2),gP ⟨oo,rfl,rfl,trivial⟩,lE,sinkL_len,r70 _ _ (wf_el hi hw.2.2),vS,gP ⟨oo,trivial⟩]) (fun g=>aE)
    refine key2.trans ?_;cases(List.range b.2.2.length).any fun i=>!wireB (wirOf b i) (cntP (plcOf b.2.1) i (plcs b.2.1).length) <;> rfl
   ·have e0:((b.2.2.length:Int) != (b.2.1.2.1.length:Int))=true:=by simp; omega
    rw[e0,decide_eq_false hlen];exact if_pos rfl
theorem block_design{b:Y34}(h:blockOk b=true):designOk b.1 b.2.1=true/\b.2.2.length=b.2.1.2.1.length/\∀i,i<b.2.2.length->wireB (wirOf b i) (cntP (plcOf b.2.1) i (plcs b.2.1).length)=true:=by
 unfold blockOk at h;rw[ba,ba,dq] at h;refine⟨h.1.1,h.1.2,fun i hi=>?_⟩;have:=not_any.1 h.2 i hi
 rwa [Bool.not_eq_false'] at this
abbrev sinksV(d:Y31)(t:Int):List Int:=fN (sinkL (plcOf d) t) (plcs d).length []
def capV(l:List Y163)(d:Y31)(p:DPlace):Int:=if p.1<0 then 0 else((l.getD (insOf d p.1.toNat).2.1.toNat (dflt y163)).2.2.1.getD p.2.1.toNat (dflt y217)).2.2.1
theorem plc_mem{d:Y31}{i:Nat}(h:i < (plcs d).length):plcOf d i∈plcs d:=getD_mem h
theorem lib_cell'{l:List Y163}(h:libOk l=true){i:Nat}(hi:i<l.length):cellOk isArcS (celOf l i)=true:=by
 have h:libB _ _ _=true:=h;unfold libB at h;rw[ba] at h;have:=not_any.1 h.1 i hi;rw[Bool.or_eq_false_iff,Bool.not_eq_false'] at this;exact this.1
theorem plc_pin{l:List Y163}{d:Y31}(df:DF l d){p:DPlace}(hp:p∈plcs d):(p.1 = -1/\0<=p.2.1/\p.2.1.toNat<d.2.2.length) ∨
  (0<=p.1/\p.1.toNat<d.1.length/\0<=(insOf d p.1.toNat).2.1/\(insOf d p.1.toNat).2.1.toNat<l.length/\0<=p.2.1/\p.2.1.toNat < (l.getD (insOf d p.1.toNat).2.1.toNat (dflt y163)).2.2.1.length):=by
 rcases places_kind d.1.length d.2.2.length (insOf d) (prtOf d) p hp with h | ⟨h1,h2,h3,h4⟩
 ·exact .inl h
 ·have hin:=df.fac.inst p.1.toNat h2;unfold instB at hin;simp only[ba,beq_iff_eq] at hin;have h5:=inB_iff.1 hin.1.1;have h6:=hin.1.2;refine .inr ⟨h1,h2,h5.1,by omega,h3,?_⟩;have h6:((insOf d p.1.toNat).2.2.length:Int)=((l.getD (insOf d p.1.toNat).2.1.toNat (dflt y163)).2.2.1.length:Int):=h6;omega
theorem pin_cap{l:List Y163}{d:Y31}(df:DF l d){p:DPlace}(hp:p∈plcs d):0<=capV l d p/\capV l d p<=500:=by
 unfold capV;split
 ·exact⟨by decide,by decide⟩
 ·rename_i hn;rcases plc_pin df hp with h | ⟨h1,h2,h3,h4,h5,h6⟩
  ·omega
  ·have hc:cellB isArcS _ _ _ _ _ _ _ _ _=true:=lib_cell' df.lib h4;unfold cellB pinsOk at hc;simp only[ba] at hc;have:=not_any.1 hc.1.1.1.1.2.2 p.2.1.toNat h6;rw[Bool.not_eq_false'] at this;unfold pinB at this;rw[ba] at this;exact inB_iff.1 this.1
theorem sinksV_at{d:Y31}{t:Int}{k:Nat}(h:k < (sinksV d t).length):0<=(sinksV d t).getD k 0/\((sinksV d t).getD k 0).toNat < (plcs d).length:=by
 obtain⟨j,h1,h2,_⟩:=sinkL_in (plcOf d) t (plcs d).length _ (getD_mem (d:=0) h);rw[h1];exact⟨Int.natCast_nonneg _,by simpa using h2⟩
structure NetOk(b:Y34)(i:Nat):Prop where
 df:DF b.1 b.2.1
 lt:i<b.2.2.length
 wf:WireFacts (wirOf b i) ((sinksV b.2.1 i).length:Int)
theorem net_ok{b:Y34}(h:blockOk b=true){i:Nat}(hi:i<b.2.2.length):NetOk b i:=by
 obtain⟨h1,h2,h3⟩:=block_design h;refine⟨df_of h1,hi,?_⟩;rw[sinkL_len];exact wire_facts (h3 i hi)
def nodeS(b:Y34)(i k:Nat):Int:=(wirOf b i).2.2.2.getD k 0
def capS(b:Y34)(i k:Nat):Int:=capV b.1 b.2.1 (plcOf b.2.1 ((sinksV b.2.1 i).getD k 0).toNat)
def parS(b:Y34)(i k:Nat):Int:=(wirOf b i).1.getD k 0
def resS(b:Y34)(i k:Nat):Int:=(wirOf b i).2.1.getD k 0
def loadsV(b:Y34)(i:Nat):List Int:=loadsD (wirOf b i).2.2.1 (wirOf b i).1.length (sinksV b.2.1 i).length (nodeS b i) (capS b i) (parS b i)
theorem NetOk.sn{b:Y34}{i:Nat}(h:NetOk b i):(wirOf b i).2.2.2.length=(sinksV b.2.1 i).length:=by have:=h.wf.snk; omega
theorem NetOk.s78{b:Y34}{i:Nat}(h:NetOk b i):(sinksV b.2.1 i).length<=78:=by
 have h1:=h.df.len;have h2:=cntP_le (plcOf b.2.1) i (plcs b.2.1).length;have h3:=sinkL_len (plcOf b.2.1) i (plcs b.2.1).length;have h4:((sinksV b.2.1 i).length:Int)=cntP (plcOf b.2.1) i (plcs b.2.1).length:=h3;omega
theorem NetOk.capIn{b:Y34}{i:Nat}(h:NetOk b i){k:Nat}(hk:k < (sinksV b.2.1 i).length):0<=nodeS b i k/\(nodeS b i k).toNat < (wirOf b i).1.length/\0<=capS b i k/\capS b i k<=500:=by
 have h1:=h.wf.snkIn k (by rw[h.sn]; exact hk);have h2:=pin_cap h.df (plc_mem (sinksV_at hk).2);exact⟨h1.1,h1.2,h2.1,h2.2⟩
theorem NetOk.low{b:Y34}{i:Nat}(h:NetOk b i):∀m,m<=(sinksV b.2.1 i).length->Low (fN (capF (nodeS b i) (capS b i)) m (wirOf b i).2.2.1) (wirOf b i).1.length (500*((wirOf b i).1.length:Int)+500*(m:Int)):=fun m hm=>capF_low (low_all h.wf.cap h.wf.capOk) m (fun k hk=>h.capIn (by omega))
theorem NetOk.pull{b:Y34}{i:Nat}(h:NetOk b i):∀k,k<=(wirOf b i).1.length-1->Pull (fN (pullF (parS b i) (wirOf b i).1.length) k (fN (capF (nodeS b i) (capS b i)) (sinksV b.2.1 i).length (wirOf b i).2.2.1)) (wirOf b i).1.length k 43000:=by
 have h1:=h.low _ (Nat.le_refl _);have h2:=h.s78;have h3:=h.wf.n8;have h4:Low (fN (capF (nodeS b i) (capS b i)) (sinksV b.2.1 i).length (wirOf b i).2.2.1) (wirOf b i).1.length 43000:=⟨h1.len,h1.pos,by have:=h1.sum; omega⟩;exact pull_fold h4 (by decide) (fun k h0 hk=>h.wf.par k h0 hk)
theorem NetOk.loads{b:Y34}{i:Nat}(h:NetOk b i):(loadsV b i).length=(wirOf b i).1.length/\∀j,0<=(loadsV b i).getD j 0/\(loadsV b i).getD j 0<=43000:=by
 have:=h.pull _ (Nat.le_refl _);exact⟨this.len,fun j=>⟨this.pos j,this.bd j⟩⟩
abbrev celI(b:Y34)(i:Nat):Y163:=b.1.getD (insOf b.2.1 i).2.1.toNat (dflt y163)
theorem inst_cell'{b:Y34}(df:DF b.1 b.2.1){i:Nat}(hi:i<b.2.1.1.length):ix (insOf b.2.1 i).2.1 b.1.length/\cellOk isArcS (celI b i)=true/\(insOf b.2.1 i).2.2.length=(celI b i).2.2.1.length:=by
 have:=df.fac.inst i hi;unfold instB at this;rw[ba,ba,beq_iff_eq] at this;have h1:=inB_iff.1 this.1.1;have h2:=this.1.2;have h3:((insOf b.2.1 i).2.2.length:Int)=((celI b i).2.2.1.length:Int):=h2;exact⟨⟨h1.1,by omega⟩,lib_cell' df.lib (by omega),by omega⟩
theorem cell_arcs{c:Y163}(h:cellOk isArcS c=true):2<=c.2.2.1.length/\c.2.2.1.length<=5/\c.2.2.2.1.length<=8/\∀j,j<c.2.2.2.1.length->0<=(arcOf c j).2.1/\(arcOf c j).2.1 < (c.2.2.1.length:Int)-1/\0<=(arcOf c j).2.2.1/\(arcOf c j).2.2.1 < (c.2.2.1.length:Int):=by
 have h:cellB isArcS _ _ _ _ _ _ _ _ _=true:=h;unfold cellB arcsB at h;simp only[ba,dq] at h;have hp:=pins_last h.1.1.1.1.2;refine⟨hp.1,hp.2.1,h.1.1.1.2.1,fun j hj=>?_⟩;have:=not_any.1 h.1.1.1.2.2 j hj;rw[Bool.or_eq_false_iff,Bool.not_eq_false'] at this;have ha:=this.1;unfold isArcS at ha;rw[ba,ba] at ha;have h1:=inB_iff.1 ha.1.1;have h2:=inB_iff.1 ha.1.2;omega
theorem r184(l:List Y163)(d:Y31)(df:DF l d){p:DPlace}(hp:p∈plcs d):u184 d l p=some (capV l d p):=by
 unfold u184 capV;rcases plc_pin df hp with h | ⟨h1,h2,h3,h4,h5,h6⟩
 ·rw[if_pos (by rw[h.1]; decide),if_pos (by omega)]
 ·refine(if_neg (by simp; omega)).trans ?_;rw[if_neg (by omega),gP ⟨oo,⟨h3,by show(insOf d p.1.toNat).2.1<_; omega⟩,⟨h5,by show p.2.1 < (((l.getD (insOf d p.1.toNat).2.1.toNat (dflt y163)).2.2.1.length:Nat):Int); omega⟩,trivial⟩];rfl
theorem r183(d:Y31)(hd:wf y31 d){l:List Y163}(df:DF l d)(t:Int):u183 d t=some (sinksV d t):=by
 have hl:=df.len;unfold u183;rw[r68 d hd df.fac.ni14 df.fac.np8 df.pin,vS,gP ⟨rfl,trivial⟩,lE];exact lF (n:=(plcs d).length) (by omega) (fun i (s:List Int)=>(s,(i:Int))) (sinkL (plcOf d) t) (fun i s=>s.length<=i) (J:=fun s=>some s) (F:=u183L1 t (plcs d)) (fun g i s hi hI=>by
  have e3:((i:Int)).toNat=i:=rfl;have j2:∀s',u183J2 (i:Int) g s'=g (s',((i+1:Nat):Int)):=fun v'=>gP ⟨oo,trivial⟩;refine(if_pos (by simpa using hi)).trans ?_;have hI':s.length<=i:=hI;rw[e3,gP ⟨oo,hi,trivial⟩,lE,gP ⟨⟨by show s.length+1<=_; omega,by show(s.length+1)*8<=_; omega⟩,trivial⟩,j2,j2];show _=g (sinkL (plcOf d) t i s,_);unfold sinkL;show(if((plcOf d i).2.2.1==t&&!(plcOf d i).2.2.2)=true then _ else _)=_;split <;> rfl) (fun i s hi hI=>by
  have hI':s.length<=i:=hI;unfold sinkL;split
  ·rw[List.length_append]; show s.length+1<=i+1; omega
  ·omega) (fun g s _=>aE) [] (Nat.le_refl _)
theorem r138(xs:List Int)(h:xs.length<=1048576):u138 xs=some xs:=gP ⟨oo,trivial⟩
theorem r130(b:Y34)(hw:wf y34 b){i:Nat}(h:NetOk b i):u130 b (i:Int)=some (loadsV b i):=by
 have hd:=hw.2.1;have df:=h.df;have hb:=hw.2.2.1;have hi:=h.lt;have n1:=h.wf.n1;have n8:=h.wf.n8;have hsn:=h.sn;have hs:=h.s78;have hcl:=h.wf.cap;unfold u130;have e3:((i:Int)).toNat=i:=rfl;rw[gP ⟨oo,trivial⟩,lE,e3,r138 _ (by show(wirOf b i).2.2.1.length<=_; omega),vS,gP ⟨rfl,trivial⟩,lE,r68 b.2.1 hd df.fac.ni14 df.fac.np8 df.pin,vS,gP ⟨rfl,trivial⟩,lE,r183 b.2.1 hd df,vS,gP ⟨rfl,trivial⟩,lE];have key:=lF (n:=(sinksV b.2.1 i).length) (by omega) (fun k (s:List Int)=>((k:Int),s)) (capF (nodeS b i) (capS b i)) (fun k v=>Low v (wirOf b i).1.length (500*((wirOf b i).1.length:Int)+500*(k:Int))) (J:=u130J0 (wirOf b i)) (F:=u130L1 b (plcs b.2.1) (sinksV b.2.1 i) (wirOf b i)) (fun g k v hk hI=>by
  have e4:((k:Int)).toNat=k:=rfl;obtain⟨c1,c2,c3,c4⟩:=h.capIn hk;obtain⟨c5,c6⟩:=sinksV_at hk;have hv:=hI.bd (by omega) (nodeS b i k).toNat;have c1':0<=(wirOf b i).2.2.2.getD k 0:=c1;have c2':((wirOf b i).2.2.2.getD k 0).toNat<v.length:=by rw[hI.len]; exact c2
  refine(if_pos (by simpa using hk)).trans ?_;rw[e4,gP ⟨oo,hk,trivial⟩,r184 b.1 b.2.1 df (plc_mem c6),vS];rw[gP ⟨oo,⟨c1',by omega⟩,c2',⟨c5,by omega⟩,c6,rfl,⟨by show _<=v.getD (nodeS b i k).toNat 0+capS b i k; omega,by show v.getD (nodeS b i k).toNat 0+capS b i k<=_; omega⟩,⟨c1',by omega⟩,c2',trivial⟩,lE];exact gP ⟨oo,trivial⟩) (fun k v hk hI=>by
  obtain⟨c1,c2,c3,c4⟩:=h.capIn hk;have:=hI.add c2 c3;refine⟨this.len,this.pos,Int.le_trans this.sum ?_⟩;rw[Int.natCast_add,Int.mul_add];simp only[Int.natCast_one];omega) (fun g s _=>aE) (wirOf b i).2.2.1 (by
  have:=h.low 0 (Nat.zero_le _);exact this)
 refine key.trans ?_;have hl0:=(h.low _ (Nat.le_refl _)).len;have hp0:=h.pull 0 (Nat.zero_le _);have hL:loadsV b i=fN (pullF (parS b i) (wirOf b i).1.length) ((wirOf b i).1.length-1) (fN (capF (nodeS b i) (capS b i)) (sinksV b.2.1 i).length (wirOf b i).2.2.1):=rfl;rw[hL];have hpl:=h.pull;generalize fN (capF (nodeS b i) (capS b i)) (sinksV b.2.1 i).length (wirOf b i).2.2.1=v0 at hl0 hp0 hpl ⊢;rw[u130J0,hl0,gP ⟨oo,trivial⟩];have e5:(((wirOf b i).1.length:Int)-1,v0)=(fun(k:Nat) (s:List Int)=>(((wirOf b i).1.length:Int)-1-(k:Int),s)) 0 v0:=by simp
 rw[e5];exact lF (n:=(wirOf b i).1.length-1) (by omega) (fun(k:Nat) (s:List Int)=>(((wirOf b i).1.length:Int)-1-(k:Int),s)) (pullF (parS b i) (wirOf b i).1.length) (fun k v=>Pull v (wirOf b i).1.length k 43000) (J:=fun s=>some s) (F:=u130L3 (wirOf b i)) (fun g k v hk hI=>by
  have hp:=h.wf.par ((wirOf b i).1.length-1-k) (by omega) (by omega);have hp':0<=(wirOf b i).1.getD ((wirOf b i).1.length-1-k) 0/\((wirOf b i).1.getD ((wirOf b i).1.length-1-k) 0).toNat < (wirOf b i).1.length-1-k:=hp;have hlen:=hI.len;have e6:((wirOf b i).1.length:Int)-1-(k:Int)=(((wirOf b i).1.length-1-k:Nat):Int):=by omega
  have e7:((((wirOf b i).1.length-1-k:Nat):Int)).toNat=(wirOf b i).1.length-1-k:=rfl;have b1:=hI.pos ((wirOf b i).1.getD ((wirOf b i).1.length-1-k) 0).toNat;have b2:=hI.bd ((wirOf b i).1.getD ((wirOf b i).1.length-1-k) 0).toNat;have b3:=hI.pos ((wirOf b i).1.length-1-k);have b4:=hI.bd ((wirOf b i).1.length-1-k);have e8:((wirOf b i).1.length:Int)-1-((k+1:Nat):Int)=(((wirOf b i).1.length-1-k:Nat):Int)-1:=by omega
  show u130L3 (wirOf b i) g (((wirOf b i).1.length:Int)-1-(k:Int),v)=g (((wirOf b i).1.length:Int)-1-((k+1:Nat):Int),pullF (parS b i) (wirOf b i).1.length k v);rw[e8,e6];refine(if_pos (decide_eq_true (by omega))).trans ?_;rw[e7,gP ⟨oo,⟨hp'.1,by omega⟩,by omega,oo,by omega,oo,⟨hp'.1,by omega⟩,by omega,trivial⟩,lE];exact gP ⟨oo,trivial⟩) (fun k v hk hI=>pull_step hI hk (h.wf.par _ (by omega) (by omega))) (fun g s _=>by
  have e9:((wirOf b i).1.length:Int)-1-(((wirOf b i).1.length-1:Nat):Int)=0:=by omega
  show u130L3 (wirOf b i) g (((wirOf b i).1.length:Int)-1-(((wirOf b i).1.length-1:Nat):Int),s)=some s;rw[e9];have:u130L3 (wirOf b i) g (0,s)=u130J2 s:=by
   rw[u130L3];exact if_neg (by decide)
  exact this.trans rfl) v0 hp0
def delaysV(b:Y34)(i:Nat):List Int:=delaysD (wirOf b i).1.length (parS b i) (resS b i) (fun k=>(loadsV b i).getD k 0)
def exactV(b:Y34)(i:Nat):List Int:=fN (exF (delaysV b i) (nodeS b i)) (sinksV b.2.1 i).length []
theorem NetOk.del{b:Y34}{i:Nat}(h:NetOk b i):∀k,k<=(wirOf b i).1.length-1->(fN (delF (parS b i) (resS b i) (fun k=>(loadsV b i).getD k 0)) k [0]).length=k+1/\∀j,0<=(fN (delF (parS b i) (resS b i) (fun k=>(loadsV b i).getD k 0)) k [0]).getD j 0/\(fN (delF (parS b i) (resS b i) (fun k=>(loadsV b i).getD k 0)) k [0]).getD j 0<=1000*43000*(k:Int) :=
 delF_in (n:=(wirOf b i).1.length) (fun k hk=>h.wf.resIn k hk) (fun k _=>h.loads.2 k) (by decide)
theorem NetOk.delays{b:Y34}{i:Nat}(h:NetOk b i):(delaysV b i).length=(wirOf b i).1.length/\∀j,0<=(delaysV b i).getD j 0/\(delaysV b i).getD j 0<=301000000:=by
 have h1:=h.del _ (Nat.le_refl _);have n1:=h.wf.n1;have n8:=h.wf.n8;refine⟨h1.1.trans (by omega),fun j=>⟨(h1.2 j).1,Int.le_trans (h1.2 j).2 (by omega)⟩⟩
theorem r185(b:Y34)(hw:wf y34 b){i:Nat}(h:NetOk b i):u185 b (i:Int)=some (delaysV b i):=by
 have hi:=h.lt;have hb:=hw.2.2.1;have n1:=h.wf.n1;have n8:=h.wf.n8;have hr:=h.wf.res;obtain⟨ll,lb⟩:=h.loads;have e3:((i:Int)).toNat=i:=rfl;unfold u185;rw[r130 b hw h,vS,gP ⟨oo,rfl,trivial⟩,lE,e3];show gd ((0<=((loadsV b i).length:Int)/\((loadsV b i).length:Int)=((loadsV b i).length:Int)/\((loadsV b i).length:Int).toNat*8<=281474976710656/\((loadsV b i).length:Int)<=9223372036854775807)/\True) (lp (u185L1 (wirOf b i) (loadsV b i)) (1,List.replicate ((loadsV b i).length:Int).toNat 0))=_;rw[ll,gP ⟨⟨by omega,rfl,by omega,by omega⟩,trivial⟩];have e5:((1:Int),List.replicate ((wirOf b i).1.length:Int).toNat (0:Int))=(fun(k:Nat) (s:List Int)=>(((k+1:Nat):Int),s++List.replicate ((wirOf b i).1.length-1-k) 0)) 0 [0]:=by
  show((1:Int),List.replicate (wirOf b i).1.length (0:Int))=_;have:(wirOf b i).1.length=((wirOf b i).1.length-1)+1:=by omega
  rw[this,List.replicate_succ];rfl
 rw[e5];refine(lF (n:=(wirOf b i).1.length-1) (by omega) (fun(k:Nat) (s:List Int)=>(((k+1:Nat):Int),s++List.replicate ((wirOf b i).1.length-1-k) 0)) (delF (parS b i) (resS b i) (fun k=>(loadsV b i).getD k 0)) (fun k s=>s.length=k+1/\∀j,0<=s.getD j 0/\s.getD j 0<=1000*43000*(k:Int)) (J:=fun s=>some s) (F:=u185L1 (wirOf b i) (loadsV b i)) (fun g k s hk hI=>?_) (fun k s hk hI=>?_) (fun g s hI=>?_) [0] ?_)
 ·obtain⟨hl,hs⟩:=hI;have hp:=h.wf.par (k+1) (by omega) (by omega);have hfl:(s++List.replicate ((wirOf b i).1.length-1-k) (0:Int)).length=(wirOf b i).1.length:=by rw[List.length_append,List.length_replicate]; omega
  have e4:(((k+1:Nat):Int)).toNat=k+1:=rfl;have hg:=fill_get (n:=(wirOf b i).1.length) hl hp.2;have r1:=h.wf.resIn (k+1) (by omega);have l1:=lb (k+1);have hm:=mul_le r1.1 r1.2 l1.1 l1.2;have hs1:=hs ((wirOf b i).1.getD (k+1) 0).toNat;show u185L1 (wirOf b i) (loadsV b i) g (((k+1:Nat):Int),s++List.replicate ((wirOf b i).1.length-1-k) 0)=g (((k+1+1:Nat):Int),delF (parS b i) (resS b i) (fun k=>(loadsV b i).getD k 0) k s++List.replicate ((wirOf b i).1.length-1-(k+1)) 0);have e6:delF (parS b i) (resS b i) (fun k=>(loadsV b i).getD k 0) k s++List.replicate ((wirOf b i).1.length-1-(k+1)) 0=(s++List.replicate ((wirOf b i).1.length-1-k) 0).set (k+1) (s.getD ((wirOf b i).1.getD (k+1) 0).toNat 0+(wirOf b i).2.1.getD (k+1) 0*(loadsV b i).getD (k+1) 0):=(fill_one hl (by omega)).symm;rw[e6,<- hg];generalize s++List.replicate ((wirOf b i).1.length-1-k) (0:Int)=v at hfl hg ⊢;refine(if_pos (by simp; omega)).trans ?_;rw[e4,gP ⟨oo,⟨hp.1,by omega⟩,by omega,oo,oo,by omega,oo,oo,oo,by omega,trivial⟩,lE];exact gP ⟨oo,trivial⟩
 ·obtain⟨hl,hs⟩:=hI;have r1:=h.wf.resIn (k+1) (by omega);have l1:=lb (k+1);have hm:=mul_le r1.1 r1.2 l1.1 l1.2;have hs1:=hs (parS b i (k+1)).toNat;unfold delF;refine⟨by rw[List.length_append,hl]; rfl,fun j=>?_⟩;have hm:0<=resS b i (k+1)*(loadsV b i).getD (k+1) 0/\resS b i (k+1)*(loadsV b i).getD (k+1) 0<=1000*43000:=hm;rcases Nat.lt_or_ge j s.length with hj | hj
  ·have:=hs j;rw[getD_left hj]; omega
  ·rw[getD_right hj];cases hjs:j-s.length with
   | zero=>simp only[List.getD_cons_zero]; omega
   | succ q=>simp only[List.getD_cons_succ,List.getD_nil]; omega
 ·have e9:(wirOf b i).1.length-1-((wirOf b i).1.length-1)=0:=by omega
  show u185L1 (wirOf b i) (loadsV b i) g ((((wirOf b i).1.length-1+1:Nat):Int),s++List.replicate ((wirOf b i).1.length-1-((wirOf b i).1.length-1)) 0)=some s;rw[e9,List.replicate_zero,List.append_nil,<- hI.1];exact aE
 ·exact h.del 0 (Nat.zero_le _)
theorem r131(b:Y34)(hw:wf y34 b){i:Nat}(h:NetOk b i):u131 b (i:Int)=some (exactV b i):=by
 have hi:=h.lt;have hb:=hw.2.2.1;have hsn:=h.sn;have hs:=h.s78;obtain⟨dl,db⟩:=h.delays;have e3:((i:Int)).toNat=i:=rfl;unfold u131;rw[r185 b hw h,vS,gP ⟨rfl,trivial⟩,lE,gP ⟨oo,trivial⟩,lE,e3];unfold exactV;rw[<- hsn];exact lF (n:=(wirOf b i).2.2.2.length) (by omega) (fun(k:Nat) (s:List Int)=>(s,(k:Int))) (exF (delaysV b i) (nodeS b i)) (fun k s=>s.length=k) (J:=fun s=>some s) (F:=u131L1 (delaysV b i) (wirOf b i)) (fun g k s hk hI=>by
  have e4:((k:Int)).toNat=k:=rfl;have h1:=h.wf.snkIn k hk;have hI:s.length=k:=hI;refine(if_pos (by simpa using hk)).trans ?_;rw[e4,gP ⟨oo,trivial⟩,gP ⟨⟨h1.1,by omega⟩,by omega,⟨by show s.length+1<=_; omega,by show(s.length+1)*8<=_; omega⟩,trivial⟩,lE];exact gP ⟨oo,trivial⟩) (fun k s hk hI=>by
  have hI:s.length=k:=hI;unfold exF;rw[List.length_append,hI]; rfl) (fun g s _=>aE) [] rfl
theorem r182(a:Y143):u182 a=some (transV a.1 a.2.2.2.1):=by
 unfold u182 transV;split
 ·rfl
 split
 ·rfl
 split
 ·rfl
 split
 ·rfl
 split
 ·rfl
 ·rfl
theorem r128(b:Y34)(df:DF b.1 b.2.1){i:Nat}(hi:i<b.2.1.1.length)(f:Int)(h0:0<=f)(h1:f<=1000):u128 b (insOf b.2.1 i) f=some (cellLinksD f (arcOf (celI b i)) (celI b i).2.2.2.1.length):=by
 obtain⟨x1,x2,x3⟩:=inst_cell' df hi;obtain⟨c1,c2,c3,c4⟩:=cell_arcs x2;unfold u128;rw[gP ⟨x1,trivial⟩,lE];show lp (u128L1 f (celI b i)) ([],0)=_;generalize celI b i=c at c1 c2 c3 c4;refine lF (n:=c.2.2.2.1.length) (by omega) (fun(j:Nat) (s:List DLink)=>(s,(j:Int))) (carcF f (arcOf c)) (fun j s=>s.length<=4*j) (J:=fun s=>some s) (F:=u128L1 f c) (fun g j s hj hI=>?_) (fun j s hj hI=>?_) (fun g s _=>aE) [] (Nat.le_refl _)
 ·have e4:((j:Int)).toNat=j:=rfl;obtain⟨a1,a2,a3,a4⟩:=c4 j hj;have hI:s.length<=4*j:=hI;refine(if_pos (by simpa using hj)).trans ?_;rw[e4,gP ⟨oo,trivial⟩,lE,r182,vS,gP ⟨rfl,trivial⟩,lE];show lp (u128L3 f (arcOf c j) (j:Int) (transV (arcOf c j).1 (arcOf c j).2.2.2.1) g) (0,s)=g (carcF f (arcOf c) j s,_);obtain⟨t1,t2⟩:=transV_ok (arcOf c j).1 (arcOf c j).2.2.2.1;have ec:carcF f (arcOf c) j s=fN (clinkF f (arcOf c j).2.1 (arcOf c j).2.2.1 (j:Int) (transV (arcOf c j).1 (arcOf c j).2.2.2.1)) (transV (arcOf c j).1 (arcOf c j).2.2.2.1).length s:=rfl;rw[ec];generalize transV (arcOf c j).1 (arcOf c j).2.2.2.1=tr at t1 t2;generalize arcOf c j=a at a1 a2 a3 a4;refine(lF (n:=tr.length) (by omega) (fun(k:Nat) (s:List DLink)=>((k:Int),s)) (clinkF f a.2.1 a.2.2.1 (j:Int) tr) (fun k z=>z.length=s.length+k) (J:=fun z=>u128J2 (j:Int) g z) (F:=u128L3 f a (j:Int) tr g) (fun g3 k z hk hz=>?_) (fun k z hk hz=>?_) (fun g3 z _=>aE) s rfl).trans ?_
  ·have e5:((k:Int)).toNat=k:=rfl;have ht:=t2 _ (getD_mem (d:=((0,0):Int×Int)) hk);have hz:z.length=s.length+k:=hz;refine(if_pos (by simpa using hk)).trans ?_;rw[e5,gP ⟨oo,hk,trivial⟩,lE];show gd _ _=_;rw[gP ⟨oo,oo,oo,⟨by show _<=2*(f+a.2.1)+(tr.getD k (0,0)).1; omega,by show 2*(f+a.2.1)+(tr.getD k (0,0)).1<=_; omega⟩,oo,oo,oo,⟨by show _<=2*(f+a.2.2.1)+(tr.getD k (0,0)).2; omega,by show 2*(f+a.2.2.1)+(tr.getD k (0,0)).2<=_; omega⟩,⟨by show z.length+1<=_; omega,by show(z.length+1)*32<=_; omega⟩,trivial⟩,lE];exact gP ⟨oo,trivial⟩
  ·have hz:z.length=s.length+k:=hz;unfold clinkF;rw[List.length_append,hz]; rfl
  ·exact gP ⟨oo,trivial⟩
 ·have hI:s.length<=4*j:=hI;have:=carcF_len f (arcOf c) j s;show _<=4*(j+1);omega
def instLV(b:Y34)(i:Nat)(s:Int×List DLink):Int×List DLink:=instLF (fun i=>(insOf b.2.1 i).2.2.length) (fun i=>arcOf (celI b i)) (fun i=>(celI b i).2.2.2.1.length) i s
def drvV(b:Y34)(i:Nat):Int:=drvN (plcOf b.2.1) i (plcs b.2.1).length
def clinksV(b:Y34):List DLink:=(fN (instLV b) b.2.1.1.length (0,[])).2
def lV(b:Y34):List DLink:=fN (netLF (drvV b) (fun i=>sinksV b.2.1 i)) b.2.2.length (clinksV b)
def loadsL(b:Y34):List Int:=fN (appF fun i=>(loadsV b i).getD 0 0) b.2.2.length []
def delaysL(b:Y34):List (List Int):=fN (appF fun i=>exactV b i) b.2.2.length []
def viewV(b:Y34):Y100:=(b,plcs b.2.1,lV b,loadsL b,delaysL b,[])
theorem instLV_in{b:Y34}(df:DF b.1 b.2.1)(m:Nat)(hm:m<=b.2.1.1.length):0<=(fN (instLV b) m (0,[])).1/\(fN (instLV b) m (0,[])).1<=5*(m:Int)/\(fN (instLV b) m (0,[])).2.length<=32*m :=
 instLF_in (n:=b.2.1.1.length) (fun i hi=>⟨(df.pin i hi).2,(cell_arcs (inst_cell' df hi).2.1).2.2.1⟩) m hm
def stepV(b:Y34)(i:Nat)(s:List Int×List (List Int)×List DLink):List Int×List (List Int)×List DLink:=(s.1++[(loadsV b i).getD 0 0],s.2.1++[exactV b i],netLF (drvV b) (fun i=>sinksV b.2.1 i) i s.2.2)
theorem stepV_fold(b:Y34)(z:List DLink):∀m,fN (stepV b) m ([],[],z)=(fN (appF fun i=>(loadsV b i).getD 0 0) m [],fN (appF fun i=>exactV b i) m [],fN (netLF (drvV b) (fun i=>sinksV b.2.1 i)) m z)
 | 0=>rfl
 | m+1=>by
   show stepV b m (fN (stepV b) m ([],[],z))=_;rw[stepV_fold b z m]; rfl
theorem r66(b:Y34)(hw:wf y34 b)(hb:blockOk b=true):u66 b=some (viewV b):=by
 obtain⟨hd0,hlen,hwire⟩:=block_design hb;have df:=df_of hd0;have hd:=hw.2.1;have h14:=df.fac.ni14;have h30:=df.fac.nn30;have hpl:=df.len;have hin:b.2.1.1.length<=9223372036854775807:=by omega
 have eN:∀l,u129 l=some (l.length:Int):=fun _=>rfl;unfold u66;rw[r68 b.2.1 hd df.fac.ni14 df.fac.np8 df.pin,vS,gP ⟨rfl,trivial⟩,lE];refine(lF (n:=b.2.1.1.length) hin (fun(i:Nat) (s:Int×List DLink)=>(s.1,(i:Int),s.2)) (instLV b) (fun i s=>0<=s.1/\s.1<=5*(i:Int)/\s.2.length<=32*i) (J:=fun s=>u66J0 (plcs b.2.1) b s.2) (F:=u66L1 b (plcs b.2.1)) (fun g i s hi hI=>?_) (fun i s hi hI=>?_) (fun g s _=>aE) (0,[]) ⟨Int.le_refl _,Int.le_refl _,Nat.le_refl _⟩).trans ?_
 ·have e3:((i:Int)).toNat=i:=rfl;obtain⟨f,z⟩:=s;obtain⟨i1,i2,i3⟩:=hI;have i1:0<=f:=i1;have i2:f<=5*(i:Int):=i2;have i3:z.length<=32*i:=i3;have hp:=df.pin i hi;have hcl:=cellLinksD_len f (arcOf (celI b i)) (celI b i).2.2.2.1.length;have hc8:=(cell_arcs (inst_cell' df hi).2.1).2.2.1;refine(if_pos (by simpa using hi)).trans ?_;rw[e3,gP ⟨oo,trivial⟩,lE];show gd ((u128 b (insOf b.2.1 i) f).isSome=true/\_/\True) _=_;rw[r128 b df hi f i1 (by omega),vS,gP ⟨rfl,oo,trivial⟩,lE];show gd ((u129 (insOf b.2.1 i).2.2).isSome=true/\in64 (f+vl (u129 (insOf b.2.1 i).2.2))/\True) _=_;rw[eN,vS,gP ⟨rfl,oo,trivial⟩,lE];exact gP ⟨oo,trivial⟩
 ·obtain⟨f,z⟩:=s;obtain⟨i1,i2,i3⟩:=hI;have i1:0<=f:=i1;have i2:f<=5*(i:Int):=i2;have i3:z.length<=32*i:=i3;have hp:=df.pin i hi;have hcl:=cellLinksD_len f (arcOf (celI b i)) (celI b i).2.2.2.1.length;have hc8:=(cell_arcs (inst_cell' df hi).2.1).2.2.1;refine⟨by show 0<=f+((insOf b.2.1 i).2.2.length:Int); omega,by show f+((insOf b.2.1 i).2.2.length:Int)<=_; omega,?_⟩;show(z++cellLinksD f (arcOf (celI b i)) (celI b i).2.2.2.1.length).length<=_;rw[List.length_append]; omega
 have hz:=(instLV_in df _ (Nat.le_refl _)).2.2;have ecl:clinksV b=(fN (instLV b) b.2.1.1.length (0,[])).2:=rfl;unfold viewV lV loadsL delaysL;rw[ecl];generalize (fN (instLV b) b.2.1.1.length (0,[])).2=z at hz;show u66J0 (plcs b.2.1) b z=_;have hn30:b.2.2.length<=30:=by omega
 rw[u66J0,gP ⟨⟨by omega,rfl,by omega,by omega⟩,trivial⟩,gP ⟨⟨by omega,rfl,by omega,by omega⟩,trivial⟩];show lp (u66L3 (plcs b.2.1) b z) (0,List.replicate b.2.2.length [],List.replicate b.2.2.length 0)=_;have hnet:∀i,i < (plcs b.2.1).length->inB (plcOf b.2.1 i).2.2.1 0 ((b.2.2.length:Int)-1)=true:=fun i hi=>by rw[hlen]; exact df.plc _ (plc_mem hi)
 have gf:=grid_fold (plcOf b.2.1) b.2.2.length;refine(lF (n:=(plcs b.2.1).length) (by omega) (fun(i:Nat) (s:List (List Int)×List Int)=>((i:Int),s.1,s.2)) (gridF (plcOf b.2.1)) (fun i s=>s.1.length=b.2.2.length/\s.2.length=b.2.2.length/\∀k:Nat,(s.1.getD k []).length<=i) (J:=fun s=>u66J2 b (plcs b.2.1) z s) (F:=u66L3 (plcs b.2.1) b z) (fun g i s hi hI=>?_) (fun i s hi hI=>?_) (fun g s _=>aE) (List.replicate b.2.2.length [],List.replicate b.2.2.length 0) ⟨List.length_replicate,List.length_replicate,fun k=>?_⟩).trans ?_
 ·obtain⟨gr,dr⟩:=s;obtain⟨g1,g2,g3⟩:=hI;have g1:gr.length=b.2.2.length:=g1;have g2:dr.length=b.2.2.length:=g2;have g3:∀k:Nat,(gr.getD k []).length<=i:=g3;have hp:=inB_iff.1 (hnet i hi);have e3:((i:Int)).toNat=i:=rfl;have j4:∀x y,u66J4 (i:Int) g (x,y)=g (((i+1:Nat):Int),y,x):=fun x y=>gP ⟨oo,trivial⟩;have g4:=g3 (plcOf b.2.1 i).2.2.1.toNat;refine(if_pos (by simpa using hi)).trans ?_;rw[e3,gP ⟨oo,hi,trivial⟩,lE];show(if(plcOf b.2.1 i).2.2.2=true then _ else _)=g (_,(gridF (plcOf b.2.1) i (gr,dr)).1,(gridF (plcOf b.2.1) i (gr,dr)).2);unfold gridF;cases(plcOf b.2.1 i).2.2.2 with
  | true =>
    rw[if_pos rfl,if_pos rfl];show gd (ix (plcOf b.2.1 i).2.2.1 dr.length/\_/\True) _=_;rw[gP ⟨oo,by show(plcOf b.2.1 i).2.2.1.toNat<_; omega,trivial⟩,j4]
  | false =>
    rw[if_neg (by simp),if_neg (by simp)];show gd (ix (plcOf b.2.1 i).2.2.1 gr.length/\_) _=_;rw[gP ⟨oo,by show(plcOf b.2.1 i).2.2.1.toNat<_; omega,⟨by show(gr.getD (plcOf b.2.1 i).2.2.1.toNat []).length+1<=_; omega,by show((gr.getD (plcOf b.2.1 i).2.2.1.toNat []).length+1)*8<=_; omega⟩,⟨by show 0<=(plcOf b.2.1 i).2.2.1; omega,by show(plcOf b.2.1 i).2.2.1<_; omega⟩,⟨by show(plcOf b.2.1 i).2.2.1.toNat<_; omega,rfl⟩,trivial⟩,lE,j4]
 ·obtain⟨gr,dr⟩:=s;obtain⟨g1,g2,g3⟩:=hI;have g1:gr.length=b.2.2.length:=g1;have g2:dr.length=b.2.2.length:=g2;have g3:∀k:Nat,(gr.getD k []).length<=i:=g3;have hp:=inB_iff.1 (hnet i hi);unfold gridF;split
  ·exact⟨g1,by show(dr.set _ _).length=_; rw[List.length_set]; exact g2,fun k=>by have:=g3 k; show(gr.getD k []).length<=_; omega⟩
  ·refine⟨by show(gr.set _ _).length=_; rw[List.length_set]; exact g1,g2,fun k=>?_⟩;show((gr.set (plcOf b.2.1 i).2.2.1.toNat (gr.getD (plcOf b.2.1 i).2.2.1.toNat []++[(i:Int)])).getD k []).length<=_;rw[getD_set (by omega)];have:=g3 k;have:=g3 (plcOf b.2.1 i).2.2.1.toNat;split
   ·rw[List.length_append]; show _+1<=_; omega
   ·omega
 ·show((List.replicate b.2.2.length ([]:List Int)).getD k []).length<=0;rw[gq,List.getElem?_replicate];split <;> exact Nat.le_refl _
 obtain⟨gl,dl,gd'⟩:=gf (plcs b.2.1).length hnet;generalize fN (gridF (plcOf b.2.1)) (plcs b.2.1).length (List.replicate b.2.2.length [],List.replicate b.2.2.length 0)=s at gl dl gd';obtain⟨gr,dr⟩:=s;have gl:gr.length=b.2.2.length:=gl;have dl:dr.length=b.2.2.length:=dl;have hgr:∀k:Nat,k<b.2.2.length->gr.getD k []=sinksV b.2.1 k:=fun k hk=>(gd' k hk).1;have hdr:∀k:Nat,k<b.2.2.length->dr.getD k 0=drvV b k:=fun k hk=>(gd' k hk).2;show lp (u66L6 dr gr b (plcs b.2.1)) (0,[],[],z)=_;refine(lF (n:=b.2.2.length) (by omega) (fun(i:Nat) (s:List Int×List (List Int)×List DLink)=>((i:Int),s.1,s.2.1,s.2.2)) (stepV b) (fun i s=>s.1.length=i/\s.2.1.length=i/\s.2.2.length<=500+160*i) (J:=fun s=>some (b,plcs b.2.1,s.2.2,s.1,s.2.1,[])) (F:=u66L6 dr gr b (plcs b.2.1)) (fun g i s hi hI=>?_) (fun i s hi hI=>?_) (fun g s _=>aE) ([],[],z) ⟨rfl,rfl,by show z.length<=_; omega⟩).trans ?_
 ·obtain⟨s1,s2,s3⟩:=s;obtain⟨i1,i2,i3⟩:=hI;have i1:s1.length=i:=i1;have i2:s2.length=i:=i2;have i3:s3.length<=500+160*i:=i3;have hno:=net_ok hb hi;have n1:=hno.wf.n1;have hs78:=hno.s78;have hll:=hno.loads.1;have e3:((i:Int)).toNat=i:=rfl;refine(if_pos (by simpa using hi)).trans ?_;rw[r130 b hw hno,vS,gP ⟨rfl,oo,by show 0<_; omega,⟨by show s1.length+1<=_; omega,by show(s1.length+1)*8<=_; omega⟩,trivial⟩,lE,r131 b hw hno,vS,gP ⟨rfl,⟨by show s2.length+1<=_; omega,by show(s2.length+1)*24<=_; omega⟩,trivial⟩,lE,gP ⟨oo,trivial⟩];have hsn:=hgr i hi;have hdn:=hdr i hi;have hdv:=drvN_in (plcOf b.2.1) i (plcs b.2.1).length;have hdv:0<=drvV b i/\drvV b i<=((plcs b.2.1).length:Int):=hdv;show lp (u66L8 dr (i:Int) gr s2 (exactV b i) s1 (loadsV b i) g) (0,s3)=g (_,s1++[(loadsV b i).getD 0 0],s2++[exactV b i],netLF (drvV b) (fun i=>sinksV b.2.1 i) i s3);refine(lF (n:=(sinksV b.2.1 i).length) (by omega) (fun(k:Nat) (s:List DLink)=>((k:Int),s)) (wsinkF (drvV b i) (sinksV b.2.1 i)) (fun k y=>y.length=s3.length+2*k) (J:=fun y=>u66J7 (i:Int) g (s2++[exactV b i],s1++[(loadsV b i).getD 0 0],y)) (F:=u66L8 dr (i:Int) gr s2 (exactV b i) s1 (loadsV b i) g) (fun g8 k y hk hy=>?_) (fun k y hk hy=>?_) (fun g8 y _=>?_) s3 rfl).trans ?_
  ·have hy:y.length=s3.length+2*k:=hy;obtain⟨k1,k2⟩:=sinksV_at hk;have e4:((k:Int)).toNat=k:=rfl;show u66L8 dr (i:Int) gr s2 (exactV b i) s1 (loadsV b i) g g8 ((k:Int),y)=_;rw[u66L8,e3,hsn,if_pos (by simpa using hk),gP ⟨oo,trivial⟩];show _=g8 (_,wsinkF (drvV b i) (sinksV b.2.1 i) k y);refine(lF (n:=2) (by decide) (fun(t:Nat) (x:List DLink)=>((t:Int),x)) (wlinkF (drvV b i) ((sinksV b.2.1 i).getD k 0) (k:Int)) (fun t x=>x.length=y.length+t) (J:=fun x=>u66J9 (k:Int) g8 x) (F:=u66L10 dr (i:Int) gr (k:Int) g8) (fun g10 t x ht hx=>?_) (fun t x ht hx=>?_) (fun g10 x _=>?_) y rfl).trans ?_
   ·have hx:x.length=y.length+t:=hx;show u66L10 dr (i:Int) gr (k:Int) g8 g10 ((t:Int),x)=_;rw[u66L10,e3,e4,hsn,hdn,if_pos (decide_eq_true (by omega)),gP ⟨oo,by omega,oo,oo,oo,oo,⟨by show x.length+1<=_; omega,by show(x.length+1)*32<=_; omega⟩,trivial⟩,lE];exact gP ⟨oo,trivial⟩
   ·have hx:x.length=y.length+t:=hx;unfold wlinkF;rw[List.length_append,hx]; rfl
   ·show u66L10 dr (i:Int) gr (k:Int) g8 g10 (((2:Nat):Int),x)=_;rw[u66L10];exact if_neg (by decide)
   ·exact gP ⟨oo,trivial⟩
  ·have hy:y.length=s3.length+2*k:=hy;rw[wsinkF_len,hy]; omega
  ·show u66L8 dr (i:Int) gr s2 (exactV b i) s1 (loadsV b i) g g8 (((sinksV b.2.1 i).length:Int),y)=_;rw[u66L8,e3,hsn];exact if_neg (by simp)
  ·exact gP ⟨oo,trivial⟩
 ·obtain⟨s1,s2,s3⟩:=s;obtain⟨i1,i2,i3⟩:=hI;have i1:s1.length=i:=i1;have i2:s2.length=i:=i2;have i3:s3.length<=500+160*i:=i3;have hs78:=(net_ok hb hi).s78;refine⟨by show(s1++_).length=_; rw[List.length_append,i1]; rfl,by show(s2++_).length=_; rw[List.length_append,i2]; rfl,?_⟩;show(netLF (drvV b) (fun i=>sinksV b.2.1 i) i s3).length<=_;unfold netLF;rw[wsink_len];show s3.length+2*(sinksV b.2.1 i).length<=500+160*(i+1);omega
 ·rw[stepV_fold]
end Go.Proofs.YtphnknndgfgepaaGreatDoor
end

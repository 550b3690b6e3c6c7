/- Pins, arcs, cells: what the program's functions and the reference's say of them. -/
import Derived.Test.YtfggbbnnalflhaaGreatDoorWA
import Derived.Test.YtfggbbnnalflhaaGreatDoorGD1
import Derived.Test.YtfggbbnnalflhaaGreatDoorXA
import Derived.Lib.ParseIntB
import Derived.Lib.SplitLaws
import Derived.Test.YtfggbbnnalflhaaGreatDoorXK
import Derived.Test.YtfggbbnnalflhaaGreatDoorXF
set_option maxHeartbeats 0
section
namespace Go.Proofs.YtfggbbnnalflhaaGreatDoor
open Go Go.Proofs Go.Proofs.Sv Go.Proofs.Xv Go.Proofs.Xl Go.Proofs.Xd
theorem r217(c:Y115)(hw:wf y115 c):u217 c=some (arcsB (isArcI c.2.2.1.length (pinOf c)) c.2.2.2.1.length (arcOf c)):=by
 have ha:=wf_arcs hw;have h:=ha.1;have hA:∀(xs:List Y243) (o:Y243),xs.length<=9223372036854775807->u260c261 xs o=some (xs.any fun x=>x.1==o.1&&x.2.1==o.2.1&&x.2.2.1==o.2.2.1):=fun xs o hx=>by
  have h1:u292c261 xs o=_:=idx_some hx (fun i=>(xs.getD i (dflt y243)).1==o.1&&(xs.getD i (dflt y243)).2.1==o.2.1&&(xs.getD i (dflt y243)).2.2.1==o.2.2.1) (fun g i hi=>idx_el hi hx rfl) (fun g=>aE);have h2:u260c261 xs o=_:=has_some h1;rw[any_getD xs (dflt y243) (fun x=>x.1==o.1&&x.2.1==o.2.1&&x.2.2.1==o.2.2.1)] at h2;exact h2
 have key:=lp_all (n:=c.2.2.2.1.length) h (fun i=>!isArcI c.2.2.1.length (pinOf c) (arcOf c i)||dupA (arcOf c) i) (some false) (e:=u217J0 c ()) (F:=u217L1 c) (fun g i hi=>by
  have e3:((i:Int)).toNat=i:=rfl;have hl:(c.2.2.2.1.take i).length<=9223372036854775807:=by rw[List.length_take]; omega
  have e1:=r259 c (arcOf c i) hw (wf_el hi ha);have e2:=hA (c.2.2.2.1.take i) (arcOf c i) hl;rw[take_anyG c.2.2.2.1 (dflt y243) _ i (by omega)] at e2;refine(if_pos (by grind)).trans ?_;rw[e3,gP ⟨oo,trivial⟩,lE,e1,e2,vS,vS,gP ⟨rfl,fun _=>⟨by omega,by omega,by omega⟩,fun _=>rfl,trivial⟩,gP ⟨oo,trivial⟩];rfl) (fun g=>aE)
 refine key.trans ?_;unfold arcsB u217J0;have e:decide ((c.2.2.2.1.length:Int)<=8)=decide (c.2.2.2.1.length<=8):=by rw[decide_eq_decide]; omega
 rw[e];cases(List.range c.2.2.2.1.length).any fun i=>!isArcI c.2.2.1.length (pinOf c) (arcOf c i)||dupA (arcOf c) i
 ·simp
 ·simp
theorem toNat_pred{n:Nat}(h:1<=n):((n:Int)-1).toNat=n-1:=by omega
theorem r218(c:Y115)(hw:wf y115 c)(h2:2<=c.2.2.1.length)(h5:c.2.2.1.length<=5):u218 c=some (kindB c.2.1 c.2.2.1.length (pinOf c) c.2.2.2.1.length (arcOf c) c.2.2.2.2.1):=by
 have hp:=wf_pins hw;have h:=hp.1;have ht:=hw.2.2.2.2.1.1;have key:=lF (n:=c.2.2.1.length) h (fun i (s:Int)=>(s,(i:Int))) (fun i s=>if(pinOf c i).2.2.2=true then s+1 else s) (fun i s=>0<=s/\s<=i) (J:=u218J0 c) (F:=u218L1 c) (fun g i s hi hI=>by
  have j2:∀s',u218J2 (i:Int) g s'=g (s',((i+1:Nat):Int)):=fun s'=>gP ⟨oo,trivial⟩;have e3:((i:Int)).toNat=i:=rfl;refine(if_pos (by grind)).trans ?_;rw[e3,gP ⟨oo,trivial⟩,lE,gP ⟨oo,trivial⟩,j2,j2]
  grind) (fun i s hi hI=>by
  omega) (fun g s _=>aE) 0 oo
 refine key.trans ?_;show u218J0 c (clkN c.2.2.1.length (pinOf c))=_;have hk:∀k0:Int,u218J0 c k0=some (if c.2.1=1 then k0==0&&(c.2.2.2.2.1.length:Int)==1*2 ^ (c.2.2.1.length-1)&&c.2.2.2.2.1.all (inB · 0 1)
  else if c.2.1=2 then k0==1&&(c.2.2.2.2.1.length:Int)==0&&!hasB c.2.2.2.1.length (arcOf c) 1&&!(hasB c.2.2.2.1.length (arcOf c) 2==hasB c.2.2.2.1.length (arcOf c) 3)
  else if c.2.1=3 then k0==1&&(c.2.2.2.2.1.length:Int)==0&&hasB c.2.2.2.1.length (arcOf c) 1&&hasB c.2.2.2.1.length (arcOf c) 2&&!hasB c.2.2.2.1.length (arcOf c) 3
  else false):=fun k0=>by
  rw[u218J0,r262 c hw,r132 _ _ _ ht,r263 c hw,r263 c hw,r263 c hw]
  repeat rw[vS]
  rw[toNat_pred (by omega)];by_cases k1:c.2.1=1
  ·rw[if_pos (beq_iff_eq.2 k1),if_pos k1,gP ⟨fun _=>rfl,fun _=>⟨by omega,pow_in h5⟩,fun _=>rfl,trivial⟩,lE,toNat_pred (by omega)]
  ·rw[if_neg (by grind),if_neg k1];by_cases k2:c.2.1=2
   ·rw[if_pos (beq_iff_eq.2 k2),if_pos k2,gP ⟨fun _=>rfl,fun _=>rfl,fun _=>rfl,trivial⟩]
   ·rw[if_neg (by grind),if_neg k2];by_cases k3:c.2.1=3
    ·rw[if_pos (beq_iff_eq.2 k3),if_pos k3,gP ⟨fun _=>rfl,fun _=>rfl,fun _=>rfl,trivial⟩]
    grind
 exact hk (clkN c.2.2.1.length (pinOf c))
abbrev cellOk(q:Nat->(Nat->DPin)->DArc->Bool)(c:Y115):Bool:=cellB q c.1 c.2.1 c.2.2.1.length (pinOf c) c.2.2.2.1.length (arcOf c) c.2.2.2.2.1 c.2.2.2.2.2.1 c.2.2.2.2.2.2
theorem r175(c:Y115)(hw:wf y115 c)(hm:c.2.2.1.length<=1048576):u175 c=some (cellOk isArcS c):=by
 have hp:=wf_pins hw;show _=some (cellB isArcS _ _ _ _ _ _ _ _ _);rw[<- cell_eq];unfold u175 cellB;rw[r149 c.1 hw.1,r216 _ hp hm,r217 c hw,r130,r130]
 repeat rw[vS]
 cases hpo:pinsOk c.2.2.1.length (pinOf c) with
 | false =>
   rw[gP ⟨rfl,fun _=>rfl,fun hc=>by simp at hc,fun hc=>by simp at hc,fun hc=>by simp at hc,fun hc=>by simp at hc,trivial⟩];simp
 | true =>
   obtain⟨h2,h5,_⟩:=pins_last hpo;rw[r218 c hw h2 h5,vS,gP ⟨rfl,fun _=>rfl,fun _=>rfl,fun _=>rfl,fun _=>rfl,fun _=>rfl,trivial⟩]
theorem r213(c:Y115)(hw:wf y115 c)(h8:c.2.2.2.1.length<=8)(hk:∀i,i<c.2.2.2.1.length->1<=(arcOf c i).1/\(arcOf c i).1<=5):u213 c=some (fN (kindsF (arcOf c)) c.2.2.2.1.length (List.replicate 6 0)):=by
 have h:=(wf_arcs hw).1;unfold u213;rw[gP ⟨⟨by omega,rfl,by decide,by omega⟩,trivial⟩];have key:=lF (n:=c.2.2.2.1.length) h (fun i (v:List Int)=>((i:Int),v)) (kindsF (arcOf c)) (fun i v=>i<=c.2.2.2.1.length/\v=fN (kindsF (arcOf c)) i (List.replicate 6 0)) (J:=fun v=>some v) (F:=u213L1 c) (fun g i v hi hI=>by
  obtain⟨h1,h2⟩:=kinds_fold (arcOf c) i (fun j hj=>hk j (by omega));obtain⟨k1,k2⟩:=hk i hi;have hlen:v.length=6:=by rw[hI.2]; exact h1
  have hcnt:=h2 (arcOf c i).1.toNat (by omega);have hle:=cntK_le (arcOf c) ((arcOf c i).1.toNat:Int) i;rw[<- hI.2] at hcnt;have e3:((i:Int)).toNat=i:=rfl;refine(if_pos (by grind)).trans ?_;have hin:in64 (v.getD (arcOf c i).1.toNat 0+1):=by rw[hcnt]; exact oo
  have hix:ix (arcOf c i).1 v.length:=oo;have hlt:(arcOf c i).1.toNat<v.length:=by omega
  rw[e3,gP ⟨oo,hix,hlt,hin,hix,hlt,trivial⟩,lE,gP ⟨oo,trivial⟩];rfl) (fun i v hi hI=>⟨by omega,by rw[hI.2]; rfl⟩) (fun g s _=>aE) (List.replicate 6 0) ⟨by omega,rfl⟩
 grind
theorem r172(c:Y115)(hw:wf y115 c):u172 c=some (cellOk isArcS c):=by
 have ha:=wf_arcs hw;have h:=ha.1;show _=some (cellB isArcS _ _ _ _ _ _ _ _ _);unfold u172 cellB;rw[r211 c hw,r108 c.1 hw.1,r105,r105]
 repeat rw[vS]
 rw[gP ⟨rfl,trivial⟩,lE,gP ⟨fun _=>rfl,fun _=>rfl,fun _=>rfl,trivial⟩];cases hpo:pinsOk c.2.2.1.length (pinOf c) with
 | false =>
   grind
 | true =>
   obtain⟨h2,h5,_⟩:=pins_last hpo;have e9:(if true=true then(clkN c.2.2.1.length (pinOf c),true) else((0:Int),false))=(clkN c.2.2.1.length (pinOf c),true):=rfl;rw[e9];by_cases hgo:nmB c.1=true/\c.2.2.2.1.length<=8/\inB c.2.2.2.2.2.1 0 100000=true/\inB c.2.2.2.2.2.2 0 100000=true
   ·obtain⟨g1,g2,g3,g4⟩:=hgo;have e0:decide (8 < (c.2.2.2.1.length:Int))=false:=decide_eq_false (by omega);rw[g1,e0,g3,g4];refine(if_neg (by simp)).trans ?_;have key:=lp_all (n:=c.2.2.2.1.length) h (fun i=>!isArcS c.2.2.1.length (pinOf c) (arcOf c i)||dupA (arcOf c) i) (some false) (e:=u172J0 c (clkN c.2.2.1.length (pinOf c),true) ()) (F:=u172L1 c (clkN c.2.2.1.length (pinOf c),true)) (fun g i hi=>by
     have e3:((i:Int)).toNat=i:=rfl;have e1:=r212 c (arcOf c i) hw (wf_el hi ha);have inner:=lp_all (n:=i) (by omega) (fun k=>(arcOf c k).1==(arcOf c i).1&&(arcOf c k).2.1==(arcOf c i).2.1&&(arcOf c k).2.2.1==(arcOf c i).2.2.1) (some false) (e:=g ((i:Int)+1)) (F:=u172L3 c (arcOf c i) (i:Int) g) (fun g3 k hk=>all_el hk (by omega) ⟨oo,fun _=>oo,fun _=>oo,trivial⟩) (fun g3=>by
      refine aE.trans ?_;exact gP ⟨oo,trivial⟩)
     refine(if_pos (by grind)).trans ?_;rw[e3,gP ⟨oo,trivial⟩,lE,e1,vS,gP ⟨rfl,trivial⟩,inner];unfold dupA
     grind) (fun g=>aE)
    refine key.trans ?_;unfold arcsB;rw[decide_eq_true g2];cases hany:(List.range c.2.2.2.1.length).any fun i=>!isArcS c.2.2.1.length (pinOf c) (arcOf c i)||dupA (arcOf c) i with
    | true=>simp
    | false =>
      rw[if_neg (by simp)];have hall:∀i,i<c.2.2.2.1.length->isArcS c.2.2.1.length (pinOf c) (arcOf c i)=true:=fun i hi=>by
       grind
      have hkin:=r213 c hw g2 (fun i hi=>arcS_kind (hall i hi));obtain⟨n6,ncnt⟩:=kinds_fold (arcOf c) c.2.2.2.1.length (fun i hi=>arcS_kind (hall i hi));have c1:=ncnt 1 (by omega);have c2:=ncnt 2 (by omega);have c3:=ncnt 3 (by omega);rw[u172J0,hkin,vS,gP ⟨rfl,trivial⟩,lE];generalize fN (kindsF (arcOf c)) c.2.2.2.1.length (List.replicate 6 0)=v at *
      have q1:((v.getD 1 0)==(0:Int))=!hasB c.2.2.2.1.length (arcOf c) 1:=by
       rw[c1,cntK_has];have:=(cntK_le (arcOf c) 1 c.2.2.2.1.length).1;rw[Bool.eq_iff_iff]; simp; omega
      have q1':decide (0<v.getD 1 0)=hasB c.2.2.2.1.length (arcOf c) 1:=by rw[c1,cntK_has]; rfl
      have q2:decide (0<v.getD 2 0)=hasB c.2.2.2.1.length (arcOf c) 2:=by rw[c2,cntK_has]; rfl
      have q3:decide (0<v.getD 3 0)=hasB c.2.2.2.1.length (arcOf c) 3:=by rw[c3,cntK_has]; rfl
      have q3':((v.getD 3 0)==(0:Int))=!hasB c.2.2.2.1.length (arcOf c) 3:=by
       rw[c3,cntK_has];have:=(cntK_le (arcOf c) 3 c.2.2.2.1.length).1;rw[Bool.eq_iff_iff]; simp; omega
      have i1:ix (1:Int) v.length:=oo;have i2:ix (2:Int) v.length:=oo;have i3:ix (3:Int) v.length:=oo;have n1:Int.toNat (1:Int)<v.length:=by rw[n6]; decide
      have n2:Int.toNat (2:Int)<v.length:=by rw[n6]; decide
      have n3:Int.toNat (3:Int)<v.length:=by rw[n6]; decide
      unfold kindB;by_cases k1:c.2.1=1
      ·rw[if_pos (beq_iff_eq.2 k1),if_pos k1];have ht:=hw.2.2.2.2.1.1;have key2:=lp_all (n:=c.2.2.2.2.1.length) ht (fun i=>!inB (c.2.2.2.2.1.getD i 0) 0 1) (some false) (e:=u172J5 (clkN c.2.2.1.length (pinOf c),true) c ()) (F:=u172L6 c (clkN c.2.2.1.length (pinOf c),true)) (fun g i hi=>all_el hi ht ⟨oo,rfl,trivial⟩) (fun g=>aE);refine key2.trans ?_;rw[any_getD c.2.2.2.2.1 0 (fun x=>!inB x 0 1),<- all_any];have e5:u172J5 (clkN c.2.2.1.length (pinOf c),true) c ()=some (clkN c.2.2.1.length (pinOf c)==0&&(c.2.2.2.2.1.length:Int)==1*2 ^ (c.2.2.1.length-1)):=by
        rw[u172J5,toNat_pred (by omega),gP ⟨fun _=>oo,fun _=>oo,fun _=>⟨by omega,pow_in h5⟩,trivial⟩]
       rw[e5];cases c.2.2.2.2.1.any fun x=>!inB x 0 1 <;> simp
      ·rw[if_neg (by simpa using k1),if_neg k1];by_cases k2:c.2.1=2
       ·rw[if_pos (beq_iff_eq.2 k2),if_pos k2,gP ⟨fun _=>i1,fun _=>n1,fun _=>i2,fun _=>n2,fun _=>i3,fun _=>n3,trivial⟩];have w1:Int.toNat (1:Int)=1:=rfl;have w2:Int.toNat (2:Int)=2:=rfl;have w3:Int.toNat (3:Int)=3:=rfl;rw[w1,w2,w3,q1,q2,q3];cases clkN c.2.2.1.length (pinOf c)==1 <;> cases(c.2.2.2.2.1.length:Int)==0 <;> cases hasB c.2.2.2.1.length (arcOf c) 1 <;> cases hasB c.2.2.2.1.length (arcOf c) 2 <;> cases hasB c.2.2.2.1.length (arcOf c) 3 <;> rfl
       ·rw[if_neg (by simpa using k2),if_neg k2];by_cases k3:c.2.1=3
        ·rw[if_pos (beq_iff_eq.2 k3),if_pos k3,gP ⟨fun _=>i1,fun _=>n1,fun _=>i2,fun _=>n2,fun _=>i3,fun _=>n3,trivial⟩];have w1:Int.toNat (1:Int)=1:=rfl;have w2:Int.toNat (2:Int)=2:=rfl;have w3:Int.toNat (3:Int)=3:=rfl;rw[w1,w2,w3,q1',q2,q3'];cases clkN c.2.2.1.length (pinOf c)==1 <;> cases(c.2.2.2.2.1.length:Int)==0 <;> cases hasB c.2.2.2.1.length (arcOf c) 1 <;> cases hasB c.2.2.2.1.length (arcOf c) 2 <;> cases hasB c.2.2.2.1.length (arcOf c) 3 <;> rfl
        ·rw[if_neg (by grind),if_neg k3];rfl
   grind[nmB,decide,inB,trans,arcsB]
end Go.Proofs.YtfggbbnnalflhaaGreatDoor
end
section
namespace Go.Proofs.Xd
open Go Go.Proofs.Sv Go.Proofs.Xv Go.Proofs.Xl
def incAt(v:List Int)(x:Int):List Int:=v.set x.toNat (v.getD x.toNat 0+1)
def lowAt(v:List Int)(n b:Nat):Prop:=v.length=n/\∀k:Nat,0<=v.getD k 0/\v.getD k 0<=(b:Int)
theorem lowAt_rep(n b:Nat):lowAt (List.replicate n 0) n b:=by
 refine⟨List.length_replicate,fun k=>?_⟩;rw[gq,List.getElem?_replicate];split <;> (show(0:Int)<=0/\(0:Int)<=b; omega)
theorem lowAt_inc{v:List Int}{n b:Nat}(h:lowAt v n b)(x:Int):lowAt (incAt v x) n (b+1):=by
 refine⟨by unfold incAt; rw[List.length_set]; exact h.1,fun k=>?_⟩;have hx:=h.2 x.toNat;have hk:=h.2 k;unfold incAt;rw[gq,List.getElem?_set];by_cases e:x.toNat=k
 ·rw[if_pos e];split
  ·rw[Option.getD_some]; omega
  ·show(0:Int)<=0/\(0:Int)<=_; omega
 ·rw[if_neg e,<- gq]; omega
theorem lowAt_up{v:List Int}{n b b':Nat}(h:lowAt v n b)(hb:b<=b'):lowAt v n b':=⟨h.1,fun k=>by have:=h.2 k; omega⟩
theorem lowAt_ix{v:List Int}{n b:Nat}(h:lowAt v n b){x:Int}(hx:inB x 0 ((n:Int)-1)=true):ix x v.length/\x.toNat<v.length:=by
 rw[inB_iff] at hx;rw[ix,h.1];omega
def libB(n:Nat)(ok:Nat->Bool)(nm:Nat->ByteArray):Bool:=!((List.range n).any fun i=>!ok i||dupB nm i)&&decide (n<=8)
theorem lib_eq{n:Nat}{ok:Nat->Bool}{nm:Nat->ByteArray}(h:∀i,i<n->ok i=true->nmB (nm i)=true):(if((List.range n).any fun i=>!ok i)=true then false else decide (n<=8)&&namesB n nm)=libB n ok nm:=by
 unfold libB namesB;have e:((List.range n).any fun i=>!ok i||dupB nm i)=(((List.range n).any fun i=>!ok i)||(List.range n).any fun i=>dupB nm i):=any_or _ _;rw[e];cases ha:(List.range n).any fun i=>!ok i with
 | true=>rfl
 | false =>
   have hall:=(not_any (n:=n) (c:=fun i=>!ok i)).1 (by rw[ha]; rfl);have:((List.range n).any fun i=>!nmB (nm i)||dupB nm i)=(List.range n).any fun i=>dupB nm i:=any_congr' fun i hi=>by
    have:=hall i hi;rw[Bool.not_eq_false'] at this;rw[h i hi this]; rfl
   rw[this,if_neg (by simp),Bool.false_or,Bool.and_comm]
def instB(nc:Nat)(pins:Int->Nat)(nn:Nat)(x:DInst):Bool:=inB x.2.1 0 ((nc:Int)-1)&&(x.2.2.length:Int)==(pins x.2.1:Int)&&x.2.2.all fun y=>inB y 0 ((nn:Int)-1)
def portB(nn:Nat)(x:DPort):Bool:=inB x.2.1 1 2&&inB x.2.2 0 ((nn:Int)-1)
def instF(x:Nat->DInst)(i:Nat)(v:List Int):List Int:=incAt v ((x i).2.2.getD ((x i).2.2.length-1) 0)
def portF(x:Nat->DPort)(i:Nat)(v:List Int):List Int:=if(x i).2.1=1 then incAt v (x i).2.2 else v
def driveN(ni np nn:Nat)(x:Nat->DInst)(y:Nat->DPort):List Int:=fN (portF y) np (fN (instF x) ni (List.replicate nn 0))
theorem instF_low(x:Nat->DInst)(nn:Nat):∀i,lowAt (fN (instF x) i (List.replicate nn 0)) nn i
 | 0=>lowAt_rep nn 0
 | i+1=>lowAt_inc (instF_low x nn i) _
def designB(lib:Bool)(nc:Nat)(pins:Int->Nat)(ni np nn:Nat)(x:Nat->DInst)(y:Nat->DPort)(nets:Nat->ByteArray):Bool :=
 lib&&decide (ni<=14)&&decide (nn<=30)&&decide (np<=8)&&namesB ni (fun i=>(x i).1)&&namesB nn nets&&namesB np (fun i=>(y i).1) &&
  !((List.range ni).any fun i=>!instB nc pins nn (x i))&&!((List.range np).any fun i=>!portB nn (y i))&&(driveN ni np nn x y).all (·==1)
def wireB(w:DWire)(n:Int):Bool :=
 decide (1<=w.1.length)&&decide (w.1.length<=8)&&decide (w.2.1.length=w.1.length)&&decide (w.2.2.1.length=w.1.length)&&(w.2.2.2.length:Int)==n &&
  w.2.1.all (inB · 0 1000)&&w.2.2.1.all (inB · 0 500)&&w.2.2.2.all (inB · 0 ((w.1.length:Int)-1)) &&
  !(List.range w.1.length).any fun i=>(i==0&&(w.1.getD i 0 != -1||w.2.1.getD 0 0 != 0))||(decide (0<i)&&!inB (w.1.getD i 0) 0 ((i:Int)-1))
abbrev DPlace:=Int×Int×Int×Bool
def instP(x:DInst)(i:Int)(k:Nat)(s:List DPlace):List DPlace:=s++[(i,(k:Int),x.2.2.getD k 0,(k:Int)==(x.2.2.length:Int)-1)]
def portP(y:Nat->DPort)(i:Nat)(s:List DPlace):List DPlace:=s++[(-1,(i:Int),(y i).2.2,(y i).2.1==1)]
def placesF(x:Nat->DInst)(i:Nat)(s:List DPlace):List DPlace:=fN (instP (x i) i) (x i).2.2.length s
def placesN(ni np:Nat)(x:Nat->DInst)(y:Nat->DPort):List DPlace:=fN (portP y) np (fN (placesF x) ni [])
theorem instP_len(x:DInst)(i:Int)(s:List DPlace):∀k,(fN (instP x i) k s).length=s.length+k
 | 0=>rfl
 | k+1=>by
   rw[fN,instP,List.length_append,instP_len x i s k]; rfl
theorem portP_len(y:Nat->DPort)(s:List DPlace):∀k,(fN (portP y) k s).length=s.length+k
 | 0=>rfl
 | k+1=>by
   rw[fN,portP,List.length_append,portP_len y s k]; rfl
end Go.Proofs.Xd
end
section
namespace Go.Proofs.YtfggbbnnalflhaaGreatDoor
open Go Go.Proofs Go.Proofs.Sv Go.Proofs.Xv Go.Proofs.Xl Go.Proofs.Xd
abbrev celOf(l:List Y115)(i:Nat):Y115:=l.getD i (dflt y115)
abbrev libOk(l:List Y115):Bool:=libB l.length (fun i=>cellOk isArcS (celOf l i)) (fun i=>(celOf l i).1)
theorem cell_name{c:Y115}(h:cellOk isArcS c=true):nmB c.1=true:=by
 grind[cellB,isArcS]
theorem r124(l:List Y115)(hw:wf (.sl y115) l)(hm:cnt (.sl y115) l<=1048576):u124 l=some (libOk l):=by
 have h:=hw.1;have hl:=cnt_len hm;have key:=lp_foldE (n:=l.length) h (fun i (s:List ByteArray)=>(s,(i:Int))) (gath fun i=>(celOf l i).1) (fun i=>!cellOk isArcS (celOf l i)) (some false) (fun i s=>s.length=i) (J:=u124J0 l) (F:=u124L1 l) (fun g i s hi hI=>by
  have e3:((i:Int)).toNat=i:=rfl;have hc:cnt y115 (celOf l i)<=1048576:=cnt_el hi hm;have hp:(celOf l i).2.2.1.length<=1048576:=cnt_len (cF (cS (cS hc)));have e1:=r175 (celOf l i) (wf_el hi hw) hp;have ha:=app_ok (b:=16) hi hl (by decide);refine(if_pos (by grind)).trans ?_;rw[e3,gP ⟨oo,trivial⟩,lE,e1,vS,gP ⟨rfl,trivial⟩,gP ⟨⟨by grind,by grind⟩,trivial⟩,gP ⟨oo,trivial⟩];rfl) (fun i s hi hI _=>by grind[gath,List.length_append]) (fun g s _=>aE) [] rfl
 refine key.trans ?_;rw[gath_row l (dflt y115) (fun c:Y115=>c.1)];have hn:wf (.sl .str) (l.map fun c:Y115=>c.1):=wf_map h fun x hx=>(hw.2 x hx).1;have e7:∀v:List ByteArray,wf (.sl .str) v->u124J0 l v=some (decide (l.length<=8)&&namesB v.length fun i=>v.getD i (dflt .str)):=fun v hv=>by
  have e8:decide ((l.length:Int)<=8)=decide (l.length<=8):=by rw[decide_eq_decide]; omega
  rw[u124J0,r176 _ hv,vS,gP ⟨fun _=>rfl,trivial⟩,e8]
 rw[e7 _ hn,names_map l (fun c:Y115=>c.1) (dflt y115)];show _=some (libB _ _ _);rw[<- lib_eq (fun i _ hc=>cell_name hc)];split <;> rfl
theorem r115(l:List Y115)(hw:wf (.sl y115) l):u115 l=some (libOk l):=by
 have h:=hw.1;have key:=lp_all (n:=l.length) h (fun i=>!cellOk isArcS (celOf l i)||dupB (fun i=>(celOf l i).1) i) (some false) (e:=u115J0 l ()) (F:=u115L1 l) (fun g i hi=>by
  have e3:((i:Int)).toNat=i:=rfl;have e1:=r172 (celOf l i) (wf_el hi hw);have inner:=lp_all (n:=i) (by omega) (fun k=>decide ((celOf l k).1=(celOf l i).1)) (some false) (e:=g ((i:Int)+1)) (F:=u115L3 l (i:Int) g) (fun g3 k hk=>all_el hk (by omega) ⟨oo,oo,trivial⟩) (fun g3=>by
   refine aE.trans ?_;exact gP ⟨oo,trivial⟩)
  refine(if_pos (by grind)).trans ?_;rw[e3,e1,vS,gP ⟨oo,rfl,trivial⟩,inner];unfold dupB
  grind) (fun g=>aE)
 refine key.trans ?_;show _=some (libB _ _ _);unfold libB u115J0;have e8:decide ((l.length:Int)<=8)=decide (l.length<=8):=by rw[decide_eq_decide]; omega
 rw[e8];cases(List.range l.length).any (fun i=>!cellOk isArcS (celOf l i)||dupB (fun i=>(celOf l i).1) i) <;> rfl
abbrev insOf(d:Y47)(i:Nat):Y152:=d.1.getD i (dflt y152)
abbrev prtOf(d:Y47)(i:Nat):Y166:=d.2.2.getD i (dflt y166)
abbrev pinsAt(l:List Y115)(x:Int):Nat:=(l.getD x.toNat (dflt y115)).2.2.1.length
abbrev designOk(l:List Y115)(d:Y47):Bool:=designB (libOk l) l.length (pinsAt l) d.1.length d.2.2.length d.2.1.length (insOf d) (prtOf d) (fun i=>d.2.1.getD i (dflt .str))
theorem r127(d:Y47)(hw:wf y47 d)(x:Int):u127 d x=some (inB x 0 ((d.2.1.length:Int)-1)):=by
 have h:=hw.2.1.1;have e:u179 d.2.1=some (d.2.1.length:Int):=rfl;unfold u127;rw[e]
 repeat rw[vS]
 rw[r130,vS,gP ⟨rfl,oo,rfl,trivial⟩]
theorem r126(d:Y47)(l:List Y115)(x:Y152)(hd:wf y47 d)(hl:wf (.sl y115) l)(hx:wf y152 x):u126 d l x=some (instB l.length (pinsAt l) d.2.1.length x):=by
 have h:=hl.1;have hn:=hx.2.2.1;have e:u146 l=some (l.length:Int):=rfl;have e1:∀y,u178 y d=some (!inB y 0 ((d.2.1.length:Int)-1)):=fun y=>by
  unfold u178;rw[r127 d hd,gP ⟨rfl,trivial⟩,vS]
 have h1:u220c178 x.2.2 d=_:=idx_some hn (fun i=>!inB (x.2.2.getD i 0) 0 ((d.2.1.length:Int)-1)) (fun g i hi=>idx_el hi hn (e1 _)) (fun g=>aE);have h2:u177c178 x.2.2 d=_:=has_some h1;rw[any_getD x.2.2 0 (fun y=>!inB y 0 ((d.2.1.length:Int)-1))] at h2;unfold u126;rw[e,h2]
 repeat rw[vS]
 rw[r130,vS,gP ⟨rfl,oo,rfl,fun hc=>by
  have:=inB_iff.1 hc.1;exact oo,fun _=>rfl,trivial⟩,all_any]
 rfl
theorem r125(d:Y47)(hw:wf y47 d)(hm:cnt y47 d<=1048576):u125 d=some (decide (d.1.length<=14)&&decide (d.2.1.length<=30)&&decide (d.2.2.length<=8)&&namesB d.1.length (fun i=>(insOf d i).1)&&namesB d.2.1.length (fun i=>d.2.1.getD i (dflt .str))&&namesB d.2.2.length (fun i=>(prtOf d i).1)):=by
 have hi0:=hw.1.1;have hp0:=hw.2.2.1;have hil:d.1.length<=1048576:=cnt_len (cF hm);have hpl:d.2.2.length<=1048576:=cnt_len (cS (cS hm));have key:=lF (n:=d.1.length) hi0 (fun i (s:List ByteArray)=>(s,(i:Int))) (gath fun i=>(insOf d i).1) (fun i s=>s.length=i) (J:=u125J0 d) (F:=u125L1 d) (fun g i s hi hI=>by
  have e3:((i:Int)).toNat=i:=rfl;have ha:=app_ok (b:=16) hi hil (by decide);refine(if_pos (by grind)).trans ?_;rw[e3,gP ⟨oo,trivial⟩,lE,gP ⟨⟨by grind,by grind⟩,trivial⟩,gP ⟨oo,trivial⟩];rfl) (fun i s hi hI=>by grind[gath,List.length_append]) (fun g s _=>aE) [] rfl
 refine key.trans ?_;rw[gath_row d.1 (dflt y152) (fun c:Y152=>c.1)];have hn1:wf (.sl .str) (d.1.map fun c:Y152=>c.1):=wf_map hi0 fun x hx=>(hw.1.2 x hx).1;have hn2:wf (.sl .str) (d.2.2.map fun c:Y166=>c.1):=wf_map hp0 fun x hx=>(hw.2.2.2 x hx).1;have e7:∀v:List ByteArray,wf (.sl .str) v->v.length=d.1.length->u125J0 d v=some (decide (d.1.length<=14)&&decide (d.2.1.length<=30)&&decide (d.2.2.length<=8)&&(namesB v.length fun i=>v.getD i (dflt .str))&&namesB d.2.1.length (fun i=>d.2.1.getD i (dflt .str))&&namesB d.2.2.length (fun i=>(prtOf d i).1)):=fun v hv hvl=>by
  rw[u125J0];have key2:=lF (n:=d.2.2.length) hp0 (fun i (s:List ByteArray)=>(s,(i:Int))) (gath fun i=>(prtOf d i).1) (fun i s=>s.length=i) (J:=u125J2 v d) (F:=u125L3 d v) (fun g i s hi hI=>by
   have e3:((i:Int)).toNat=i:=rfl;have ha:=app_ok (b:=16) hi hpl (by decide);refine(if_pos (by grind)).trans ?_;rw[e3,gP ⟨oo,trivial⟩,lE,gP ⟨⟨by grind,by grind⟩,trivial⟩,gP ⟨oo,trivial⟩];rfl) (fun i s hi hI=>by grind[gath,List.length_append]) (fun g s _=>aE) [] rfl
  refine key2.trans ?_;rw[gath_row d.2.2 (dflt y166) (fun c:Y166=>c.1)];have e9:∀z:List ByteArray,wf (.sl .str) z->z.length=d.2.2.length->u125J2 v d z=some (decide (d.1.length<=14)&&decide (d.2.1.length<=30)&&decide (d.2.2.length<=8)&&(namesB v.length fun i=>v.getD i (dflt .str))&&namesB d.2.1.length (fun i=>d.2.1.getD i (dflt .str))&&namesB z.length (fun i=>z.getD i (dflt .str))):=fun z hz hzl=>by
   have a1:decide ((v.length:Int)<=14)=decide (d.1.length<=14):=by rw[decide_eq_decide]; omega
   have a2:decide ((d.2.1.length:Int)<=30)=decide (d.2.1.length<=30):=by rw[decide_eq_decide]; omega
   have a3:decide ((z.length:Int)<=8)=decide (d.2.2.length<=8):=by rw[decide_eq_decide]; omega
   rw[u125J2,r176 _ hv,r176 _ hz,r176 _ hw.2.1,vS,vS,vS,gP ⟨fun _=>rfl,fun _=>rfl,fun _=>rfl,trivial⟩,a1,a2,a3]
  rw[e9 _ hn2 (List.length_map _),names_map d.2.2 (fun c:Y166=>c.1) (dflt y166)]
 rw[e7 _ hn1 (List.length_map _),names_map d.1 (fun c:Y152=>c.1) (dflt y152)]
theorem lib_pins{l:List Y115}(h:libOk l=true){x:Int}(hx:inB x 0 ((l.length:Int)-1)=true):2<=pinsAt l x/\pinsAt l x<=5:=by
 have h:libB _ _ _=true:=h;unfold libB at h;rw[ba] at h;rw[inB_iff] at hx;have:=not_any.1 h.1 x.toNat (by omega);rw[Bool.or_eq_false_iff,Bool.not_eq_false'] at this;have hc:cellB isArcS _ _ _ _ _ _ _ _ _=true:=this.1;unfold cellB at hc;simp only[ba] at hc;have:=pins_last hc.1.1.1.1.2
 grind
theorem inst_nets{nc nn:Nat}{pins:Int->Nat}{x:DInst}(h:instB nc pins nn x=true)(hp:∀y,inB y 0 ((nc:Int)-1)=true->2<=pins y):1<=x.2.2.length/\inB (x.2.2.getD (x.2.2.length-1) 0) 0 ((nn:Int)-1)=true:=by
 grind[instB]
theorem r116(l:List Y115)(d:Y47)(hl:wf (.sl y115) l)(hd:wf y47 d):u116 l d=some (!((List.range d.1.length).any fun i=>!instB l.length (pinsAt l) d.2.1.length (insOf d i))&&!((List.range d.2.2.length).any fun i=>!portB d.2.1.length (prtOf d i))):=by
 have h:=hl.1;have hi0:=hd.1.1;have hp0:=hd.2.2.1;have hn0:=hd.2.1.1;have kj:u116J0 d ()=some (!((List.range d.2.2.length).any fun i=>!portB d.2.1.length (prtOf d i))):=by
  have key:=lp_all (n:=d.2.2.length) hp0 (fun i=>!portB d.2.1.length (prtOf d i)) (some false) (e:=some true) (F:=u116L5 d) (fun g i hi=>by
   have e3:((i:Int)).toNat=i:=rfl;refine(if_pos (by grind)).trans ?_;rw[e3,r105,r105,vS,vS,gP ⟨oo,rfl,fun _=>oo,fun _=>oo,fun _=>rfl,trivial⟩,gP ⟨oo,trivial⟩]
   grind[portB,Bool.not_and]) (fun g=>aE)
  refine key.trans ?_;cases(List.range d.2.2.length).any fun i=>!portB d.2.1.length (prtOf d i) <;> rfl
 have key:=lp_all (n:=d.1.length) hi0 (fun i=>!instB l.length (pinsAt l) d.2.1.length (insOf d i)) (some false) (e:=u116J0 d ()) (F:=u116L1 d l) (fun g i hi=>by
  have e3:((i:Int)).toNat=i:=rfl;have hx:=wf_el (d:=dflt y152) hi hd.1;have hn:=hx.2.2.1;refine(if_pos (by grind)).trans ?_;rw[e3,gP ⟨oo,trivial⟩,lE,r105,vS,gP ⟨oo,rfl,fun hc=>by
   have:=hc.1;rw[Bool.not_eq_false'] at this;have:=inB_iff.1 this;exact oo,trivial⟩]
  have inner:=lp_all (n:=(insOf d i).2.2.length) hn (fun k=>!inB ((insOf d i).2.2.getD k 0) 0 ((d.2.1.length:Int)-1)) (some false) (e:=g ((i:Int)+1)) (F:=u116L3 (insOf d i) d (i:Int) g) (fun g3 k hk=>by
   refine(all_el hk hn ⟨oo,oo,rfl,trivial⟩).trans ?_;rfl) (fun g3=>by
   refine aE.trans ?_;exact gP ⟨oo,trivial⟩)
  rw[any_getD (insOf d i).2.2 0 (fun y=>!inB y 0 ((d.2.1.length:Int)-1))] at inner;rw[inner];unfold instB
  grind[all_any]) (fun g=>aE)
 refine key.trans ?_
 grind
theorem ones_any(v:List Int):(!v.any fun x=>x != 1)=v.all (·==1):=all_any v (fun x=>x==1)
theorem rep_ok{n b:Nat}(h:n<=1048576)(hb:b<=4096):(0<=(n:Int)/\(n:Int)=(n:Int)/\(n:Int).toNat*b<=281474976710656/\(n:Int)<=9223372036854775807)/\True:=by
 have hm:n*b<=1048576*4096:=Nat.mul_le_mul h hb;exact⟨⟨by omega,rfl,by rw[Int.toNat_natCast]; omega,by omega⟩,trivial⟩
theorem inc_ok{v:List Int}{n b:Nat}{x:Int}(h:lowAt v n b)(hb:b<=2097152)(hx:inB x 0 ((n:Int)-1)=true):ix x v.length/\x.toNat<v.length/\in64 (v.getD x.toNat 0+1)/\ix x v.length/\x.toNat<v.length/\True:=by
 obtain⟨h1,h2⟩:=lowAt_ix h hx;have:=h.2 x.toNat;exact⟨h1,h2,oo,h1,h2,trivial⟩
theorem pred_ok{n:Nat}(h1:1<=n)(h:n<=9223372036854775807):in64 ((n:Int)-1)/\ix ((n:Int)-1) n:=⟨oo,oo⟩
theorem r74(l:List Y115)(d:Y47)(hl:wf (.sl y115) l)(hd:wf y47 d)(ml:cnt (.sl y115) l<=1048576)(md:cnt y47 d<=1048576):u74 l d=some (designOk l d):=by
 have hi0:=hd.1.1;have hp0:=hd.2.2.1;have mi:d.1.length<=1048576:=cnt_len (cF md);have mn:d.2.1.length<=1048576:=cnt_len (cF (cS md));have mp:d.2.2.length<=1048576:=cnt_len (cS (cS md));show _=some (designB _ _ _ _ _ _ _ _ _);unfold u74 designB;rw[r124 l hl ml,r125 d hd md,vS,vS,gP ⟨rfl,fun _=>rfl,trivial⟩];cases hlo:libOk l with
 | false=>grind
 | true =>
   rw[Bool.true_and];cases hno:(decide (d.1.length<=14)&&decide (d.2.1.length<=30)&&decide (d.2.2.length<=8)&&namesB d.1.length (fun i=>(insOf d i).1)&&namesB d.2.1.length (fun i=>d.2.1.getD i (dflt .str))&&namesB d.2.2.length (fun i=>(prtOf d i).1)) with
   | false=>grind
   | true =>
     refine(if_neg (by simp)).trans ?_;rw[gP (rep_ok mn (by decide)),Int.toNat_natCast];have hpin:∀y,inB y 0 ((l.length:Int)-1)=true->2<=pinsAt l y:=fun y hy=>(lib_pins hlo hy).1;have key:=lp_foldE (n:=d.1.length) hi0 (fun i (v:List Int)=>((i:Int),v)) (instF (insOf d)) (fun i=>!instB l.length (pinsAt l) d.2.1.length (insOf d i)) (some false) (fun i v=>i<=d.1.length/\lowAt v d.2.1.length i) (J:=u74J0 d) (F:=u74L1 d l) (fun g i v hi hI=>by
      have e3:((i:Int)).toNat=i:=rfl;have hx:=wf_el (d:=dflt y152) hi hd.1;refine(if_pos (by grind)).trans ?_;rw[e3,gP ⟨oo,trivial⟩,lE,r126 d l _ hd hl hx,vS,gP ⟨rfl,trivial⟩];cases hin:instB l.length (pinsAt l) d.2.1.length (insOf d i) with
      | false=>rfl
      | true =>
        obtain⟨g1,g2⟩:=inst_nets hin hpin;have hlen:(insOf d i).2.2.length<=9223372036854775807:=hx.2.2.1;refine(if_neg (by simp)).trans ?_;rw[toNat_pred g1,gP ⟨(pred_ok g1 hlen).1,(pred_ok g1 hlen).2,inc_ok hI.2 (by omega) g2⟩,lE,gP ⟨oo,trivial⟩];rfl) (fun i v hi hI _=>⟨by omega,lowAt_inc hI.2 _⟩) (fun g v _=>aE) (List.replicate d.2.1.length 0) ⟨by omega,lowAt_rep _ _⟩
     refine key.trans ?_;cases hia:(List.range d.1.length).any fun i=>!instB l.length (pinsAt l) d.2.1.length (insOf d i) with
     | true=>simp
     | false =>
       refine(if_neg (by simp)).trans ?_;have hlow:=instF_low (insOf d) d.2.1.length d.1.length;unfold driveN;generalize fN (instF (insOf d)) d.1.length (List.replicate d.2.1.length 0)=v0 at *
       rw[u74J0];have key2:=lp_foldE (n:=d.2.2.length) hp0 (fun i (v:List Int)=>((i:Int),v)) (portF (prtOf d)) (fun i=>!portB d.2.1.length (prtOf d i)) (some false) (fun i v=>i<=d.2.2.length/\lowAt v d.2.1.length (d.1.length+i)) (J:=u74J2) (F:=u74L3 d) (fun g i v hi hI=>by
        have e3:((i:Int)).toNat=i:=rfl;have j4:∀v',u74J4 (i:Int) g v'=g (((i+1:Nat):Int),v'):=fun v'=>gP ⟨oo,trivial⟩;refine(if_pos (by grind)).trans ?_;rw[e3,gP ⟨oo,trivial⟩,lE,r127 d hd,vS,gP ⟨fun _=>rfl,trivial⟩,j4,j4];have e5:((prtOf d i).2.1 != 1&&(prtOf d i).2.1 != 2||!inB (prtOf d i).2.2 0 ((d.2.1.length:Int)-1))=!portB d.2.1.length (prtOf d i):=by
         unfold portB;rw[Bool.not_and];congr 1;rw[Bool.eq_iff_iff];simp only[ba,bne_iff_ne,Bool.not_eq_true',<- Bool.not_eq_true,inB_iff];omega
        show(if((prtOf d i).2.1 != 1&&(prtOf d i).2.1 != 2||!inB (prtOf d i).2.2 0 ((d.2.1.length:Int)-1))=true then some false else _)=_;rw[e5];cases hpo:portB d.2.1.length (prtOf d i) with
        | false=>rfl
        | true =>
          have hnet:inB (prtOf d i).2.2 0 ((d.2.1.length:Int)-1)=true:=by
           unfold portB at hpo;rw[ba] at hpo;exact hpo.2
          refine(if_neg (by simp)).trans ?_;show _=g (_,portF (prtOf d) i v);unfold portF;by_cases k1:(prtOf d i).2.1=1
          ·rw[if_pos (beq_iff_eq.2 k1),if_pos k1];exact gP (inc_ok hI.2 (by omega) hnet)
          grind) (fun i v hi hI _=>⟨by omega,by
          grind[portF,lowAt_inc,lowAt_up]⟩) (fun g v _=>aE) v0 ⟨by omega,hlow⟩
       refine key2.trans ?_;cases hpa:(List.range d.2.2.length).any fun i=>!portB d.2.1.length (prtOf d i) with
       | true=>simp
       | false =>
         refine(if_neg (by simp)).trans ?_;have hv:∀v:List Int,v.length<=9223372036854775807->u74J2 v=some (v.all (·==1)):=fun v hv=>by
          have h1:u180c129 v=_:=idx_some hv (fun i=>v.getD i 0 != 1) (fun g i hi=>idx_el hi hv rfl) (fun g=>aE);have h2:u128c129 v=_:=has_some h1;rw[any_getD v 0 (fun x=>x != 1)] at h2;rw[u74J2,h2,vS,gP ⟨rfl,trivial⟩,ones_any]
         have hlen:(fN (portF (prtOf d)) d.2.2.length v0).length<=9223372036854775807:=by
          have:∀n,(fN (portF (prtOf d)) n v0).length=v0.length:=by
           intro n
           induction n with
           | zero=>rfl
           | succ n ih =>
             grind[fN,portF,incAt,List.length_set]
          rw[this,hlow.1]; omega
         grind
theorem r55(l:List Y115)(d:Y47)(hl:wf (.sl y115) l)(hd:wf y47 d)(md:cnt y47 d<=1048576):u55 l d=some (designOk l d):=by
 have hi0:=hd.1.1;have hp0:=hd.2.2.1;have mi:d.1.length<=1048576:=cnt_len (cF md);have mn:d.2.1.length<=1048576:=cnt_len (cF (cS md));have mp:d.2.2.length<=1048576:=cnt_len (cS (cS md));show _=some (designB _ _ _ _ _ _ _ _ _);unfold u55;rw[r115 l hl,r116 l d hl hd,vS,vS,gP ⟨rfl,fun _=>rfl,trivial⟩];by_cases hgo:libOk l=true/\d.1.length<=14/\d.2.1.length<=30/\d.2.2.length<=8/\((List.range d.1.length).any fun i=>!instB l.length (pinsAt l) d.2.1.length (insOf d i))=false/\((List.range d.2.2.length).any fun i=>!portB d.2.1.length (prtOf d i))=false
 ·obtain⟨hlo,h14,h30,h8,hia,hpa⟩:=hgo;have a1:decide (14 < (d.1.length:Int))=false:=decide_eq_false (by omega);have a2:decide (30 < (d.2.1.length:Int))=false:=decide_eq_false (by omega);have a3:decide (8 < (d.2.2.length:Int))=false:=decide_eq_false (by omega);rw[hlo,a1,a2,a3,hia,hpa];refine(if_neg (by simp)).trans ?_;have hpin:∀y,inB y 0 ((l.length:Int)-1)=true->2<=pinsAt l y:=fun y hy=>(lib_pins hlo hy).1;have hall:∀i,i<d.1.length->instB l.length (pinsAt l) d.2.1.length (insOf d i)=true:=fun i hi=>by
   grind
  have hpall:∀i,i<d.2.2.length->portB d.2.1.length (prtOf d i)=true:=fun i hi=>by
   grind
  have k10:∀v:List Int,v.length<=9223372036854775807->u55J6 v=some (v.all (·==1)):=fun v hv=>by
   rw[u55J6];have key:=lp_all (n:=v.length) hv (fun i=>v.getD i 0 != 1) (some false) (e:=some true) (F:=u55L10 v) (fun g i hi=>by
    refine(all_el hi hv ⟨oo,by omega,trivial⟩).trans ?_;rfl) (fun g=>aE)
   refine key.trans ?_;rw[any_getD v 0 (fun x=>x != 1),<- ones_any]
   grind
  have k7:∀v:List Int,lowAt v d.2.1.length d.1.length->u55J4 d v=some ((fN (portF (prtOf d)) d.2.2.length v).all (·==1)):=fun v0 hlow=>by
   rw[u55J4];have key:=lF (n:=d.2.2.length) hp0 (fun i (v:List Int)=>((i:Int),v)) (portF (prtOf d)) (fun i v=>i<=d.2.2.length/\lowAt v d.2.1.length (d.1.length+i)) (J:=u55J6) (F:=u55L7 d) (fun g i v hi hI=>by
    have e3:((i:Int)).toNat=i:=rfl;have j8:∀v',u55J8 (i:Int) g v'=g (((i+1:Nat):Int),v'):=fun v'=>gP ⟨oo,trivial⟩;have hnet:inB (prtOf d i).2.2 0 ((d.2.1.length:Int)-1)=true:=by
     have:=hpall i hi;unfold portB at this;rw[ba] at this;exact this.2
    refine(if_pos (by grind)).trans ?_;rw[e3,gP ⟨oo,trivial⟩,j8];show(if((prtOf d i).2.1==1)=true then _ else _)=g (_,portF (prtOf d) i v);unfold portF;by_cases k1:(prtOf d i).2.1=1
    ·rw[if_pos (beq_iff_eq.2 k1),if_pos k1];refine(gP ⟨oo,inc_ok hI.2 (by omega) hnet⟩).trans ?_;rw[lE];exact j8 _
    grind) (fun i v hi hI=>⟨by omega,by
    grind[portF,lowAt_inc,lowAt_up]⟩) (fun g v _=>aE) v0 ⟨by omega,hlow⟩
   refine key.trans (k10 _ ?_);have:∀n,(fN (portF (prtOf d)) n v0).length=v0.length:=by
    intro n
    induction n with
    | zero=>rfl
    | succ n ih =>
      grind[fN,portF,incAt,List.length_set]
   rw[this,hlow.1]; omega
  have k5:lp (u55L5 d) ((0:Int),List.replicate d.2.1.length 0)=some ((driveN d.1.length d.2.2.length d.2.1.length (insOf d) (prtOf d)).all (·==1)):=by
   have key:=lF (n:=d.1.length) hi0 (fun i (v:List Int)=>((i:Int),v)) (instF (insOf d)) (fun i v=>i<=d.1.length/\lowAt v d.2.1.length i) (J:=u55J4 d) (F:=u55L5 d) (fun g i v hi hI=>by
    have e3:((i:Int)).toNat=i:=rfl;have hx:=wf_el (d:=dflt y152) hi hd.1;obtain⟨g1,g2⟩:=inst_nets (hall i hi) hpin;have hlen:(insOf d i).2.2.length<=9223372036854775807:=hx.2.2.1;refine(if_pos (by grind)).trans ?_;rw[e3,gP ⟨oo,trivial⟩,lE,toNat_pred g1,gP ⟨(pred_ok g1 hlen).1,(pred_ok g1 hlen).2,inc_ok hI.2 (by omega) g2⟩,lE,gP ⟨oo,trivial⟩];rfl) (fun i v hi hI=>⟨by omega,lowAt_inc hI.2 _⟩) (fun g v _=>aE) (List.replicate d.2.1.length 0) ⟨by omega,lowAt_rep _ _⟩
   refine key.trans (k7 _ (instF_low _ _ _))
  have hn1:wf (.sl .str) (d.1.map fun c:Y152=>c.1):=wf_map hi0 fun x hx=>(hd.1.2 x hx).1;have hn2:wf (.sl .str) (d.2.2.map fun c:Y166=>c.1):=wf_map hp0 fun x hx=>(hd.2.2.2 x hx).1;have k2:∀v z:List ByteArray,wf (.sl .str) v->wf (.sl .str) z->u55J2 d v z=some ((namesB v.length fun i=>v.getD i (dflt .str))&&(namesB z.length fun i=>z.getD i (dflt .str))&&namesB d.2.1.length (fun i=>d.2.1.getD i (dflt .str))&&(driveN d.1.length d.2.2.length d.2.1.length (insOf d) (prtOf d)).all (·==1)):=fun v z hv hz=>by
   rw[u55J2,r117 _ hv,r117 _ hz,r117 _ hd.2.1,vS,vS,vS,gP ⟨rfl,fun _=>rfl,fun _=>rfl,trivial⟩,gP (rep_ok mn (by decide)),Int.toNat_natCast,k5];cases(namesB v.length fun i=>v.getD i (dflt .str)) <;> cases(namesB z.length fun i=>z.getD i (dflt .str)) <;> cases namesB d.2.1.length (fun i=>d.2.1.getD i (dflt .str)) <;> rfl
  have k3:∀v:List ByteArray,wf (.sl .str) v->u55J0 d v=some ((namesB v.length fun i=>v.getD i (dflt .str))&&namesB d.2.2.length (fun i=>(prtOf d i).1)&&namesB d.2.1.length (fun i=>d.2.1.getD i (dflt .str))&&(driveN d.1.length d.2.2.length d.2.1.length (insOf d) (prtOf d)).all (·==1)):=fun v hv=>by
   rw[u55J0];have key:=lF (n:=d.2.2.length) hp0 (fun i (s:List ByteArray)=>((i:Int),s)) (gath fun i=>(prtOf d i).1) (fun i s=>s.length=i) (J:=u55J2 d v) (F:=u55L3 d v) (fun g i s hi hI=>by
    have e3:((i:Int)).toNat=i:=rfl;refine(if_pos (by grind)).trans ?_;rw[e3,gP ⟨oo,⟨by grind,by grind⟩,trivial⟩,gP ⟨oo,trivial⟩];rfl) (fun i s hi hI=>by grind[gath,List.length_append]) (fun g s _=>aE) [] rfl
   refine key.trans ?_;rw[gath_row d.2.2 (dflt y166) (fun c:Y166=>c.1),k2 _ _ hv hn2,names_map d.2.2 (fun c:Y166=>c.1) (dflt y166)]
  have key:=lF (n:=d.1.length) hi0 (fun i (s:List ByteArray)=>((i:Int),s)) (gath fun i=>(insOf d i).1) (fun i s=>s.length=i) (J:=u55J0 d) (F:=u55L1 d) (fun g i s hi hI=>by
   have e3:((i:Int)).toNat=i:=rfl;refine(if_pos (by grind)).trans ?_;rw[e3,gP ⟨oo,⟨by grind,by grind⟩,trivial⟩,gP ⟨oo,trivial⟩];rfl) (fun i s hi hI=>by grind[gath,List.length_append]) (fun g s _=>aE) [] rfl
  refine key.trans ?_;rw[gath_row d.1 (dflt y152) (fun c:Y152=>c.1),k3 _ hn1,names_map d.1 (fun c:Y152=>c.1) (dflt y152)];unfold designB;rw[hia,hpa,decide_eq_true h14,decide_eq_true h30,decide_eq_true h8];cases namesB d.1.length (fun i=>(insOf d i).1) <;> cases namesB d.2.1.length (fun i=>d.2.1.getD i (dflt .str)) <;> cases namesB d.2.2.length (fun i=>(prtOf d i).1) <;> rfl
 ·have e0:(!libOk l||decide (14 < (d.1.length:Int))||decide (30 < (d.2.1.length:Int))||decide (8 < (d.2.2.length:Int))||!(!((List.range d.1.length).any fun i=>!instB l.length (pinsAt l) d.2.1.length (insOf d i))&&!((List.range d.2.2.length).any fun i=>!portB d.2.1.length (prtOf d i))))=true:=by
   rw[<- Bool.not_eq_false];intro hc;simp only[Bool.or_eq_false_iff,Bool.not_eq_false',decide_eq_false_iff_not,ba,Bool.not_eq_true'] at hc;exact hgo ⟨hc.1.1.1.1,by omega,by omega,by omega,hc.2.1,hc.2.2⟩
  refine(if_pos e0).trans ?_;refine congrArg some ?_
  symm
  rw[<- Bool.not_eq_true];intro hc;unfold designB at hc;simp only[ba,dq,Bool.not_eq_true'] at hc;obtain⟨⟨⟨⟨⟨⟨⟨⟨⟨c1,c2⟩,c3⟩,c4⟩,_⟩,_⟩,_⟩,c5⟩,c6⟩,_⟩:=hc;exact hgo ⟨c1,c2,c3,c4,c5,c6⟩
end Go.Proofs.YtfggbbnnalflhaaGreatDoor
end
section
namespace Go.Proofs.Xd
open Go Go.Proofs.Sv Go.Proofs.Xv Go.Proofs.Xl
def sinkF(pl:Nat->DPlace)(i:Nat)(v:List Int):List Int:=if(pl i).2.2.2=false then incAt v (pl i).2.2.1 else v
def cntP(pl:Nat->DPlace)(t:Int)(m:Nat):Int:=fN (fun i s=>if((pl i).2.2.1==t&&!(pl i).2.2.2)=true then s+1 else s) m 0
theorem cntP_le(pl:Nat->DPlace)(t:Int):∀m,0<=cntP pl t m/\cntP pl t m<=m
 | 0=>⟨Int.le_refl _,Int.le_refl _⟩
 | m+1=>by
   have:=cntP_le pl t m;unfold cntP at *
   rw[fN];split <;> omega
theorem sink_fold(pl:Nat->DPlace)(n:Nat):∀m,(∀i,i<m->inB (pl i).2.2.1 0 ((n:Int)-1)=true)->(fN (sinkF pl) m (List.replicate n 0)).length=n/\∀k:Nat,k<n->(fN (sinkF pl) m (List.replicate n 0)).getD k 0=cntP pl k m
 | 0,_=>⟨by simp[fN],fun k hk=>by
   show(List.replicate n (0:Int)).getD k 0=0;rw[gq,List.getElem?_replicate,if_pos hk]; rfl⟩
 | m+1,h=>by
   obtain⟨h1,h2⟩:=sink_fold pl n m (fun i hi=>h i (by omega));have h3:=inB_iff.1 (h m (by omega));rw[fN];generalize fN (sinkF pl) m (List.replicate n 0)=v at *
   unfold sinkF;have e:∀k:Nat,cntP pl k (m+1)=if((pl m).2.2.1==(k:Int)&&!(pl m).2.2.2)=true then cntP pl k m+1 else cntP pl k m:=fun k=>by unfold cntP; rw[fN]
   cases hd:(pl m).2.2.2 with
   | true =>
     refine⟨by rw[if_neg (by simp)]; exact h1,fun k hk=>?_⟩;rw[if_neg (by simp),h2 k hk,e,hd,if_neg (by simp)]
   | false =>
     rw[if_pos rfl];unfold incAt;refine⟨by rw[List.length_set]; exact h1,fun k hk=>?_⟩;rw[e,hd,gq,List.getElem?_set];by_cases hk':(pl m).2.2.1.toNat=k
     ·rw[if_pos hk',if_pos (by rw[h1]; omega),if_pos (by simp; omega),Option.getD_some,hk',h2 k hk]
     ·rw[if_neg hk',if_neg (by simp; omega),<- gq,h2 k hk]
def sinkL(pl:Nat->DPlace)(t:Int)(i:Nat)(s:List Int):List Int:=if((pl i).2.2.1==t&&!(pl i).2.2.2)=true then s++[(i:Int)] else s
theorem sinkL_len(pl:Nat->DPlace)(t:Int):∀m,((fN (sinkL pl t) m []).length:Int)=cntP pl t m
 | 0=>rfl
 | m+1=>by
   have:=sinkL_len pl t m;rw[fN];unfold cntP at *
   rw[fN];unfold sinkL at *
   split
   ·rw[List.length_append];show((_+1:Nat):Int)=_;omega
   ·exact this
def netsIn(n:Nat)(s:List DPlace):Prop:=∀p∈s,inB p.2.2.1 0 ((n:Int)-1)=true
theorem instP_in{n:Nat}{x:DInst}{i:Int}(hx:∀k,k<x.2.2.length->inB (x.2.2.getD k 0) 0 ((n:Int)-1)=true){s:List DPlace}(hs:netsIn n s):∀k,k<=x.2.2.length->netsIn n (fN (instP x i) k s)
 | 0,_=>hs
 | k+1,hk=>by
   rw[fN,instP];intro p hp;rcases List.mem_append.1 hp with h | h
   ·exact instP_in hx hs k (by omega) p h
   ·cases List.mem_singleton.1 h;exact hx k (by omega)
theorem placesF_in{n:Nat}{x:Nat->DInst}{ni:Nat}(hx:∀i,i<ni->∀k,k < (x i).2.2.length->inB ((x i).2.2.getD k 0) 0 ((n:Int)-1)=true):∀i,i<=ni->netsIn n (fN (placesF x) i [])
 | 0,_=>fun p hp=>by cases hp
 | i+1,hi=>by
   rw[fN,placesF];exact instP_in (hx i (by omega)) (placesF_in hx i (by omega)) _ (Nat.le_refl _)
theorem portP_in{n:Nat}{y:Nat->DPort}{np:Nat}(hy:∀i,i<np->inB (y i).2.2 0 ((n:Int)-1)=true){s:List DPlace}(hs:netsIn n s):∀k,k<=np->netsIn n (fN (portP y) k s)
 | 0,_=>hs
 | k+1,hk=>by
   rw[fN,portP];intro p hp;rcases List.mem_append.1 hp with h | h
   ·exact portP_in hy hs k (by omega) p h
   ·cases List.mem_singleton.1 h;exact hy k (by omega)
theorem placesF_len{x:Nat->DInst}{ni:Nat}(hx:∀i,i<ni->(x i).2.2.length<=5):∀i,i<=ni->(fN (placesF x) i []).length<=5*i
 | 0,_=>Nat.le_refl _
 | i+1,hi=>by
   rw[fN,placesF,instP_len];have:=placesF_len hx i (by omega);have:=hx i (by omega);omega
theorem getD_mem{α:Type}{l:List α}{i:Nat}{d:α}(h:i<l.length):l.getD i d∈l:=by
 rw[gq,List.getElem?_eq_getElem h];exact List.getElem_mem h
theorem all_getD{l:List Int}{p:Int->Bool}(h:l.all p=true){i:Nat}(hi:i<l.length):p (l.getD i 0)=true:=List.all_eq_true.1 h _ (getD_mem hi)
structure DesignFacts(nc:Nat)(pins:Int->Nat)(ni np nn:Nat)(x:Nat->DInst)(y:Nat->DPort):Prop where
 ni14:ni<=14
 np8:np<=8
 nn30:nn<=30
 inst:∀i,i<ni->instB nc pins nn (x i)=true
 port:∀i,i<np->portB nn (y i)=true
theorem design_facts{lib:Bool}{nc:Nat}{pins:Int->Nat}{ni np nn:Nat}{x:Nat->DInst}{y:Nat->DPort}{nets:Nat->ByteArray}(h:designB lib nc pins ni np nn x y nets=true):lib=true/\DesignFacts nc pins ni np nn x y:=by
 unfold designB at h;simp only[ba,dq] at h;obtain⟨⟨⟨⟨⟨⟨⟨⟨⟨c1,c2⟩,c3⟩,c4⟩,_⟩,_⟩,_⟩,c5⟩,c6⟩,_⟩:=h;refine⟨c1,c2,c4,c3,fun i hi=>?_,fun i hi=>?_⟩
 ·have:=not_any.1 c5 i hi
  rwa [Bool.not_eq_false'] at this
 ·have:=not_any.1 c6 i hi
  rwa [Bool.not_eq_false'] at this
theorem DesignFacts.net{nc:Nat}{pins:Int->Nat}{ni np nn:Nat}{x:Nat->DInst}{y:Nat->DPort}(h:DesignFacts nc pins ni np nn x y):(∀i,i<ni->∀k,k < (x i).2.2.length->inB ((x i).2.2.getD k 0) 0 ((nn:Int)-1)=true)/\∀i,i<np->inB (y i).2.2 0 ((nn:Int)-1)=true:=by
 refine⟨fun i hi k hk=>?_,fun i hi=>?_⟩
 ·have:=h.inst i hi;unfold instB at this;rw[ba] at this;exact all_getD (p:=fun y=>inB y 0 ((nn:Int)-1)) this.2 hk
 ·have:=h.port i hi;unfold portB at this;rw[ba] at this;exact this.2
end Go.Proofs.Xd
end
section
namespace Go.Proofs.YtfggbbnnalflhaaGreatDoor
open Go Go.Proofs Go.Proofs.Sv Go.Proofs.Xv Go.Proofs.Xl Go.Proofs.Xd
abbrev treeBad(w:Y36)(i:Nat):Bool:=(i==0&&(w.1.getD i 0 != -1||w.2.1.getD 0 0 != 0))||(decide (0<i)&&!inB (w.1.getD i 0) 0 ((i:Int)-1))
theorem r131(w:Y36)(hw:wf y36 w)(hl:w.2.1.length=w.1.length):u131 w=some (!(List.range w.1.length).any (treeBad w)):=by
 have h:=hw.1.1;have key:=lp_all (n:=w.1.length) h (treeBad w) (some false) (e:=some true) (F:=u131L1 w) (fun g i hi=>by
  have e3:((i:Int)).toNat=i:=rfl;have e0:((i:Int)==0)=(i==0):=by rw[Bool.eq_iff_iff,beq_iff_eq,beq_iff_eq]; omega
  have e2:decide ((0:Int) < (i:Int))=decide (0<i):=by rw[decide_eq_decide]; omega
  refine(if_pos (by simpa using hi)).trans ?_;rw[e3,e0,e2,r130,vS,gP ⟨oo,trivial⟩,gP ⟨fun _=>oo,fun _=>oo,fun _=>rfl,trivial⟩,gP ⟨oo,trivial⟩];rfl) (fun g=>aE)
 refine key.trans ?_
 grind
theorem r76(w:Y36)(n:Int)(hw:wf y36 w):u76 w n=some (wireB w n):=by
 obtain⟨⟨h1,_⟩,⟨h2,_⟩,⟨h3,_⟩,h4,_⟩:=id hw;have e:∀xs:List Int,u79 xs=some (xs.length:Int):=fun _=>rfl;unfold u76;rw[e,e,e,e]
 repeat rw[vS]
 rw[gP ⟨rfl,trivial⟩,lE,r130,r132 _ _ _ h2,r132 _ _ _ h3,r132 _ _ _ h4]
 repeat rw[vS]
 by_cases hgo:(inB (w.1.length:Int) 1 8&&(w.2.1.length:Int)==(w.1.length:Int)&&(w.2.2.1.length:Int)==(w.1.length:Int))=true
 ·have hg:=hgo;simp only[ba,beq_iff_eq,inB_iff] at hg;rw[r131 w hw (by omega),vS,gP ⟨rfl,fun _=>rfl,fun _=>rfl,fun _=>rfl,fun _=>rfl,fun _=>rfl,fun _=>rfl,fun _=>oo,fun _=>rfl,trivial⟩,lE];refine congrArg some ?_;rw[hgo];unfold wireB;rw[decide_eq_true (show 1<=w.1.length by omega),decide_eq_true (show w.1.length<=8 by omega),decide_eq_true (show w.2.1.length=w.1.length by omega),decide_eq_true (show w.2.2.1.length=w.1.length by omega)];cases(List.range w.1.length).any (treeBad w) <;> cases w.2.1.all (inB · 0 1000) <;> cases w.2.2.1.all (inB · 0 500) <;> cases(w.2.2.2.length:Int)==n <;> cases w.2.2.2.all (inB · 0 ((w.1.length:Int)-1)) <;> rfl
 ·have hg:(inB (w.1.length:Int) 1 8&&(w.2.1.length:Int)==(w.1.length:Int)&&(w.2.2.1.length:Int)==(w.1.length:Int))=false:=by simpa using hgo
  rw[hg,gP ⟨rfl,fun _=>rfl,fun _=>rfl,fun hc=>by simp at hc,fun hc=>by simp at hc,fun hc=>by simp at hc,fun hc=>by simp at hc,fun hc=>by simp at hc,fun hc=>by simp at hc,trivial⟩,lE];refine congrArg some ?_;rw[hg];simp only[Bool.false_and]
  symm
  rw[<- Bool.not_eq_true];intro hc;unfold wireB at hc;simp only[ba,dq] at hc;refine hgo ?_;simp only[ba,beq_iff_eq,inB_iff];omega
theorem r56(w:Y36)(n:Int)(hw:wf y36 w):u56 w n=some (wireB w n):=by
 obtain⟨⟨h1,_⟩,⟨h2,_⟩,⟨h3,_⟩,h4,_⟩:=id hw;unfold u56;by_cases hgo:1<=w.1.length/\w.1.length<=8/\w.2.1.length=w.1.length/\w.2.2.1.length=w.1.length/\(w.2.2.2.length:Int)=n
 ·obtain⟨g1,g2,g3,g4,g5⟩:=hgo;have e0:(decide ((w.1.length:Int)<1)||decide (8 < (w.1.length:Int))||(w.2.1.length:Int) != (w.1.length:Int)||(w.2.2.1.length:Int) != (w.1.length:Int)||(w.2.2.2.length:Int) != n)=false:=by
   rw[<- Bool.not_eq_true]; simp; omega
  refine(if_neg (by rw[e0]; simp)).trans ?_;have k3:=lp_all (n:=w.2.2.2.length) h4 (fun i=>!inB (w.2.2.2.getD i 0) 0 ((w.1.length:Int)-1)) (some false) (e:=some true) (F:=u56L3 w) (fun g i hi=>all_el hi h4 ⟨oo,oo,rfl,trivial⟩) (fun g=>aE);rw[any_getD w.2.2.2 0 (fun x=>!inB x 0 ((w.1.length:Int)-1))] at k3;have k1:=lp_all (n:=w.1.length) h1 (fun i=>(!inB (w.2.2.1.getD i 0) 0 500||!inB (w.2.1.getD i 0) 0 1000)||treeBad w i) (some false) (e:=u56J0 w ()) (F:=u56L1 w) (fun g i hi=>by
   have e3:((i:Int)).toNat=i:=rfl;have e0:((i:Int)==0)=(i==0):=by rw[Bool.eq_iff_iff,beq_iff_eq,beq_iff_eq]; omega
   have e2:decide ((0:Int) < (i:Int))=decide (0<i):=by rw[decide_eq_decide]; omega
   refine(if_pos (by simpa using hi)).trans ?_;rw[e3,e0,e2,r105,r105,r105]
   repeat rw[vS]
   rw[gP ⟨oo,rfl,fun _=>oo,fun _=>rfl,trivial⟩,gP ⟨fun _=>oo,fun _=>oo,fun _=>oo,fun _=>oo,fun _=>rfl,trivial⟩,gP ⟨oo,trivial⟩]
   grind) (fun g=>aE)
  refine k1.trans ?_;rw[any_or,any_or];have a1:=any_getD w.2.2.1 0 (fun x=>!inB x 0 500);have a2:=any_getD w.2.1 0 (fun x=>!inB x 0 1000);rw[g4] at a1;rw[g3] at a2;rw[a1,a2];unfold u56J0;rw[k3];unfold wireB;rw[decide_eq_true g1,decide_eq_true g2,decide_eq_true g3,decide_eq_true g4,beq_iff_eq.2 g5,<- all_any,<- all_any,<- all_any];cases(List.range w.1.length).any (treeBad w) <;> cases w.2.1.any (fun x=>!inB x 0 1000) <;> cases w.2.2.1.any (fun x=>!inB x 0 500) <;> cases w.2.2.2.any (fun x=>!inB x 0 ((w.1.length:Int)-1)) <;> rfl
 grind[decide,trans,wireB]
theorem r75(d:Y47)(hd:wf y47 d)(h14:d.1.length<=14)(h8:d.2.2.length<=8)(h5:∀i,i<d.1.length->1<=(insOf d i).2.2.length/\(insOf d i).2.2.length<=5):u75 d=some (placesN d.1.length d.2.2.length (insOf d) (prtOf d)):=by
 have hi0:=hd.1.1;have hp0:=hd.2.2.1;unfold u75;have k5:∀s:List Y126,s.length<=70->u75J0 d s=some (fN (portP (prtOf d)) d.2.2.length s):=fun s0 hs=>by
  rw[u75J0];exact lF (n:=d.2.2.length) hp0 (fun i (s:List Y126)=>((i:Int),s)) (portP (prtOf d)) (fun i s=>s.length=s0.length+i) (J:=fun s=>some s) (F:=u75L5 d) (fun g i s hi hI=>by
   have e3:((i:Int)).toNat=i:=rfl;refine(if_pos (by grind)).trans ?_;rw[e3,gP ⟨oo,trivial⟩,lE,gP ⟨⟨by grind,by grind⟩,trivial⟩,gP ⟨oo,trivial⟩];rfl) (fun i s hi hI=>by grind[portP,List.length_append]) (fun g s _=>aE) s0 rfl
 have key:=lF (n:=d.1.length) hi0 (fun i (s:List Y126)=>(s,(i:Int))) (placesF (insOf d)) (fun i s=>s.length<=5*i) (J:=u75J0 d) (F:=u75L1 d) (fun g i s hi hI=>by
  have e3:((i:Int)).toNat=i:=rfl;have hx:=(h5 i hi).2;have hn:(insOf d i).2.2.length<=9223372036854775807:=by omega
  refine(if_pos (by grind)).trans ?_;rw[e3,gP ⟨oo,trivial⟩,lE];have inner:=lF (n:=(insOf d i).2.2.length) hn (fun k (s:List Y126)=>((k:Int),s)) (instP (insOf d i) i) (fun k z=>z.length=s.length+k) (J:=u75J2 (i:Int) g) (F:=u75L3 (i:Int) (insOf d i) g) (fun g3 k z hk hz=>by
   have e4:((k:Int)).toNat=k:=rfl;refine(if_pos (by grind)).trans ?_;rw[e4,gP ⟨oo,trivial⟩,gP ⟨oo,⟨by grind,by grind⟩,trivial⟩,lE];exact gP ⟨oo,trivial⟩) (fun k z hk hz=>by grind[instP,List.length_append]) (fun g3 z _=>aE) s rfl
  refine inner.trans ?_;exact gP ⟨oo,trivial⟩) (fun i s hi hI=>by
  grind[placesF,instP_len]) (fun g s _=>aE) [] (Nat.zero_le _)
 refine key.trans (k5 _ ?_);have:=placesF_len (x:=insOf d) (ni:=d.1.length) (fun i hi=>(h5 i hi).2) d.1.length (Nat.le_refl _);omega
theorem r65(d:Y47)(hd:wf y47 d)(h14:d.1.length<=14)(h8:d.2.2.length<=8)(h5:∀i,i<d.1.length->1<=(insOf d i).2.2.length/\(insOf d i).2.2.length<=5):u65 d=some (placesN d.1.length d.2.2.length (insOf d) (prtOf d)):=by
 have hi0:=hd.1.1;have hp0:=hd.2.2.1;unfold u65;have k5:∀s:List Y111,s.length<=70->u65J0 d s=some (fN (portP (prtOf d)) d.2.2.length s):=fun s0 hs=>by
  rw[u65J0];exact lF (n:=d.2.2.length) hp0 (fun i (s:List Y111)=>((i:Int),s)) (portP (prtOf d)) (fun i s=>s.length=s0.length+i) (J:=fun s=>some s) (F:=u65L5 d) (fun g i s hi hI=>by
   have e3:((i:Int)).toNat=i:=rfl;refine(if_pos (by grind)).trans ?_;rw[e3,gP ⟨oo,oo,⟨by grind,by grind⟩,trivial⟩,lE];exact gP ⟨oo,trivial⟩) (fun i s hi hI=>by grind[portP,List.length_append]) (fun g s _=>aE) s0 rfl
 have key:=lF (n:=d.1.length) hi0 (fun i (s:List Y111)=>((i:Int),s)) (placesF (insOf d)) (fun i s=>s.length<=5*i) (J:=u65J0 d) (F:=u65L1 d) (fun g i s hi hI=>by
  have e3:((i:Int)).toNat=i:=rfl;have hx:=(h5 i hi).2;have hn:(insOf d i).2.2.length<=9223372036854775807:=by omega
  refine(if_pos (by grind)).trans ?_;rw[e3,gP ⟨oo,trivial⟩,lE];have inner:=lF (n:=(insOf d i).2.2.length) hn (fun k (s:List Y111)=>((k:Int),s)) (instP (insOf d i) i) (fun k z=>z.length=s.length+k) (J:=u65J2 (i:Int) g) (F:=u65L3 (i:Int) (insOf d i) g) (fun g3 k z hk hz=>by
   have e4:((k:Int)).toNat=k:=rfl;refine(if_pos (by grind)).trans ?_;rw[e4,gP ⟨oo,oo,⟨by grind,by grind⟩,trivial⟩,lE];exact gP ⟨oo,trivial⟩) (fun k z hk hz=>by grind[instP,List.length_append]) (fun g3 z _=>aE) s rfl
  refine inner.trans ?_;exact gP ⟨oo,trivial⟩) (fun i s hi hI=>by
  grind[placesF,instP_len]) (fun g s _=>aE) [] (Nat.zero_le _)
 refine key.trans (k5 _ ?_);have:=placesF_len (x:=insOf d) (ni:=d.1.length) (fun i hi=>(h5 i hi).2) d.1.length (Nat.le_refl _);omega
abbrev plcs(d:Y47):List DPlace:=placesN d.1.length d.2.2.length (insOf d) (prtOf d)
abbrev plcOf(d:Y47)(i:Nat):DPlace:=(plcs d).getD i (dflt y126)
abbrev wirOf(b:Y50)(i:Nat):Y36:=b.2.2.getD i (dflt y36)
def blockOk(b:Y50):Bool:=designOk b.1 b.2.1&&decide (b.2.2.length=b.2.1.2.1.length)&&!(List.range b.2.2.length).any fun i=>!wireB (wirOf b i) (cntP (plcOf b.2.1) i (plcs b.2.1).length)
structure DF(l:List Y115)(d:Y47):Prop where
 lib:libOk l=true
 fac:DesignFacts l.length (pinsAt l) d.1.length d.2.2.length d.2.1.length (insOf d) (prtOf d)
 pin:∀i,i<d.1.length->1<=(insOf d i).2.2.length/\(insOf d i).2.2.length<=5
 plc:netsIn d.2.1.length (plcs d)
 len:(plcs d).length<=78
theorem df_of{l:List Y115}{d:Y47}(h:designOk l d=true):DF l d:=by
 obtain⟨h1,h2⟩:=design_facts h;have hp:∀i,i<d.1.length->1<=(insOf d i).2.2.length/\(insOf d i).2.2.length<=5:=fun i hi=>by
  have hin:=h2.inst i hi;have g1:=(inst_nets hin (fun y hy=>(lib_pins h1 hy).1)).1;unfold instB at hin;simp only[ba,beq_iff_eq] at hin
  grind[lib_pins]
 have hn:=h2.net;refine⟨h1,h2,hp,portP_in hn.2 (placesF_in hn.1 d.1.length (Nat.le_refl _)) d.2.2.length (Nat.le_refl _),?_⟩;have:=placesF_len (x:=insOf d) (ni:=d.1.length) (fun i hi=>(hp i hi).2) d.1.length (Nat.le_refl _);have h14:=h2.ni14;have h8:=h2.np8;unfold plcs placesN
 grind[portP_len]
theorem r29(b:Y50)(hw:wf y50 b)(hm:cnt y50 b<=1048576):u29 b=some (blockOk b):=by
 have hl:=hw.1;have hd:=hw.2.1;have h0:=hw.2.2.1;have mw:b.2.2.length<=1048576:=cnt_len (cS (cS hm));unfold u29 blockOk;rw[r74 b.1 b.2.1 hl hd (cF hm) (cF (cS hm)),vS,gP ⟨rfl,trivial⟩];cases hdo:designOk b.1 b.2.1 with
 | false=>grind
 | true =>
   have df:=df_of hdo;by_cases hlen:b.2.2.length=b.2.1.2.1.length
   ·have e0:((b.2.2.length:Int) != (b.2.1.2.1.length:Int))=false:=by rw[hlen]; simp
    rw[e0,decide_eq_true hlen];refine(if_neg (by simp)).trans ?_;rw[gP (rep_ok mw (by decide)),Int.toNat_natCast,r75 b.2.1 hd df.fac.ni14 df.fac.np8 df.pin,vS,gP ⟨rfl,trivial⟩,lE];have hpl:(plcs b.2.1).length<=9223372036854775807:=by have:=df.len; omega
    have hin:∀i,i < (plcs b.2.1).length->inB (plcOf b.2.1 i).2.2.1 0 ((b.2.2.length:Int)-1)=true:=fun i hi=>by
     rw[hlen]; exact df.plc _ (getD_mem hi)
    have key:=lF (n:=(plcs b.2.1).length) hpl (fun i (v:List Int)=>((i:Int),v)) (sinkF (plcOf b.2.1)) (fun i v=>i<=(plcs b.2.1).length/\lowAt v b.2.2.length i) (J:=u29J0 b) (F:=u29L1 (plcs b.2.1) b) (fun g i v hi hI=>by
     have e3:((i:Int)).toNat=i:=rfl;have j2:∀v',u29J2 (i:Int) g v'=g (((i+1:Nat):Int),v'):=fun v'=>gP ⟨oo,trivial⟩;refine(if_pos (by grind)).trans ?_;rw[e3,gP ⟨oo,hi,trivial⟩,lE,j2];show(if(!(plcOf b.2.1 i).2.2.2)=true then _ else _)=g (_,sinkF (plcOf b.2.1) i v);unfold sinkF;cases hdr:(plcOf b.2.1 i).2.2.2 with
     | true=>rfl
     | false =>
       refine(if_pos rfl).trans ?_;refine(gP (inc_ok hI.2 (by have:=df.len; omega) (hin i hi))).trans ?_;rw[lE];exact j2 _) (fun i v hi hI=>⟨by omega,by
     grind[sinkF,lowAt_inc,lowAt_up]⟩) (fun g v _=>aE) (List.replicate b.2.2.length 0) ⟨by omega,lowAt_rep _ _⟩
    refine key.trans ?_;obtain⟨s1,s2⟩:=sink_fold (plcOf b.2.1) b.2.2.length (plcs b.2.1).length hin;generalize fN (sinkF (plcOf b.2.1)) (plcs b.2.1).length (List.replicate b.2.2.length 0)=v at *
    rw[u29J0];have key2:=lp_all (n:=b.2.2.length) h0 (fun i=>!wireB (wirOf b i) (cntP (plcOf b.2.1) i (plcs b.2.1).length)) (some false) (e:=some true) (F:=u29L4 v b) (fun g i hi=>by
     have e3:((i:Int)).toNat=i:=rfl;refine(if_pos (by grind)).trans ?_;rw[e3,gP ⟨oo,trivial⟩,lE,s2 i hi,r76 _ _ (wf_el hi hw.2.2),vS,gP ⟨oo,by omega,rfl,trivial⟩,gP ⟨oo,trivial⟩]) (fun g=>aE)
    grind
   grind
theorem r57(d:Y47)(hd:wf y47 d){l:List Y115}(df:DF l d)(t:Int):u57 d t=some (fN (sinkL (plcOf d) t) (plcs d).length []):=by
 have hl:=df.len;unfold u57;rw[r65 d hd df.fac.ni14 df.fac.np8 df.pin,vS,gP ⟨rfl,trivial⟩,lE];exact lF (n:=(plcs d).length) (by omega) (fun i (s:List Int)=>((i:Int),s)) (sinkL (plcOf d) t) (fun i s=>s.length<=i) (J:=fun s=>some s) (F:=u57L1 (plcs d) t) (fun g i s hi hI=>by
  have e3:((i:Int)).toNat=i:=rfl;have j2:∀s',u57J2 (i:Int) g s'=g (((i+1:Nat):Int),s'):=fun v'=>gP ⟨oo,trivial⟩;refine(if_pos (by grind)).trans ?_;have hI':s.length<=i:=hI;rw[e3,gP ⟨oo,hi,fun _=>oo,fun _=>hi,trivial⟩,gP ⟨⟨by grind,by grind⟩,trivial⟩,j2,j2];show _=g (_,sinkL (plcOf d) t i s);unfold sinkL
  grind) (fun i s hi hI=>by
  grind[sinkL,List.length_append]) (fun g s _=>aE) [] (Nat.le_refl _)
theorem r22(b:Y50)(hw:wf y50 b)(hm:cnt y50 b<=1048576):u22 b=some (blockOk b):=by
 have hl:=hw.1;have hd:=hw.2.1;have h0:=hw.2.2.1;unfold u22 blockOk;rw[r55 b.1 b.2.1 hl hd (cF (cS hm)),vS,gP ⟨rfl,trivial⟩];cases hdo:designOk b.1 b.2.1 with
 | false=>grind
 | true =>
   have df:=df_of hdo;by_cases hlen:b.2.2.length=b.2.1.2.1.length
   ·have e0:((b.2.2.length:Int) != (b.2.1.2.1.length:Int))=false:=by rw[hlen]; simp
    rw[e0,decide_eq_true hlen];refine(if_neg (by simp)).trans ?_;have key2:=lp_all (n:=b.2.2.length) h0 (fun i=>!wireB (wirOf b i) (cntP (plcOf b.2.1) i (plcs b.2.1).length)) (some false) (e:=some true) (F:=u22L1 b) (fun g i hi=>by
     have e3:((i:Int)).toNat=i:=rfl;refine(if_pos (by grind)).trans ?_;rw[e3,r57 b.2.1 hd df,vS,sinkL_len,r56 _ _ (wf_el hi hw.2.2),gP ⟨oo,rfl,rfl,trivial⟩,lE,sinkL_len,r56 _ _ (wf_el hi hw.2.2),vS,gP ⟨oo,trivial⟩]) (fun g=>aE)
    grind
   grind
theorem block_design{b:Y50}(h:blockOk b=true):designOk b.1 b.2.1=true/\b.2.2.length=b.2.1.2.1.length/\∀i,i<b.2.2.length->wireB (wirOf b i) (cntP (plcOf b.2.1) i (plcs b.2.1).length)=true:=by
 grind[blockOk,hi]
abbrev cma:ByteArray:=ByteArray.mk #[44]
abbrev bar:ByteArray:=ByteArray.mk #[124]
theorem joinS_snoc(l:List ByteArray)(x sep:ByteArray):joinS (l++[x]) sep=if l.length=0 then x else joinS l sep++sep++x:=by
 unfold joinS;rw[List.map_append,List.map_singleton,join_snoc,List.length_map];split
 ·exact ba_bs x
 ·rw[<- ba_app,<- ba_app,ba_bs,ba_bs]
theorem joinS_four(a b c d sep:ByteArray):joinS [a,b,c,d] sep=a++sep++b++sep++c++sep++d:=by
 rw[show [a,b,c,d]=([a,b,c]:List ByteArray)++[d] from rfl,joinS_snoc,if_neg (by simp),show [a,b,c]=([a,b]:List ByteArray)++[c] from rfl,joinS_snoc,if_neg (by simp),show [a,b]=([a]:List ByteArray)++[b] from rfl,joinS_snoc,if_neg (by simp),joinS_one]
theorem map_range_getD{α β:Type}(f:α->β)(d:α)(xs:List α):((List.range xs.length).map fun i=>f (xs.getD i d))=xs.map f:=by
 refine List.ext_getElem (by simp) fun i h1 h2=>?_;have hi:i<xs.length:=by simpa using h2
 simp[gq,List.getElem?_eq_getElem hi]
theorem numS_size{n:Int}(h:InI n):(numS n).size<=21:=by
 show(⟨(Lib.itoa n).toArray⟩:ByteArray).size<=21;rw[ba_size];exact itoa_len h
theorem r88(n:Int):u88 n=some (numS n):=by
 have e:u152 n 10=some (numS n):=if_pos rfl;unfold u88;rw[e,vS,gP ⟨rfl,trivial⟩];rfl
theorem r67{n:Int}(h : -1<=n):u67 n=some (numS n):=if_pos (by omega)
theorem r153(xs:List ByteArray)(sep:ByteArray)(h1:xs.length<=1000000)(h2:(joinS xs sep).size<=1000000000):u153 xs sep=some (joinS xs sep):=by
 refine if_pos ⟨by omega,?_⟩;have e:(joinS xs sep).size=(Lib.join (xs.map (·.data.toList)) sep.data.toList).length:=by
  show(⟨(Lib.join (xs.map bs) (bs sep)).toArray⟩:ByteArray).size=_;rw[ba_size]; rfl
 omega
def numL(xs:List Int):ByteArray:=joinS (xs.map numS) cma
theorem numL_size{xs:List Int}(hI:∀x∈xs,InI x):(numL xs).size<=xs.length*22:=by
 have:=joinS_len (l:=xs.map numS) (sep:=cma) (M:=22) (fun y hy=>by
  obtain⟨x,hx,rfl⟩:=List.mem_map.1 hy;have:=numS_size (hI x hx);have e:cma.size=1:=rfl;omega)
 rwa [List.length_map] at this
theorem r154(xs:List Int)(hl:xs.length<=1000)(hI:∀x∈xs,InI x):u154 xs cma=some (numL xs):=by
 unfold u154;rw[gP ⟨⟨by omega,rfl,by omega,by omega⟩,trivial⟩,Int.toNat_natCast];have key:=lp_fill (n:=xs.length) (by omega) (fun i (s:List ByteArray)=>((i:Int),s)) (ByteArray.mk #[]) (fun i=>numS (xs.getD i 0)) (J:=u154J0 cma) (F:=u154L1 xs cma) (fun g i s hi hs=>by
  have hsl:s.length=xs.length:=by rw[hs]; exact fillN_len _ _ (by omega)
  refine(if_pos (by simpa using hi)).trans ?_;have e3:((i:Int)).toNat=i:=rfl;rw[e3,r88,vS];refine(gP ⟨oo,trivial⟩).trans ?_;refine(gP ⟨rfl,oo,by omega,trivial⟩).trans ?_;rw[lE];exact gP ⟨oo,trivial⟩) (fun g s _=>if_neg (by simp))
 refine key.trans ?_;rw[map_range_getD numS 0 xs];have hz:=numL_size hI;have e:=r153 (xs.map numS) cma (by rw[List.length_map]; omega) (by unfold numL at hz; omega);show gd _ _=_;rw[e,vS];exact gP ⟨rfl,trivial⟩
theorem cat_numL(xs:List Int):∀n,n<=xs.length->catN (ByteArray.mk #[]) (fun i=>if i=0 then numS (xs.getD i 0) else cma++numS (xs.getD i 0)) n=numL (xs.take n)
 | 0,_=>rfl
 | n+1,h=>by
   have hn:n<xs.length:=by omega
   have hg:xs.getD n 0=xs[n]:=by rw[gq,List.getElem?_eq_getElem hn]; rfl
   rw[catN,cat_numL xs n (by omega),List.take_succ_eq_append_getElem hn];unfold numL;rw[List.map_append,List.map_singleton,joinS_snoc,List.length_map,List.length_take,hg];by_cases h0:n=0
   ·subst h0; rfl
   ·rw[if_neg h0,if_neg (by omega),ByteArray.append_assoc]
theorem r119(xs:List Int)(hl:xs.length<=1000)(hI:∀x∈xs,InI x)(h0:∀x∈xs,-1<=x):u119 xs=some (numL xs):=by
 unfold u119;have hp:∀i,i<xs.length->((fun i=>if i=0 then numS (xs.getD i 0) else cma++numS (xs.getD i 0)) i).size<=22:=fun i hi=>by
  have hz:=numS_size (hI (xs.getD i 0) (getD_mem hi));have e:cma.size=1:=rfl;dsimp only;split
  ·omega
  ·rw[ByteArray.size_append]; omega
 have key:=lp_cat (n:=xs.length) (by omega) (fun i (s:ByteArray)=>(s,(i:Int))) (fun i=>if i=0 then numS (xs.getD i 0) else cma++numS (xs.getD i 0)) (ByteArray.mk #[]) (J:=u119J0) (F:=u119L1 xs) (fun g i s hi hs=>by
  have hsz:s.size<=0+i*22:=by rw[hs]; exact catN_size i fun j hj=>hp j (by omega)
  have hx:=h0 (xs.getD i 0) (getD_mem hi);have hz:=numS_size (hI (xs.getD i 0) (getD_mem hi));have e3:((i:Int)).toNat=i:=rfl;have j2:∀s':ByteArray,s'.size<=100000->u119J2 (i:Int) xs g s'=g (s'++numS (xs.getD i 0),((i+1:Nat):Int)):=fun s' hs'=>by
   show gd _ _=_;rw[e3,r67 hx,vS];refine(gP ⟨oo,rfl,by omega,trivial⟩).trans ?_;rw[lE];exact gP ⟨oo,trivial⟩
  refine(if_pos (by simpa using hi)).trans ?_;have ec:(ByteArray.mk #[44]).size=1:=rfl;by_cases hi0:i=0
  ·refine(if_neg (by simp; omega)).trans ?_;rw[j2 s (by omega),if_pos hi0]
  ·refine(if_pos (by simp; omega)).trans ?_;refine(gP ⟨by omega,trivial⟩).trans ?_;rw[j2 _ (by rw[ByteArray.size_append]; omega),if_neg hi0,ByteArray.append_assoc]) (fun g s _=>if_neg (by simp))
 refine key.trans ?_;rw[cat_numL xs _ (Nat.le_refl _),List.take_length];rfl
def wireT(w:Y36):ByteArray:=joinS [numL w.1,numL w.2.1,numL w.2.2.1,numL w.2.2.2] bar
structure WSmall(w:Y36):Prop where
 l1:w.1.length<=1000
 l2:w.2.1.length<=1000
 l3:w.2.2.1.length<=1000
 l4:w.2.2.2.length<=1000
 g1:∀x∈w.1,InI x /\ -1<=x
 g2:∀x∈w.2.1,InI x /\ -1<=x
 g3:∀x∈w.2.2.1,InI x /\ -1<=x
 g4:∀x∈w.2.2.2,InI x /\ -1<=x
theorem all_lo{xs:List Int}{lo hi:Int}(h:xs.all (inB · lo hi)=true)(h0:0<=lo)(h1:hi<=100000):∀x∈xs,InI x /\ -1<=x:=fun x hx=>by
 have:=inB_iff.1 (List.all_eq_true.1 h x hx);exact⟨oo,by omega⟩
theorem wire_small{w:Y36}{n:Int}(hn:n<=1000)(h:wireB w n=true):WSmall w:=by
 unfold wireB at h;simp only[ba,dq,beq_iff_eq] at h;obtain⟨⟨⟨⟨⟨⟨⟨⟨h1,h2⟩,h3⟩,h4⟩,h5⟩,h6⟩,h7⟩,h8⟩,h9⟩:=h;refine⟨by omega,by omega,by omega,by omega,fun x hx=>?_,all_lo h6 (by omega) (by omega),all_lo h7 (by omega) (by omega),all_lo h8 (by omega) (by omega)⟩;obtain⟨i,hi,rfl⟩:=List.getElem_of_mem hx;have hg:w.1.getD i 0=w.1[i]:=by rw[gq,List.getElem?_eq_getElem hi]; rfl
 have h10:=not_any.1 h9 i hi;rw[hg] at h10;by_cases h0:i=0
 ·subst h0;simp at h10;exact⟨oo,by omega⟩
 ·have:inB w.1[i] 0 ((i:Int)-1)=true:=by
   have e1:decide (0<i)=true:=by simp; omega
   have e2:(i==0)=false:=by simp[h0]
   rw[e1,e2] at h10;simpa using h10
  have:=inB_iff.1 this;exact⟨oo,by omega⟩
theorem wireT_size{w:Y36}(h:WSmall w):(wireT w).size<=90000:=by
 have a1:=numL_size fun x hx=>(h.g1 x hx).1;have a2:=numL_size fun x hx=>(h.g2 x hx).1;have a3:=numL_size fun x hx=>(h.g3 x hx).1;have a4:=numL_size fun x hx=>(h.g4 x hx).1;have e:bar.size=1:=rfl;obtain⟨l1,l2,l3,l4,-,-,-,-⟩:=h;unfold wireT;rw[joinS_four];simp only[ByteArray.size_append];omega
theorem r89(w:Y36)(h:WSmall w):u89 w=some (wireT w):=by
 have hz:=wireT_size h;have e:=r153 [numL w.1,numL w.2.1,numL w.2.2.1,numL w.2.2.2] bar (by simp) (by unfold wireT at hz; omega);unfold u89;rw[r154 w.1 h.l1 fun x hx=>(h.g1 x hx).1,r154 w.2.1 h.l2 fun x hx=>(h.g2 x hx).1,r154 w.2.2.1 h.l3 fun x hx=>(h.g3 x hx).1,r154 w.2.2.2 h.l4 fun x hx=>(h.g4 x hx).1]
 repeat rw[vS]
 rw[e,vS];exact gP ⟨rfl,rfl,rfl,rfl,rfl,trivial⟩
theorem r68(w:Y36)(n:Int)(hw:wf y36 w)(hn:n<=1000)(hb:wireB w n=true):u68 w n=some (wireT w):=by
 have h:=wire_small hn hb;have a1:=numL_size fun x hx=>(h.g1 x hx).1;have a2:=numL_size fun x hx=>(h.g2 x hx).1;have a3:=numL_size fun x hx=>(h.g3 x hx).1;have a4:=numL_size fun x hx=>(h.g4 x hx).1;have e:(ByteArray.mk #[124]).size=1:=rfl;have l1:=h.l1;have l2:=h.l2;have l3:=h.l3;have l4:=h.l4;unfold u68;rw[r56 w n hw,vS,hb];refine(gP ⟨rfl,trivial⟩).trans ?_;refine(if_neg (by simp)).trans ?_;rw[r119 w.1 h.l1 (fun x hx=>(h.g1 x hx).1) (fun x hx=>(h.g1 x hx).2),r119 w.2.1 h.l2 (fun x hx=>(h.g2 x hx).1) (fun x hx=>(h.g2 x hx).2),r119 w.2.2.1 h.l3 (fun x hx=>(h.g3 x hx).1) (fun x hx=>(h.g3 x hx).2),r119 w.2.2.2 h.l4 (fun x hx=>(h.g4 x hx).1) (fun x hx=>(h.g4 x hx).2)]
 repeat rw[vS]
 refine(gP ⟨rfl,?_,rfl,?_,?_,rfl,?_,?_,rfl,?_,trivial⟩).trans ?_
 ·rw[lE];unfold wireT;rw[joinS_four]
 ·omega
 ·simp only[ByteArray.size_append]; omega
 ·simp only[ByteArray.size_append]; omega
 ·simp only[ByteArray.size_append]; omega
 ·simp only[ByteArray.size_append]; omega
 ·simp only[ByteArray.size_append]; omega
end Go.Proofs.YtfggbbnnalflhaaGreatDoor
end
section
namespace Go.Proofs.Xd
open Go Go.Proofs Go.Proofs.Xl
def addAt(v:List Int)(i:Nat)(x:Int):List Int:=v.set i (v.getD i 0+x)
theorem addAt_len{v:List Int}{i:Nat}{x:Int}:(addAt v i x).length=v.length:=by grind[addAt]
theorem addAt_get{v:List Int}{i j:Nat}{x:Int}(hi:i<v.length):(addAt v i x).getD j 0=if j=i then v.getD i 0+x else v.getD j 0:=by
 grind[addAt]
def sumTo(v:List Int)(k:Nat):Int:=fN (fun i s=>s+v.getD i 0) k 0
theorem sumTo_succ(v:List Int)(k:Nat):sumTo v (k+1)=sumTo v k+v.getD k 0:=rfl
theorem sumTo_addAt{v:List Int}{i:Nat}{x:Int}(hi:i<v.length):∀k,sumTo (addAt v i x) k=sumTo v k+if i<k then x else 0
 | 0=>by simp[sumTo,fN]
 | k+1=>by
   rw[sumTo_succ,sumTo_succ,sumTo_addAt hi k,addAt_get hi];by_cases h:k=i
   ·subst h; simp; omega
   ·rw[if_neg h];by_cases h2:i<k
    ·rw[if_pos h2,if_pos (by omega)]; omega
    ·rw[if_neg h2,if_neg (by omega)]; omega
theorem sumTo_pos{v:List Int}(hp:∀j,0<=v.getD j 0):∀k,0<=sumTo v k
 | 0=>by simp[sumTo,fN]
 | k+1=>by have:=sumTo_pos hp k; grind[sumTo_succ]
theorem le_sumTo{v:List Int}(hp:∀j,0<=v.getD j 0):∀{k j:Nat},j<k->v.getD j 0<=sumTo v k
 | k+1,j,h=>by
   rw[sumTo_succ];have h1:=sumTo_pos hp k;have h2:=hp k;by_cases e:j=k
   ·grind
   ·have:=le_sumTo hp (k:=k) (j:=j) (by omega); omega
structure Low(v:List Int)(n:Nat)(S:Int):Prop where
 len:v.length=n
 pos:∀j,0<=v.getD j 0
 sum:sumTo v n<=S
theorem sumTo_bd{v:List Int}{c:Int}(hp:∀j,v.getD j 0<=c):∀k:Nat,sumTo v k<=c*(k:Int)
 | 0=>by simp[sumTo,fN]
 | k+1=>by
   have:=sumTo_bd hp k
   grind[sumTo_succ,Int.natCast_add,Int.mul_add]
theorem low_all{v:List Int}{n:Nat}(hn:v.length=n)(h:v.all (inB · 0 500)=true):Low v n (500*(n:Int)):=by
 have hj:∀j,0<=v.getD j 0/\v.getD j 0<=500:=fun j=>by
  grind[Nat.lt_or_ge,inB_iff,all_getD,inB,List.getElem?_eq_none]
 exact⟨hn,fun j=>(hj j).1,sumTo_bd (fun j=>(hj j).2) n⟩
theorem Low.bd{v:List Int}{n:Nat}{S:Int}(h:Low v n S)(hS:0<=S)(j:Nat):0<=v.getD j 0/\v.getD j 0<=S:=by
 refine⟨h.pos j,?_⟩;rcases Nat.lt_or_ge j n with hj | hj
 ·exact Int.le_trans (le_sumTo h.pos hj) h.sum
 ·rw[gq,List.getElem?_eq_none (by rw[h.len]; exact hj)]; exact hS
theorem Low.add{v:List Int}{n:Nat}{S:Int}(h:Low v n S){i:Nat}(hi:i<n){x:Int}(hx:0<=x):Low (addAt v i x) n (S+x):=by
 have hi':i<v.length:=by rw[h.len]; exact hi
 refine⟨by rw[addAt_len]; exact h.len,fun j=>?_,?_⟩
 ·rw[addAt_get hi'];have:=h.pos i;have:=h.pos j;omega
 ·rw[sumTo_addAt hi',if_pos hi]; have:=h.sum; omega
def capF(s c:Nat->Int)(i:Nat)(v:List Int):List Int:=addAt v (s i).toNat (c i)
theorem capF_low{s c:Nat->Int}{v:List Int}{n:Nat}{S:Int}(h:Low v n S):∀m,(∀i,i<m->0<=s i/\(s i).toNat<n/\0<=c i/\c i<=500)->Low (fN (capF s c) m v) n (S+500*(m:Int))
 | 0,_=>⟨h.len,h.pos,by have:=h.sum; show sumTo v n<=_; omega⟩
 | m+1,hm=>by
   have ih:=capF_low h m (fun i hi=>hm i (by omega));obtain⟨h1,h2,h3,h4⟩:=hm m (by omega);have:=ih.add h2 h3;refine⟨this.len,this.pos,?_⟩;have:=this.sum;rw[Int.natCast_add,Int.mul_add];refine Int.le_trans this ?_;omega
structure Pull(v:List Int)(n k:Nat)(S:Int):Prop where
 len:v.length=n
 pos:∀j,0<=v.getD j 0
 bd:∀j,v.getD j 0<=S
 sum:sumTo v (n-k)<=S
def plcIn(ni np:Nat)(x:Nat->DInst)(p:DPlace):Prop:=(p.1 = -1/\0<=p.2.1/\p.2.1.toNat<np)∨(0<=p.1/\p.1.toNat<ni/\0<=p.2.1/\p.2.1.toNat < (x p.1.toNat).2.2.length)
theorem instP_kind{ni np:Nat}{x:Nat->DInst}{i:Nat}(hi:i<ni){s:List DPlace}(hs:∀p∈s,plcIn ni np x p):∀k,k<=(x i).2.2.length->∀p∈fN (instP (x i) i) k s,plcIn ni np x p
 | 0,_=>hs
 | k+1,hk=>fun p hp=>by
   have hp:p∈instP (x i) i k (fN (instP (x i) i) k s):=hp;unfold instP at hp;rcases List.mem_append.1 hp with hp | hp
   ·exact instP_kind hi hs k (by omega) p hp
   ·cases List.mem_singleton.1 hp;exact .inr ⟨Int.natCast_nonneg _,by omega,Int.natCast_nonneg _,by grind⟩
theorem placesF_kind{ni np:Nat}{x:Nat->DInst}:∀i,i<=ni->∀p∈fN (placesF x) i [],plcIn ni np x p
 | 0,_=>fun p hp=>by cases hp
 | i+1,hi=>instP_kind (by omega) (placesF_kind i (by omega)) _ (Nat.le_refl _)
theorem portP_kind{ni np:Nat}{x:Nat->DInst}{y:Nat->DPort}{s:List DPlace}(hs:∀p∈s,plcIn ni np x p):∀k,k<=np->∀p∈fN (portP y) k s,plcIn ni np x p
 | 0,_=>hs
 | k+1,hk=>fun p hp=>by
   have hp:p∈portP y k (fN (portP y) k s):=hp;unfold portP at hp;rcases List.mem_append.1 hp with hp | hp
   ·exact portP_kind hs k (by omega) p hp
   ·cases List.mem_singleton.1 hp;exact .inl ⟨rfl,Int.natCast_nonneg _,by grind⟩
theorem places_kind(ni np:Nat)(x:Nat->DInst)(y:Nat->DPort):∀p∈placesN ni np x y,plcIn ni np x p:=portP_kind (placesF_kind ni (Nat.le_refl _)) np (Nat.le_refl _)
theorem sinkL_in(pl:Nat->DPlace)(t:Int):∀m,∀x∈fN (sinkL pl t) m [],∃j:Nat,x=(j:Int)/\j<m/\(pl j).2.2.1=t/\(pl j).2.2.2=false
 | 0,x,h=>by cases h
 | m+1,x,h=>by
   have ih:=sinkL_in pl t m x;have h:x∈sinkL pl t m (fN (sinkL pl t) m []):=h;generalize fN (sinkL pl t) m []=s at ih h;unfold sinkL at h;split at h
   ·rename_i hc;rw[ba,beq_iff_eq,Bool.not_eq_true'] at hc;rcases List.mem_append.1 h with h | h
    ·obtain⟨j,h1,h2,h3⟩:=ih h;exact⟨j,h1,by omega,h3⟩
    ·cases List.mem_singleton.1 h;exact⟨m,rfl,by omega,hc⟩
   ·obtain⟨j,h1,h2,h3⟩:=ih h;exact⟨j,h1,by omega,h3⟩
structure WireFacts(w:DWire)(n:Int):Prop where
 n1:1<=w.1.length
 n8:w.1.length<=8
 res:w.2.1.length=w.1.length
 cap:w.2.2.1.length=w.1.length
 snk:(w.2.2.2.length:Int)=n
 resIn:∀i,i<w.1.length->0<=w.2.1.getD i 0/\w.2.1.getD i 0<=1000
 capOk:w.2.2.1.all (inB · 0 500)=true
 snkIn:∀i,i<w.2.2.2.length->0<=w.2.2.2.getD i 0/\(w.2.2.2.getD i 0).toNat<w.1.length
 par:∀i,0<i->i<w.1.length->0<=w.1.getD i 0/\(w.1.getD i 0).toNat<i
theorem wire_facts{w:DWire}{n:Int}(h:wireB w n=true):WireFacts w n:=by
 unfold wireB at h;simp only[ba,dq,beq_iff_eq] at h;obtain⟨⟨⟨⟨⟨⟨⟨⟨c1,c2⟩,c3⟩,c4⟩,c5⟩,c6⟩,c7⟩,c8⟩,c9⟩:=h;refine⟨c1,c2,c3,c4,c5,fun i hi=>?_,c7,fun i hi=>?_,fun i h0 hi=>?_⟩
 ·exact inB_iff.1 (all_getD (p:=fun x=>inB x 0 1000) c6 (by omega))
 ·have:=inB_iff.1 (all_getD (p:=fun x=>inB x 0 ((w.1.length:Int)-1)) c8 hi);omega
 ·have:=not_any.1 c9 i hi;rw[Bool.or_eq_false_iff] at this;have h2:=this.2;rw[Bool.and_eq_false_iff,decide_eq_false_iff_not,Bool.not_eq_false',inB_iff] at h2;rcases h2 with h | h
  ·omega
  ·omega
end Go.Proofs.Xd
end
section
namespace Go.Proofs.YtfggbbnnalflhaaGreatDoor
open Go Go.Proofs Go.Proofs.Sv Go.Proofs.Xv Go.Proofs.Xl Go.Proofs.Xd
abbrev sinksV(d:Y47)(t:Int):List Int:=fN (sinkL (plcOf d) t) (plcs d).length []
def capV(l:List Y115)(d:Y47)(p:DPlace):Int:=if p.1<0 then 0 else((l.getD (insOf d p.1.toNat).2.1.toNat (dflt y115)).2.2.1.getD p.2.1.toNat (dflt y170)).2.2.1
theorem plc_mem{d:Y47}{i:Nat}(h:i < (plcs d).length):plcOf d i∈plcs d:=getD_mem h
theorem lib_cell'{l:List Y115}(h:libOk l=true){i:Nat}(hi:i<l.length):cellOk isArcS (celOf l i)=true:=by
 have h:libB _ _ _=true:=h;unfold libB at h;rw[ba] at h;have:=not_any.1 h.1 i hi;rw[Bool.or_eq_false_iff,Bool.not_eq_false'] at this;exact this.1
theorem plc_pin{l:List Y115}{d:Y47}(df:DF l d){p:DPlace}(hp:p∈plcs d):(p.1 = -1/\0<=p.2.1/\p.2.1.toNat<d.2.2.length) ∨
  (0<=p.1/\p.1.toNat<d.1.length/\0<=(insOf d p.1.toNat).2.1/\(insOf d p.1.toNat).2.1.toNat<l.length/\0<=p.2.1/\p.2.1.toNat < (l.getD (insOf d p.1.toNat).2.1.toNat (dflt y115)).2.2.1.length):=by
 rcases places_kind d.1.length d.2.2.length (insOf d) (prtOf d) p hp with h | ⟨h1,h2,h3,h4⟩
 ·exact .inl h
 ·have hin:=df.fac.inst p.1.toNat h2;unfold instB at hin;simp only[ba,beq_iff_eq] at hin;have h5:=inB_iff.1 hin.1.1;have h6:=hin.1.2;refine .inr ⟨h1,h2,h5.1,by omega,h3,?_⟩;have h6:((insOf d p.1.toNat).2.2.length:Int)=((l.getD (insOf d p.1.toNat).2.1.toNat (dflt y115)).2.2.1.length:Int):=h6;omega
theorem pin_cap{l:List Y115}{d:Y47}(df:DF l d){p:DPlace}(hp:p∈plcs d):0<=capV l d p/\capV l d p<=500:=by
 unfold capV;split
 ·exact⟨by decide,by decide⟩
 ·rename_i hn;rcases plc_pin df hp with h | ⟨h1,h2,h3,h4,h5,h6⟩
  ·omega
  ·have hc:cellB isArcS _ _ _ _ _ _ _ _ _=true:=lib_cell' df.lib h4;unfold cellB pinsOk at hc;simp only[ba] at hc;have:=not_any.1 hc.1.1.1.1.2.2 p.2.1.toNat h6;rw[Bool.not_eq_false'] at this;unfold pinB at this;rw[ba] at this;exact inB_iff.1 this.1
theorem sinksV_at{d:Y47}{t:Int}{k:Nat}(h:k < (sinksV d t).length):0<=(sinksV d t).getD k 0/\((sinksV d t).getD k 0).toNat < (plcs d).length:=by
 obtain⟨j,h1,h2,_⟩:=sinkL_in (plcOf d) t (plcs d).length _ (getD_mem (d:=0) h);rw[h1];exact⟨Int.natCast_nonneg _,by simpa using h2⟩
structure NetOk(b:Y50)(i:Nat):Prop where
 df:DF b.1 b.2.1
 lt:i<b.2.2.length
 wf:WireFacts (wirOf b i) ((sinksV b.2.1 i).length:Int)
theorem net_ok{b:Y50}(h:blockOk b=true){i:Nat}(hi:i<b.2.2.length):NetOk b i:=by
 obtain⟨h1,h2,h3⟩:=block_design h;refine⟨df_of h1,hi,?_⟩;rw[sinkL_len];exact wire_facts (h3 i hi)
def nodeS(b:Y50)(i k:Nat):Int:=(wirOf b i).2.2.2.getD k 0
def capS(b:Y50)(i k:Nat):Int:=capV b.1 b.2.1 (plcOf b.2.1 ((sinksV b.2.1 i).getD k 0).toNat)
theorem NetOk.sn{b:Y50}{i:Nat}(h:NetOk b i):(wirOf b i).2.2.2.length=(sinksV b.2.1 i).length:=by have:=h.wf.snk; omega
theorem NetOk.s78{b:Y50}{i:Nat}(h:NetOk b i):(sinksV b.2.1 i).length<=78:=by
 have h1:=h.df.len;have h2:=cntP_le (plcOf b.2.1) i (plcs b.2.1).length;have h3:=sinkL_len (plcOf b.2.1) i (plcs b.2.1).length;have h4:((sinksV b.2.1 i).length:Int)=cntP (plcOf b.2.1) i (plcs b.2.1).length:=h3;omega
theorem NetOk.capIn{b:Y50}{i:Nat}(h:NetOk b i){k:Nat}(hk:k < (sinksV b.2.1 i).length):0<=nodeS b i k/\(nodeS b i k).toNat < (wirOf b i).1.length/\0<=capS b i k/\capS b i k<=500:=by
 have h1:=h.wf.snkIn k (by rw[h.sn]; exact hk);have h2:=pin_cap h.df (plc_mem (sinksV_at hk).2);exact⟨h1.1,h1.2,h2.1,h2.2⟩
theorem NetOk.low{b:Y50}{i:Nat}(h:NetOk b i):∀m,m<=(sinksV b.2.1 i).length->Low (fN (capF (nodeS b i) (capS b i)) m (wirOf b i).2.2.1) (wirOf b i).1.length (500*((wirOf b i).1.length:Int)+500*(m:Int)):=fun m hm=>capF_low (low_all h.wf.cap h.wf.capOk) m (fun k hk=>h.capIn (by omega))
abbrev celI(b:Y50)(i:Nat):Y115:=b.1.getD (insOf b.2.1 i).2.1.toNat (dflt y115)
theorem inst_cell'{b:Y50}(df:DF b.1 b.2.1){i:Nat}(hi:i<b.2.1.1.length):ix (insOf b.2.1 i).2.1 b.1.length/\cellOk isArcS (celI b i)=true/\(insOf b.2.1 i).2.2.length=(celI b i).2.2.1.length:=by
 have:=df.fac.inst i hi;unfold instB at this;rw[ba,ba,beq_iff_eq] at this;have h1:=inB_iff.1 this.1.1;have h2:=this.1.2;have h3:((insOf b.2.1 i).2.2.length:Int)=((celI b i).2.2.1.length:Int):=h2;exact⟨⟨h1.1,by omega⟩,lib_cell' df.lib (by omega),by omega⟩
theorem cell_arcs{c:Y115}(h:cellOk isArcS c=true):2<=c.2.2.1.length/\c.2.2.1.length<=5/\c.2.2.2.1.length<=8/\∀j,j<c.2.2.2.1.length->0<=(arcOf c j).2.1/\(arcOf c j).2.1 < (c.2.2.1.length:Int)-1/\0<=(arcOf c j).2.2.1/\(arcOf c j).2.2.1 < (c.2.2.1.length:Int):=by
 have h:cellB isArcS _ _ _ _ _ _ _ _ _=true:=h;unfold cellB arcsB at h;simp only[ba,dq] at h;have hp:=pins_last h.1.1.1.1.2;refine⟨hp.1,hp.2.1,h.1.1.1.2.1,fun j hj=>?_⟩;have:=not_any.1 h.1.1.1.2.2 j hj;rw[Bool.or_eq_false_iff,Bool.not_eq_false'] at this;have ha:=this.1;unfold isArcS at ha;rw[ba,ba] at ha;have h1:=inB_iff.1 ha.1.1;have h2:=inB_iff.1 ha.1.2;omega
theorem nm_size{s:ByteArray}(h:nmB s=true):s.size<=8:=by
 unfold nmB at h;simp only[ba,dq] at h;omega
structure DN(l:List Y115)(d:Y47):Prop where
 df:DF l d
 ins:∀i,i<d.1.length->(insOf d i).1.size<=8
 prt:∀i,i<d.2.2.length->(prtOf d i).1.size<=8
 net:∀i,i<d.2.1.length->(d.2.1.getD i (dflt .str)).size<=8
 cel:∀i,i<l.length->(celOf l i).1.size<=8
theorem dn_of{l:List Y115}{d:Y47}(h:designOk l d=true):DN l d:=by
 have df:=df_of h;have h:designB _ _ _ _ _ _ _ _ _=true:=h;unfold designB at h;simp only[ba] at h;obtain⟨⟨⟨⟨⟨⟨_,c1⟩,c3⟩,c2⟩,_⟩,_⟩,_⟩:=h;refine⟨df,fun i hi=>nm_size (namesB_iff.1 c1 i hi).1,fun i hi=>nm_size (namesB_iff.1 c2 i hi).1,fun i hi=>nm_size (namesB_iff.1 c3 i hi).1,fun i hi=>?_⟩;have hc:cellB isArcS _ _ _ _ _ _ _ _ _=true:=lib_cell' df.lib hi;unfold cellB at hc;simp only[ba] at hc;exact nm_size hc.1.1.1.1.1
abbrev blank:ByteArray:=ByteArray.mk #[32]
abbrev nl:ByteArray:=ByteArray.mk #[10]
abbrev netS(d:Y47)(i:Int):ByteArray:=d.2.1.getD i.toNat (dflt .str)
def instP'(d:Y47)(x:Y152)(i:Nat):ByteArray:=blank++netS d (x.2.2.getD i 0)
def instT(l:List Y115)(d:Y47)(x:Y152):ByteArray:=catN (ByteArray.mk #[105,110,115,116,32]++x.1++blank++(l.getD x.2.1.toNat (dflt y115)).1) (instP' d x) x.2.2.length
structure IOk(l:List Y115)(d:Y47)(x:Y152):Prop where
 nm:x.1.size<=8
 ci:ix x.2.1 l.length
 cn:(l.getD x.2.1.toNat (dflt y115)).1.size<=8
 n5:x.2.2.length<=5
 nt:∀k,k<x.2.2.length->ix (x.2.2.getD k 0) d.2.1.length/\(netS d (x.2.2.getD k 0)).size<=8
theorem i_ok{l:List Y115}{d:Y47}(h:DN l d){i:Nat}(hi:i<d.1.length):IOk l d (insOf d i):=by
 have hin:=h.df.fac.inst i hi;unfold instB at hin;rw[ba,ba] at hin;have h1:=inB_iff.1 hin.1.1;refine⟨h.ins i hi,oo,h.cel _ (by omega),(h.df.pin i hi).2,fun k hk=>?_⟩;have h2:=inB_iff.1 (h.df.fac.net.1 i hi k hk);exact⟨oo,h.net _ (by omega)⟩
theorem instT_size{l:List Y115}{d:Y47}{x:Y152}(h:IOk l d x):(instT l d x).size<=68:=by
 have h5:=h.n5;have h1:=h.nm;have h2:=h.cn;have e1:(ByteArray.mk #[105,110,115,116,32]).size=5:=rfl;have e2:(ByteArray.mk #[32]).size=1:=rfl;have eb:blank.size=1:=rfl;have:=catN_size (s:=ByteArray.mk #[105,110,115,116,32]++x.1++blank++(l.getD x.2.1.toNat (dflt y115)).1) (p:=instP' d x) (M:=9) x.2.2.length (fun i hi=>by
  have:=(h.nt i hi).2;unfold instP';rw[ByteArray.size_append];omega)
 unfold instT;simp only[ByteArray.size_append] at this;omega
def netP(d:Y47)(i:Nat):ByteArray:=ByteArray.mk #[110,101,116,32]++d.2.1.getD i (dflt .str)++nl
def dirT(x:Y166):ByteArray:=if(x.2.1==2)=true then ByteArray.mk #[32,111,117,116,32] else ByteArray.mk #[32,105,110,32]
def prtP(d:Y47)(i:Nat):ByteArray:=ByteArray.mk #[112,111,114,116,32]++(prtOf d i).1++dirT (prtOf d i)++netS d (prtOf d i).2.2++nl
def insP(l:List Y115)(d:Y47)(i:Nat):ByteArray:=instT l d (insOf d i)++nl
def desT1(d:Y47):ByteArray:=catN (ByteArray.mk #[]) (netP d) d.2.1.length
def desT2(d:Y47):ByteArray:=catN (desT1 d) (prtP d) d.2.2.length
def desT(l:List Y115)(d:Y47):ByteArray:=catN (desT2 d) (insP l d) d.1.length
section
variable {l:List Y115} {d:Y47}
theorem netP_size(h:DN l d){i:Nat}(hi:i<d.2.1.length):(netP d i).size<=13:=by
 have h1:=h.net i hi;have e1:(ByteArray.mk #[110,101,116,32]).size=4:=rfl;have e2:nl.size=1:=rfl;unfold netP;simp only[ByteArray.size_append];omega
theorem dirT_size(x:Y166):(dirT x).size<=5:=by
 unfold dirT;split
 ·exact Nat.le_refl 5
 ·show 4<=5; omega
theorem prt_net(h:DN l d){i:Nat}(hi:i<d.2.2.length):ix (prtOf d i).2.2 d.2.1.length/\(netS d (prtOf d i).2.2).size<=8:=by
 have h2:=inB_iff.1 (h.df.fac.net.2 i hi);exact⟨oo,h.net _ (by omega)⟩
theorem prtP_size(h:DN l d){i:Nat}(hi:i<d.2.2.length):(prtP d i).size<=27:=by
 have h1:=h.prt i hi;have h2:=(prt_net h hi).2;have h3:=dirT_size (prtOf d i);have e1:(ByteArray.mk #[112,111,114,116,32]).size=5:=rfl;have e2:nl.size=1:=rfl;unfold prtP;simp only[ByteArray.size_append];omega
theorem insP_size(h:DN l d){i:Nat}(hi:i<d.1.length):(insP l d i).size<=69:=by
 have h1:=instT_size (i_ok h hi);have e2:nl.size=1:=rfl;unfold insP;rw[ByteArray.size_append];omega
theorem s1(h:DN l d)(i:Nat)(hi:i<=d.2.1.length):(catN (ByteArray.mk #[]) (netP d) i).size<=390:=by
 have h1:=catN_size (s:=ByteArray.mk #[]) (p:=netP d) (M:=13) i fun k hk=>netP_size h (by omega);have h2:=h.df.fac.nn30;have e:(ByteArray.mk #[]).size=0:=rfl;omega
theorem s2(h:DN l d)(i:Nat)(hi:i<=d.2.2.length):(catN (desT1 d) (prtP d) i).size<=606:=by
 have h1:=catN_size (s:=desT1 d) (p:=prtP d) (M:=27) i fun k hk=>prtP_size h (by omega);have h2:=h.df.fac.np8;have h3:(desT1 d).size<=390:=s1 h _ (Nat.le_refl _);omega
theorem s3(h:DN l d)(i:Nat)(hi:i<=d.1.length):(catN (desT2 d) (insP l d) i).size<=1572:=by
 have h1:=catN_size (s:=desT2 d) (p:=insP l d) (M:=69) i fun k hk=>insP_size h (by omega);have h2:=h.df.fac.ni14;have h3:(desT2 d).size<=606:=s2 h _ (Nat.le_refl _);omega
end
def wirP(b:Y50)(i:Nat):ByteArray:=ByteArray.mk #[119,105,114,101,32]++b.2.1.2.1.getD i (dflt .str)++blank++wireT (wirOf b i)++nl
section
variable {b:Y50}
theorem wir_ok(hb:blockOk b=true){i:Nat}(hi:i<b.2.2.length):((sinksV b.2.1 i).length:Int)<=78/\wireB (wirOf b i) ((sinksV b.2.1 i).length:Int)=true/\WSmall (wirOf b i)/\(b.2.1.2.1.getD i (dflt .str)).size<=8/\i<b.2.1.2.1.length:=by
 obtain⟨h1,h2,h3⟩:=block_design hb;have h78:=(net_ok hb hi).s78;have hw:=h3 i hi;rw[<- sinkL_len] at hw;exact⟨by omega,hw,wire_small (by show((sinksV b.2.1 i).length:Int)<=1000; omega) hw,(dn_of h1).net i (by omega),by omega⟩
theorem wirP_size(hb:blockOk b=true){i:Nat}(hi:i<b.2.2.length):(wirP b i).size<=90015:=by
 obtain⟨-,-,h1,h2,-⟩:=wir_ok hb hi;have h3:=wireT_size h1;have e1:(ByteArray.mk #[119,105,114,101,32]).size=5:=rfl;have e2:nl.size=1:=rfl;have e3:blank.size=1:=rfl;unfold wirP;simp only[ByteArray.size_append];omega
theorem s4(hb:blockOk b=true)(i:Nat)(hi:i<=b.2.2.length):(catN (desT b.1 b.2.1) (wirP b) i).size<=3000000:=by
 obtain⟨h1,h2,_⟩:=block_design hb;have dn:=dn_of h1;have h3:=catN_size (s:=desT b.1 b.2.1) (p:=wirP b) (M:=90015) i fun k hk=>wirP_size hb (by omega);have h4:(desT b.1 b.2.1).size<=1572:=s3 dn _ (Nat.le_refl _);have h5:=dn.df.fac.nn30;omega
end
theorem eq_any{xs ys:List Int}(h:xs.length=ys.length):(!(List.range xs.length).any fun i=>xs.getD i 0 != ys.getD i 0)=decide (xs=ys):=by
 rw[Bool.eq_iff_iff,dq];constructor
 ·intro hn;have hn:=not_any.1 hn;exact list_eq 0 h (fun i hi=>by simpa using hn i hi)
 ·rintro rfl;exact not_any.2 (fun i _=>by simp)
theorem r231(xs ys:List Int)(h:xs.length<=9223372036854775807):u231 xs ys=some (decide (xs=ys)):=by
 unfold u231;by_cases hl:xs.length=ys.length
 ·have key:=lp_all (n:=xs.length) h (fun i=>xs.getD i 0 != ys.getD i 0) (some false) (e:=some true) (F:=u231L1 xs ys) (fun g i hi=>by
   have e3:((i:Int)).toNat=i:=rfl;refine(if_pos (by simpa using hi)).trans ?_;rw[e3,gP ⟨oo,oo,trivial⟩,gP ⟨oo,trivial⟩]) (fun g=>aE)
  refine(if_neg (by simp[hl])).trans (key.trans ?_);rw[<- eq_any hl];cases(List.range xs.length).any fun i=>xs.getD i 0 != ys.getD i 0 <;> rfl
 ·rw[decide_eq_false (fun e=>hl (by rw[e]))];exact if_pos (by simp; omega)
def sameW(w v:Y36):Bool:=decide (w.1=v.1)&&decide (w.2.1=v.2.1)&&decide (w.2.2.1=v.2.2.1)&&decide (w.2.2.2=v.2.2.2)
theorem r188(w v:Y36)(hw:wf y36 w):u188 w v=some (sameW w v):=by
 unfold u188;rw[r231 _ _ hw.1.1,r231 _ _ hw.2.1.1,r231 _ _ hw.2.2.1.1,r231 _ _ hw.2.2.2.1]
 repeat rw[vS]
 exact gP ⟨rfl,fun _=>rfl,fun _=>rfl,fun _=>rfl,trivial⟩
def sameE(e f:Y38):Bool:=e.1==f.1&&e.2.1==f.2.1&&e.2.2.1==f.2.2.1&&e.2.2.2.1==f.2.2.2.1&&e.2.2.2.2.1==f.2.2.2.2.1&&decide (e.2.2.2.2.2.1=f.2.2.2.2.2.1)&&sameW e.2.2.2.2.2.2 f.2.2.2.2.2.2
theorem r143(e f:Y38)(hw:wf y38 e):u143 e f=some (sameE e f):=by
 unfold u143;rw[r188 _ _ hw.2.2.2.2.2.2,vS,gP ⟨fun _=>rfl,trivial⟩,lE];rfl
def noW(w:Y36):Bool:=(w.1.length:Int)+(w.2.1.length:Int)+(w.2.2.1.length:Int)+(w.2.2.2.length:Int)==0
def blankV(e:Y38):Bool :=
 if(e.1==1)=true then e.2.2.2.1==0&&e.2.2.2.2.1==0&&decide (e.2.2.2.2.2.1=ByteArray.mk #[])&&noW e.2.2.2.2.2.2
 else if(e.1==2)=true then e.2.2.2.1==0&&e.2.2.2.2.1==0&&noW e.2.2.2.2.2.2
 else if(e.1==3)=true then e.2.1==0&&e.2.2.1==0&&e.2.2.2.1==0&&e.2.2.2.2.1==0&&decide (e.2.2.2.2.2.1=ByteArray.mk #[])&&noW e.2.2.2.2.2.2
 else if(e.1==4)=true then e.2.2.1==0&&decide (e.2.2.2.2.2.1=ByteArray.mk #[])&&noW e.2.2.2.2.2.2
 else if(e.1==5)=true then e.2.1==0&&e.2.2.1==0&&e.2.2.2.2.1==0&&decide (e.2.2.2.2.2.1=ByteArray.mk #[])
 else false
theorem wire_cnt{w:Y36}(h:cnt y36 w<=1048576):w.1.length<=1048576/\w.2.1.length<=1048576/\w.2.2.1.length<=1048576/\w.2.2.2.length<=1048576 :=
 ⟨cnt_len (cF h),cnt_len (cF (cS h)),cnt_len (cF (cS (cS h))),cnt_len (cS (cS (cS h)))⟩
theorem r46(e:Y38)(hm:cnt y38 e<=1048576):u46 e=some (blankV e):=by
 obtain⟨c1,c2,c3,c4⟩:=wire_cnt (cS (cS (cS (cS (cS (cS hm))))));unfold u46 blankV;rw[gP ⟨oo,oo,oo,trivial⟩];by_cases h1:(e.1==1)=true
 ·rw[if_pos h1,if_pos h1]; rfl
 rw[if_neg h1,if_neg h1];by_cases h2:(e.1==2)=true
 ·rw[if_pos h2,if_pos h2]; rfl
 rw[if_neg h2,if_neg h2];by_cases h3:(e.1==3)=true
 ·rw[if_pos h3,if_pos h3]; rfl
 rw[if_neg h3,if_neg h3];by_cases h4:(e.1==4)=true
 ·rw[if_pos h4,if_pos h4]; rfl
 rw[if_neg h4,if_neg h4];by_cases h5:(e.1==5)=true
 ·rw[if_pos h5,if_pos h5]
 rw[if_neg h5,if_neg h5]
def ownV(e:Y38):Y38 :=
 if(e.1==1)=true then(e.1,e.2.1,e.2.2.1,0,0,ByteArray.mk #[],[],[],[],[])
 else if(e.1==2)=true then(e.1,e.2.1,e.2.2.1,0,0,e.2.2.2.2.2.1,[],[],[],[])
 else if(e.1==4)=true then(e.1,e.2.1,0,e.2.2.2.1,e.2.2.2.2.1,ByteArray.mk #[],[],[],[],[])
 else if(e.1==5)=true then(e.1,0,0,e.2.2.2.1,0,ByteArray.mk #[],e.2.2.2.2.2.2)
 else(e.1,0,0,0,0,ByteArray.mk #[],[],[],[],[])
theorem r144(e:Y38):u144 e=some (ownV e):=by
 unfold u144 ownV;by_cases h1:(e.1==1)=true
 ·rw[if_pos h1,if_pos h1]
 rw[if_neg h1,if_neg h1];by_cases h2:(e.1==2)=true
 ·rw[if_pos h2,if_pos h2]
 rw[if_neg h2,if_neg h2];by_cases h4:(e.1==4)=true
 ·rw[if_pos h4,if_pos h4]
 rw[if_neg h4,if_neg h4];by_cases h5:(e.1==5)=true
 ·rw[if_pos h5,if_pos h5]
 rw[if_neg h5,if_neg h5]
theorem noW_eq(a b c d:List Int):noW (a,b,c,d)=(decide (a=[])&&decide (b=[])&&decide (c=[])&&decide (d=[])):=by
 rw[Bool.eq_iff_iff];unfold noW;simp only[beq_iff_eq,ba,dq];rw[<- List.length_eq_zero_iff,<- List.length_eq_zero_iff,<- List.length_eq_zero_iff,<- List.length_eq_zero_iff];omega
theorem blank_own(e:Y38):(inB e.1 1 5&&sameE e (ownV e))=blankV e:=by
 obtain⟨k,p,c,n,d,nm,a1,a2,a3,a4⟩:=e;unfold blankV ownV sameE sameW;rw[noW_eq];show(inB k 1 5&&_)=_;by_cases h1:k=1
 ·subst h1; simp[inB,Bool.and_assoc]
 by_cases h2:k=2
 ·subst h2; simp[inB,Bool.and_assoc]
 by_cases h3:k=3
 ·subst h3; simp[inB,Bool.and_assoc]
 by_cases h4:k=4
 ·subst h4; simp[inB,Bool.and_assoc]
 by_cases h5:k=5
 ·subst h5; simp[inB,Bool.and_assoc]
 have:inB k 1 5=false:=by
  rw[<- Bool.not_eq_true];intro h;have:=inB_iff.1 h;omega
 rw[this];simp[h1,h2,h3,h4,h5]
def alikeV(c d:Y115):Bool:=!(c.2.1 != d.2.1||(c.2.2.1.length:Int) != (d.2.2.1.length:Int))&&!(List.range c.2.2.1.length).any fun i=>!((pinOf c i).2.2.2==(pinOf d i).2.2.2)
theorem r106(c d:Y115)(h:c.2.2.1.length<=9223372036854775807):u106 c d=some (alikeV c d):=by
 unfold u106 alikeV;cases hc:(c.2.1 != d.2.1||(c.2.2.1.length:Int) != (d.2.2.1.length:Int)) with
 | true=>rfl
 | false =>
   have hl:c.2.2.1.length=d.2.2.1.length:=by
    simp only[Bool.or_eq_false_iff,bne_eq_false_iff_eq] at hc;omega
   have key:=lp_all (n:=c.2.2.1.length) h (fun i=>!((pinOf c i).2.2.2==(pinOf d i).2.2.2)) (some false) (e:=some true) (F:=u106L1 c d) (fun g i hi=>by
    have e3:((i:Int)).toNat=i:=rfl;refine(if_pos (by simpa using hi)).trans ?_;rw[e3,gP ⟨oo,oo,trivial⟩,gP ⟨oo,trivial⟩]) (fun g=>aE)
   refine(if_neg (by simp)).trans (key.trans ?_);cases(List.range c.2.2.1.length).any fun i=>!((pinOf c i).2.2.2==(pinOf d i).2.2.2) <;> rfl
theorem r147(c d:Y115)(h:c.2.2.1.length<=9223372036854775807):u147 c d=some (alikeV c d):=by
 have e:u189c190 c.2.2.1 d.2.2.1=some (!((c.2.2.1.length:Int) != (d.2.2.1.length:Int))&&!(List.range c.2.2.1.length).any fun i=>!((pinOf c i).2.2.2==(pinOf d i).2.2.2)):=by
  unfold u189c190;cases hc:((c.2.2.1.length:Int) != (d.2.2.1.length:Int)) with
  | true=>rfl
  | false =>
    have hl:c.2.2.1.length=d.2.2.1.length:=by
     simp only[bne_eq_false_iff_eq] at hc;omega
    have ef:∀p q:Y170,u190 p q=some (p.2.2.2==q.2.2.2):=fun _ _=>rfl;have key:=lp_all (n:=c.2.2.1.length) h (fun i=>!((pinOf c i).2.2.2==(pinOf d i).2.2.2)) (some false) (e:=some true) (F:=u189c190L1 d.2.2.1 c.2.2.1) (fun g i hi=>by
     have e3:((i:Int)).toNat=i:=rfl;refine(if_pos (by simpa using hi)).trans ?_;rw[e3,gP ⟨oo,trivial⟩,lE,gP ⟨oo,trivial⟩,lE,ef,gP ⟨rfl,trivial⟩,gP ⟨oo,trivial⟩];rfl) (fun g=>aE)
    refine(if_neg (by simp)).trans (key.trans ?_);cases(List.range c.2.2.1.length).any fun i=>!((pinOf c i).2.2.2==(pinOf d i).2.2.2) <;> rfl
 unfold u147 alikeV;rw[e,vS,gP ⟨fun _=>rfl,trivial⟩];unfold bne;cases(c.2.1==d.2.1) <;> cases((c.2.2.1.length:Int)==(d.2.2.1.length:Int)) <;> rfl
def bufV(c:Y115):Bool:=c.2.1==1&&(c.2.2.1.length:Int)==2
theorem r107(c:Y115):u107 c=some (bufV c):=rfl
theorem r148(c:Y115):u148 c=some (bufV c):=rfl
def fiV(n:Nat)(P:Nat->Bool):Int:=match(List.range n).find? P with | some i=>(i:Int) | none => -1
def insN(d:Y47)(s:ByteArray):Int:=fiV d.1.length (fun i=>decide ((insOf d i).1=s))
def netN(d:Y47)(s:ByteArray):Int:=fiV d.2.1.length (fun i=>decide (d.2.1.getD i (dflt .str)=s))
theorem r109(d:Y47)(s:ByteArray)(h:d.1.length<=9223372036854775807):u109 d s=some (insN d s) :=
 idx_some h (fun i=>decide ((insOf d i).1=s)) (fun g i hi=>by
  refine(if_pos (by simpa using hi)).trans ?_;rw[gP ⟨oo,trivial⟩,gP ⟨oo,trivial⟩];rfl) (fun g=>aE)
theorem r150(d:Y47)(s:ByteArray)(h:d.1.length<=9223372036854775807):u150 d s=some (insN d s):=by
 have h1:u193c194 d.1 s=some (insN d s):=idx_some h (fun i=>decide ((insOf d i).1=s)) (fun g i hi=>idx_el hi h rfl) (fun g=>aE);unfold u150;rw[h1,vS,gP ⟨rfl,trivial⟩,lE]
theorem r62(d:Y47)(s:ByteArray)(h:d.2.1.length<=9223372036854775807):u62 d s=some (netN d s):=by
 have h1:u58 d.2.1 s=some (netN d s):=idx_some h (fun i=>decide (d.2.1.getD i (dflt .str)=s)) (fun g i hi=>by
  refine(if_pos (by simpa using hi)).trans ?_;rw[gP ⟨oo,trivial⟩,gP ⟨oo,trivial⟩];rfl) (fun g=>aE)
 unfold u62;rw[h1,vS,gP ⟨rfl,trivial⟩,lE]
theorem r77(d:Y47)(s:ByteArray)(h:d.2.1.length<=9223372036854775807):u77 d s=some (netN d s):=by
 have h1:u133 d.2.1 s=some (netN d s):=idx_some h (fun i=>decide (d.2.1.getD i (dflt .str)=s)) (fun g i hi=>by
  refine(if_pos (by simpa using hi)).trans ?_;rw[gP ⟨oo,trivial⟩,gP ⟨oo,trivial⟩];have:decide (s=d.2.1.getD i (dflt .str))=decide (d.2.1.getD i (dflt .str)=s):=by rw[decide_eq_decide]; exact eq_comm
  rw[<- this];rfl) (fun g=>aE)
 unfold u77;rw[h1,vS,gP ⟨rfl,trivial⟩,lE]
def plN(b:Y50):Int:=(plcs b.2.1).length
def rangeV(b:Y50)(e:Y38):Bool :=
 if(e.1==1||e.1==2)=true then inB e.2.1 0 (plN b-1)&&inB e.2.2.1 0 ((b.1.length:Int)-1)
 else if(e.1==4)=true then inB e.2.1 0 (plN b-1)&&inB e.2.2.2.1 0 ((b.2.2.length:Int)-1)&&inB e.2.2.2.2.1 0 (((wirOf b e.2.2.2.1.toNat).1.length:Int)-1)
 else if(e.1==5)=true then inB e.2.2.2.1 0 ((b.2.2.length:Int)-1)
 else true
structure BOk(b:Y50):Prop where
 df:DF b.1 b.2.1
 nets:b.2.2.length=b.2.1.2.1.length
 n30:b.2.2.length<=30
 c8:b.1.length<=8
 p78:plN b<=78
 wire:∀i,i<b.2.2.length->NetOk b i
theorem b_ok{b:Y50}(h:blockOk b=true):BOk b:=by
 obtain⟨h1,h2,_⟩:=block_design h;have df:=df_of h1;have hl:=df.len;have h30:=df.fac.nn30;have h8:b.1.length<=8:=by
  have hl:=df.lib;have hl:libB _ _ _=true:=hl;unfold libB at hl;simp only[ba,dq] at hl;exact hl.2
 exact⟨df,h2,by omega,h8,by unfold plN; omega,fun i hi=>net_ok h hi⟩
theorem r47(b:Y50)(hw:wf y50 b)(o:BOk b)(e:Y38):u47 b e=some (rangeV b e):=by
 have hp:=o.p78;have h30:=o.n30;have h8:=o.c8;have hpn:0<=plN b:=Int.natCast_nonneg _;have key:∀v,(e.1==1)=true/\v=true∨(e.1==1)=false/\v=(e.1==2)->u47J0 e (plcs b.2.1) b v=some (rangeV b e):=fun v hv=>by
  have hv':v=(e.1==1||e.1==2):=by
   rcases hv with ⟨h1,h2⟩ | ⟨h1,h2⟩
   ·rw[h1,h2]; rfl
   ·rw[h1,h2]; rfl
  unfold rangeV;rw[<- hv',u47J0,r105,r105,r105,r105]
  repeat rw[vS]
  cases v with
  | true=>exact gP ⟨⟨by show _<=plN b-1; omega,by show plN b-1<=_; omega⟩,rfl,(fun _=>oo),(fun _=>rfl),trivial⟩
  | false =>
    refine(if_neg (by simp)).trans ?_;rw[if_neg (show ¬(false=true) by simp)];by_cases h4:(e.1==4)=true
    ·rw[if_pos h4,if_pos h4];have key2:(inB e.2.1 0 (plN b-1)&&inB e.2.2.2.1 0 ((b.2.2.length:Int)-1))=true->ix e.2.2.2.1 b.2.2.length/\in64 (((wirOf b e.2.2.2.1.toNat).1.length:Int)-1):=fun h=>by
      have h2:=inB_iff.1 (ba _ _ ▸ h).2;have hw:=(o.wire e.2.2.2.1.toNat (by omega)).wf.n8;exact⟨⟨h2.1,by omega⟩,oo⟩
     exact gP ⟨⟨by show _<=plN b-1; omega,by show plN b-1<=_; omega⟩,rfl,(fun _=>oo),(fun _=>rfl),(fun h=>(key2 h.1).1),(fun h=>(key2 h.1).2),(fun _=>rfl),trivial⟩
    ·rw[if_neg h4,if_neg h4];by_cases h5:(e.1==5)=true
     ·rw[if_pos h5,if_pos h5];exact gP ⟨oo,rfl,trivial⟩
     ·rw[if_neg h5,if_neg h5]
 unfold u47;rw[r65 b.2.1 hw.2.1 o.df.fac.ni14 o.df.fac.np8 o.df.pin,vS,gP ⟨rfl,trivial⟩,lE];cases h1:(e.1==1) with
 | true=>exact(if_pos rfl).trans (key _ (.inl ⟨h1,rfl⟩))
 | false=>exact(if_neg (by simp)).trans (key _ (.inr ⟨h1,rfl⟩))
theorem r84(b:Y50)(hw:wf y50 b)(o:BOk b)(e:Y38)(he:wf y38 e):u84 e b=some (blankV e&&rangeV b e):=by
 have hp:=o.p78;have h30:=o.n30;have h8:=o.c8;have hn:=o.nets;have hpn:0<=plN b:=Int.natCast_nonneg _;have ePl:u145 (plcs b.2.1)=some (plN b):=rfl;have eC:u146 b.1=some (b.1.length:Int):=rfl;have eI:∀xs:List Int,u79 xs=some (xs.length:Int):=fun _=>rfl;have key:∀v,(e.1==1)=true/\v=true∨(e.1==1)=false/\v=(e.1==2)->u84J0 e (plcs b.2.1) b v=some (rangeV b e):=fun v hv=>by
  have hv':v=(e.1==1||e.1==2):=by
   rcases hv with ⟨h1,h2⟩ | ⟨h1,h2⟩
   ·rw[h1,h2]; rfl
   ·rw[h1,h2]; rfl
  unfold rangeV;rw[<- hv',u84J0,ePl,vS,r130,vS,eC,vS,r130,vS,r127 _ hw.2.1,vS,eI,vS,r130,vS,<- hn];cases v with
  | true=>exact gP ⟨(fun _=>rfl),(fun _=>oo),(fun _=>rfl),trivial⟩
  | false =>
    refine(if_neg (by simp)).trans ?_;rw[if_neg (show ¬(false=true) by simp)];by_cases h4:(e.1==4)=true
    ·rw[if_pos h4,if_pos h4];have key2:(inB e.2.1 0 (plN b-1)&&inB e.2.2.2.1 0 ((b.2.2.length:Int)-1))=true->ix e.2.2.2.1 b.2.2.length/\in64 (((wirOf b e.2.2.2.1.toNat).1.length:Int)-1):=fun h=>by
      have h2:=inB_iff.1 (ba _ _ ▸ h).2;have hw:=(o.wire e.2.2.2.1.toNat (by omega)).wf.n8;exact⟨⟨h2.1,by omega⟩,oo⟩
     exact gP ⟨(fun _=>rfl),(fun h=>(key2 h.1).1),(fun _=>rfl),(fun h=>(key2 h.1).2),(fun _=>rfl),trivial⟩
    ·rw[if_neg h4,if_neg h4];by_cases h5:(e.1==5)=true
     ·rw[if_pos h5,if_pos h5];exact gP ⟨rfl,trivial⟩
     ·rw[if_neg h5,if_neg h5]
 unfold u84;rw[r130,vS,r144,vS,r143 e _ he,vS,gP ⟨rfl,(fun _=>rfl),(fun _=>rfl),trivial⟩];have hb:=blank_own e;cases hbl:blankV e with
 | false =>
   rw[hbl] at hb;refine(if_pos ?_).trans rfl;cases h1:inB e.1 1 5 with
   | false=>rfl
   | true=>rw[h1,Bool.true_and] at hb; rw[hb]; rfl
 | true =>
   rw[hbl,ba] at hb;refine(if_neg (by rw[hb.1,hb.2]; simp)).trans ?_;rw[r75 b.2.1 hw.2.1 o.df.fac.ni14 o.df.fac.np8 o.df.pin,vS,ePl,vS,r130,gP ⟨rfl,rfl,oo,rfl,trivial⟩,lE];cases h1:(e.1==1) with
   | true=>exact(if_pos rfl).trans (key _ (.inl ⟨h1,rfl⟩))
   | false=>exact(if_neg (by simp)).trans (key _ (.inr ⟨h1,rfl⟩))
def lastX(b:Y50):Y152:=insOf b.2.1 (b.2.1.1.length-1)
def lastW(b:Y50):Y36:=wirOf b (b.2.2.length-1)
def lastQ(b:Y50):Bool:=bufV (celI b (b.2.1.1.length-1))&&(lastX b).2.2.getD 1 0==(b.2.2.length:Int)-1&&decide (b.2.1.2.1.getD (b.2.2.length-1) (dflt .str)=(lastX b).1)&&!((lastX b).2.2.getD 0 0==(b.2.2.length:Int)-1)
def lastV(b:Y50):Bool:=if b.2.1.1.length=0 then false else if lastQ b=true then((lastW b).2.2.2.length:Int)==1&&((lastW b).1.length:Int)==1&&(lastW b).2.2.1.getD 0 0==0 else false
theorem last_facts{b:Y50}(o:BOk b)(h0:¬b.2.1.1.length=0):ix (lastX b).2.1 b.1.length/\(bufV (celI b (b.2.1.1.length-1))=true->(lastX b).2.2.length=2/\0<=(lastX b).2.2.getD 1 0):=by
 obtain⟨x1,x2,x3⟩:=inst_cell' o.df (i:=b.2.1.1.length-1) (by omega);refine⟨x1,fun hb=>?_⟩;have h2:(celI b (b.2.1.1.length-1)).2.2.1.length=2:=by
  unfold bufV at hb;rw[ba,beq_iff_eq,beq_iff_eq] at hb;have:=hb.2;omega
 have h3:(lastX b).2.2.length=2:=x3.trans h2;exact⟨h3,(inB_iff.1 (o.df.fac.net.1 (b.2.1.1.length-1) (by omega) 1 (by show 1 < (lastX b).2.2.length; omega))).1⟩
theorem r169(w:Y36)(h:w.2.2.1.length=w.1.length):u169 w=some ((w.1.length:Int)==1&&w.2.2.1.getD 0 0==0):=by
 unfold u169;exact gP ⟨(fun h1=>⟨by omega,by have:=beq_iff_eq.1 h1.1; omega⟩),trivial⟩
theorem bool_or4(a b c d:Bool):(!a||!b||!c||d)=!(a&&b&&c&&!d):=by cases a <;> cases b <;> cases c <;> cases d <;> rfl
theorem bool_or4'(a b c d:Bool):(!a||!b||d||!c)=!(a&&b&&c&&!d):=by cases a <;> cases b <;> cases c <;> cases d <;> rfl
theorem r110(b:Y50)(hw:wf y50 b)(o:BOk b):u110 b=some (lastV b):=by
 have h30:=o.n30;have h14:=o.df.fac.ni14;have hn:=o.nets;unfold u110 lastV;rw[gP ⟨oo,trivial⟩,gP ⟨oo,trivial⟩];by_cases h0:b.2.1.1.length=0
 ·rw[if_pos h0];exact if_pos (decide_eq_true (by omega))
 ·rw[if_neg h0];obtain⟨x1,x2⟩:=last_facts o h0;refine(if_neg (by simp; omega)).trans ?_;have e1:((b.2.1.1.length:Int)-1).toNat=b.2.1.1.length-1:=by omega
  have e2:((b.2.2.length:Int)-1).toNat=b.2.2.length-1:=by omega
  rw[gP ⟨oo,trivial⟩,lE,e1,e2];show gd (ix (lastX b).2.1 b.1.length/\(u107 (celI b (b.2.1.1.length-1))).isSome=true/\((!vl (u107 (celI b (b.2.1.1.length-1))))=false/\True->ix 1 (lastX b).2.2.length)/\((!vl (u107 (celI b (b.2.1.1.length-1)))||(lastX b).2.2.getD 1 0 != (b.2.2.length:Int)-1)=false/\True->ix ((b.2.2.length:Int)-1) b.2.1.2.1.length)/\((!vl (u107 (celI b (b.2.1.1.length-1)))||(lastX b).2.2.getD 1 0 != (b.2.2.length:Int)-1||!decide (b.2.1.2.1.getD (b.2.2.length-1) (dflt .str)=(lastX b).1))=false/\True->ix 0 (lastX b).2.2.length)/\True) (lt (!vl (u107 (celI b (b.2.1.1.length-1)))||(lastX b).2.2.getD 1 0 != (b.2.2.length:Int)-1||!decide (b.2.1.2.1.getD (b.2.2.length-1) (dflt .str)=(lastX b).1)||(lastX b).2.2.getD 0 0==(b.2.2.length:Int)-1) fun v1=>_)=_;rw[r107,vS];have k1:(!bufV (celI b (b.2.1.1.length-1)))=false->(lastX b).2.2.length=2/\0<=(lastX b).2.2.getD 1 0:=fun h=>x2 (by simpa using h);rw[gP ⟨x1,rfl,(fun h=>⟨by omega,by have:=(k1 h.1).1; omega⟩),(fun h=>by
   have h2:=(Bool.or_eq_false_iff.1 h.1);have h3:=k1 h2.1;have h4:=bne_eq_false_iff_eq.1 h2.2;exact oo),(fun h=>⟨by omega,by have:=(k1 (Bool.or_eq_false_iff.1 (Bool.or_eq_false_iff.1 h.1).1).1).1; omega⟩),trivial⟩,lE]
  unfold bne;rw[bool_or4];show(if(!lastQ b)=true then some false else _)=_;cases hq:lastQ b with
  | false=>rfl
  | true =>
    refine(if_neg (by simp)).trans ?_;rw[if_pos rfl];have hq':=hq;unfold lastQ at hq';simp only[ba,beq_iff_eq] at hq';have h3:=x2 hq'.1.1.1;have h4:=hq'.1.1.2;have no:=o.wire (b.2.2.length-1) (by omega);have hsn:=no.sn;have e5:(((b.2.2.length-1:Nat)):Int)=(b.2.2.length:Int)-1:=by omega
    rw[e5] at hsn;have es:u57 b.2.1 ((b.2.2.length:Int)-1)=some (sinksV b.2.1 ((b.2.2.length:Int)-1)):=r57 b.2.1 hw.2.1 o.df _;rw[es,vS];rw[r169 (wirOf b (b.2.2.length-1)) no.wf.cap,vS,gP ⟨rfl,(fun _=>oo),(fun _=>rfl),trivial⟩,lE,<- hsn];show some (((lastW b).2.2.2.length:Int)==1&&(((lastW b).1.length:Int)==1&&(lastW b).2.2.1.getD 0 0==0))=_;rw[Bool.and_assoc]
theorem r151(b:Y50)(o:BOk b):u151 b=some (lastV b):=by
 have h30:=o.n30;have h14:=o.df.fac.ni14;have hn:=o.nets;have eS:u179 b.2.1.2.1=some (b.2.2.length:Int):=by rw[hn]; rfl
 unfold u151 lastV;by_cases h0:b.2.1.1.length=0
 ·rw[if_pos h0];exact if_pos (by simp[h0])
 ·rw[if_neg h0];obtain⟨x1,x2⟩:=last_facts o h0;refine(if_neg (by rw[beq_iff_eq]; omega)).trans ?_;have e1:((b.2.1.1.length:Int)-1).toNat=b.2.1.1.length-1:=by omega
  have e2:((b.2.2.length:Int)-1).toNat=b.2.2.length-1:=by omega
  rw[gP ⟨oo,oo,trivial⟩,lE,e1,eS,vS,gP ⟨rfl,oo,trivial⟩,lE,e2];show gd (ix (lastX b).2.1 b.1.length/\(u148 (celI b (b.2.1.1.length-1))).isSome=true/\((!vl (u148 (celI b (b.2.1.1.length-1))))=false/\True->ix 1 (lastX b).2.2.length)/\((!vl (u148 (celI b (b.2.1.1.length-1)))||(lastX b).2.2.getD 1 0 != (b.2.2.length:Int)-1)=false/\True->ix 0 (lastX b).2.2.length)/\((!vl (u148 (celI b (b.2.1.1.length-1)))||(lastX b).2.2.getD 1 0 != (b.2.2.length:Int)-1||(lastX b).2.2.getD 0 0==(b.2.2.length:Int)-1)=false/\True->ix ((b.2.2.length:Int)-1) b.2.1.2.1.length)/\True) (if(!vl (u148 (celI b (b.2.1.1.length-1)))||(lastX b).2.2.getD 1 0 != (b.2.2.length:Int)-1||(lastX b).2.2.getD 0 0==(b.2.2.length:Int)-1||!decide (b.2.1.2.1.getD (b.2.2.length-1) (dflt .str)=(lastX b).1))=true then some false else _)=_;rw[r148,vS];have k1:(!bufV (celI b (b.2.1.1.length-1)))=false->(lastX b).2.2.length=2/\0<=(lastX b).2.2.getD 1 0:=fun h=>x2 (by simpa using h);rw[gP ⟨x1,rfl,(fun h=>⟨by omega,by have:=(k1 h.1).1; omega⟩),(fun h=>⟨by omega,by have:=(k1 (Bool.or_eq_false_iff.1 h.1).1).1; omega⟩),(fun h=>by
   have h2:=(Bool.or_eq_false_iff.1 (Bool.or_eq_false_iff.1 h.1).1);have h3:=k1 h2.1;have h4:=bne_eq_false_iff_eq.1 h2.2;exact oo),trivial⟩]
  unfold bne;rw[bool_or4'];show(if(!lastQ b)=true then some false else _)=_;cases hq:lastQ b with
  | false=>rfl
  | true =>
    refine(if_neg (by simp)).trans ?_;rw[if_pos rfl];have hq':=hq;unfold lastQ at hq';simp only[ba,beq_iff_eq] at hq';have h3:=x2 hq'.1.1.1;have h4:=hq'.1.1.2;have no:=o.wire (b.2.2.length-1) (by omega);have hc:=no.wf.cap;have hc:(lastW b).2.2.1.length=(lastW b).1.length:=hc;rw[gP ⟨oo,trivial⟩,lE];show gd (((((lastW b).2.2.2.length:Int)==1&&((lastW b).1.length:Int)==1)=true/\True->ix 0 (lastW b).2.2.1.length)/\True) (some (((lastW b).2.2.2.length:Int)==1&&((lastW b).1.length:Int)==1&&(lastW b).2.2.1.getD 0 0==0))=_;exact gP ⟨(fun h=>⟨by omega,by have:=beq_iff_eq.1 (ba _ _ ▸ h.1).2; omega⟩),trivial⟩
def plE(b:Y50)(e:Y38):DPlace:=plcOf b.2.1 e.2.1.toNat
def stateV(b:Y50)(e:Y38):Bool :=
 if(e.1==1)=true then decide (0<=(plE b e).1)&&(plE b e).2.2.2&&alikeV (b.1.getD (insOf b.2.1 (plE b e).1.toNat).2.1.toNat (dflt y115)) (b.1.getD e.2.2.1.toNat (dflt y115))
 else if(e.1==2)=true then !(plE b e).2.2.2&&bufV (b.1.getD e.2.2.1.toNat (dflt y115))&&nmB e.2.2.2.2.2.1&&decide (insN b.2.1 e.2.2.2.2.2.1<0)&&decide (netN b.2.1 e.2.2.2.2.2.1<0)
 else if(e.1==3)=true then lastV b
 else if(e.1==4)=true then !(plE b e).2.2.2&&(plE b e).2.2.1 != e.2.2.2.1
 else wireB e.2.2.2.2.2.2 ((sinksV b.2.1 e.2.2.2.1).length:Int)
theorem pl_ix{b:Y50}{e:Y38}(h:inB e.2.1 0 (plN b-1)=true):ix e.2.1 (plcs b.2.1).length/\e.2.1.toNat < (plcs b.2.1).length:=by
 have:=inB_iff.1 h;unfold plN at this;exact⟨oo,by omega⟩
theorem ce_ix{b:Y50}{x:Int}(h:inB x 0 ((b.1.length:Int)-1)=true):ix x b.1.length:=by
 have:=inB_iff.1 h;exact oo
theorem ce_pin{b:Y50}(o:BOk b){x:Int}(h:ix x b.1.length):(b.1.getD x.toNat (dflt y115)).2.2.1.length<=9223372036854775807:=by
 have h1:x.toNat<b.1.length:=by have:=h.1; have:=h.2; omega
 have:=(cell_arcs (lib_cell' o.df.lib h1)).2.1;have:(b.1.getD x.toNat (dflt y115)).2.2.1.length<=5:=this;omega
theorem pl_inst{b:Y50}(o:BOk b){e:Y38}(h:e.2.1.toNat < (plcs b.2.1).length)(h0:0<=(plE b e).1):ix (plE b e).1 b.2.1.1.length/\ix (insOf b.2.1 (plE b e).1.toNat).2.1 b.1.length:=by
 rcases plc_pin o.df (plc_mem h) with h1 | ⟨h1,h2,h3,h4,_⟩
 ·have h1:(plE b e).1 = -1:=h1.1;omega
 ·have h1:0<=(plE b e).1:=h1;have h2:(plE b e).1.toNat<b.2.1.1.length:=h2;have h3:0<=(insOf b.2.1 (plE b e).1.toNat).2.1:=h3;have h4:(insOf b.2.1 (plE b e).1.toNat).2.1.toNat<b.1.length:=h4;exact⟨⟨h1,by omega⟩,⟨h3,by omega⟩⟩
theorem range_1{b:Y50}{e:Y38}(hr:rangeV b e=true)(h:(e.1==1||e.1==2)=true):inB e.2.1 0 (plN b-1)=true/\inB e.2.2.1 0 ((b.1.length:Int)-1)=true:=by
 unfold rangeV at hr;rw[if_pos h,ba] at hr;exact hr
theorem range_4{b:Y50}{e:Y38}(hr:rangeV b e=true)(h:e.1=4):inB e.2.1 0 (plN b-1)=true:=by
 unfold rangeV at hr;rw[if_neg (by rw[h]; decide),if_pos (by rw[h]; decide),ba,ba] at hr;exact hr.1.1
theorem range_5{b:Y50}{e:Y38}(hr:rangeV b e=true)(h:e.1=5):inB e.2.2.2.1 0 ((b.2.2.length:Int)-1)=true:=by
 unfold rangeV at hr;rw[if_neg (by rw[h]; decide),if_neg (by rw[h]; decide),if_pos (by rw[h]; decide)] at hr;exact hr
theorem r48(b:Y50)(hw:wf y50 b)(o:BOk b)(e:Y38)(he:wf y38 e)(hr:rangeV b e=true)(hk:inB e.1 1 5=true):u48 b e=some (stateV b e):=by
 have hk:=inB_iff.1 hk;unfold u48 stateV;rw[r65 b.2.1 hw.2.1 o.df.fac.ni14 o.df.fac.np8 o.df.pin,vS,gP ⟨rfl,trivial⟩,lE];by_cases h1:(e.1==1)=true
 ·rw[if_pos h1,if_pos h1];obtain⟨r1,r2⟩:=range_1 hr (by rw[h1]; rfl);have p1:=pl_ix r1;have c1:=ce_ix r2;rw[gP ⟨p1.1,p1.2,trivial⟩,lE];show gd (((decide (0<=(plE b e).1)&&(plE b e).2.2.2)=true/\True->ix (plE b e).1 b.2.1.1.length)/\((decide (0<=(plE b e).1)&&(plE b e).2.2.2)=true/\True->ix (insOf b.2.1 (plE b e).1.toNat).2.1 b.1.length)/\((decide (0<=(plE b e).1)&&(plE b e).2.2.2)=true/\True->ix e.2.2.1 b.1.length)/\((decide (0<=(plE b e).1)&&(plE b e).2.2.2)=true/\True->(u106 (b.1.getD (insOf b.2.1 (plE b e).1.toNat).2.1.toNat (dflt y115)) (b.1.getD e.2.2.1.toNat (dflt y115))).isSome=true)/\True) (some (decide (0<=(plE b e).1)&&(plE b e).2.2.2&&vl (u106 (b.1.getD (insOf b.2.1 (plE b e).1.toNat).2.1.toNat (dflt y115)) (b.1.getD e.2.2.1.toNat (dflt y115)))))=_;cases hc:(decide (0<=(plE b e).1)&&(plE b e).2.2.2) with
  | false=>exact gP ⟨(fun h=>by cases h.1),(fun h=>by cases h.1),(fun h=>by cases h.1),(fun h=>by cases h.1),trivial⟩
  | true =>
    rw[ba,dq] at hc;have q:=pl_inst o p1.2 hc.1;rw[r106 _ _ (ce_pin o q.2),vS];exact gP ⟨(fun _=>q.1),(fun _=>q.2),(fun _=>c1),(fun _=>rfl),trivial⟩
 rw[if_neg h1,if_neg h1];by_cases h2:(e.1==2)=true
 ·rw[if_pos h2,if_pos h2];obtain⟨r1,r2⟩:=range_1 hr (by rw[h2]; simp);have p1:=pl_ix r1;have c1:=ce_ix r2;have h14:=o.df.fac.ni14;have h30:=o.df.fac.nn30;rw[r107,vS,r108 _ he.2.2.2.2.2.1,vS,r109 _ _ (by omega),vS,r62 _ _ (by omega),vS,gP ⟨p1.1,p1.2,(fun _=>c1),(fun _=>rfl),(fun _=>rfl),(fun _=>rfl),(fun _=>rfl),trivial⟩,lE];rfl
 rw[if_neg h2,if_neg h2];by_cases h3:(e.1==3)=true
 ·rw[if_pos h3,if_pos h3,r110 b hw o,vS];exact gP ⟨rfl,trivial⟩
 rw[if_neg h3,if_neg h3];by_cases h4:(e.1==4)=true
 ·rw[if_pos h4,if_pos h4];have p1:=pl_ix (range_4 hr (beq_iff_eq.1 h4));exact gP ⟨p1.1,p1.2,(fun _=>p1.1),(fun _=>p1.2),trivial⟩
 rw[if_neg h4,if_neg h4];have es:u57 b.2.1 e.2.2.2.1=some (sinksV b.2.1 e.2.2.2.1):=r57 b.2.1 hw.2.1 o.df _;rw[es,vS,r56 _ _ he.2.2.2.2.2.2,gP ⟨rfl,rfl,trivial⟩,lE,r56 _ _ he.2.2.2.2.2.2,vS]
theorem r85(b:Y50)(hw:wf y50 b)(o:BOk b)(e:Y38)(he:wf y38 e)(hr:rangeV b e=true)(hk:inB e.1 1 5=true):u85 e b=some (stateV b e):=by
 have hk:=inB_iff.1 hk;unfold u85 stateV;rw[r75 b.2.1 hw.2.1 o.df.fac.ni14 o.df.fac.np8 o.df.pin,vS,gP ⟨rfl,trivial⟩,lE];by_cases h1:(e.1==1)=true
 ·rw[if_pos h1,if_pos h1];obtain⟨r1,r2⟩:=range_1 hr (by rw[h1]; rfl);have p1:=pl_ix r1;have c1:=ce_ix r2;rw[gP ⟨p1.1,p1.2,trivial⟩,lE];show gd (((decide (0<=(plE b e).1)&&(plE b e).2.2.2)=true/\True->ix (plE b e).1 b.2.1.1.length)/\((decide (0<=(plE b e).1)&&(plE b e).2.2.2)=true/\True->ix (insOf b.2.1 (plE b e).1.toNat).2.1 b.1.length)/\((decide (0<=(plE b e).1)&&(plE b e).2.2.2)=true/\True->ix e.2.2.1 b.1.length)/\((decide (0<=(plE b e).1)&&(plE b e).2.2.2)=true/\True->(u147 (b.1.getD (insOf b.2.1 (plE b e).1.toNat).2.1.toNat (dflt y115)) (b.1.getD e.2.2.1.toNat (dflt y115))).isSome=true)/\True) (some (decide (0<=(plE b e).1)&&(plE b e).2.2.2&&vl (u147 (b.1.getD (insOf b.2.1 (plE b e).1.toNat).2.1.toNat (dflt y115)) (b.1.getD e.2.2.1.toNat (dflt y115)))))=_;cases hc:(decide (0<=(plE b e).1)&&(plE b e).2.2.2) with
  | false=>exact gP ⟨(fun h=>by cases h.1),(fun h=>by cases h.1),(fun h=>by cases h.1),(fun h=>by cases h.1),trivial⟩
  | true =>
    rw[ba,dq] at hc;have q:=pl_inst o p1.2 hc.1;rw[r147 _ _ (ce_pin o q.2),vS];exact gP ⟨(fun _=>q.1),(fun _=>q.2),(fun _=>c1),(fun _=>rfl),trivial⟩
 rw[if_neg h1,if_neg h1];by_cases h2:(e.1==2)=true
 ·rw[if_pos h2,if_pos h2];obtain⟨r1,r2⟩:=range_1 hr (by rw[h2]; simp);have p1:=pl_ix r1;have c1:=ce_ix r2;have h14:=o.df.fac.ni14;have h30:=o.df.fac.nn30;rw[r148,vS,r149 _ he.2.2.2.2.2.1,vS,r150 _ _ (by omega),vS,r77 _ _ (by omega),vS,gP ⟨p1.1,p1.2,(fun _=>c1),(fun _=>rfl),(fun _=>rfl),(fun _=>rfl),(fun _=>rfl),trivial⟩,lE];rfl
 rw[if_neg h2,if_neg h2];by_cases h3:(e.1==3)=true
 ·rw[if_pos h3,if_pos h3,r151 b o,vS];exact gP ⟨rfl,trivial⟩
 rw[if_neg h3,if_neg h3];by_cases h4:(e.1==4)=true
 ·rw[if_pos h4,if_pos h4];have p1:=pl_ix (range_4 hr (beq_iff_eq.1 h4));exact gP ⟨p1.1,p1.2,(fun _=>p1.1),(fun _=>p1.2),trivial⟩
 rw[if_neg h4,if_neg h4];have h5:e.1=5:=by
  simp only[beq_iff_eq] at h1 h2 h3 h4;omega
 have hn:=inB_iff.1 (range_5 hr h5);have no:=o.wire e.2.2.2.1.toNat (by omega);have hsn:=no.sn;have e6:((e.2.2.2.1.toNat:Nat):Int)=e.2.2.2.1:=by omega
 rw[e6] at hsn;have eI:u79 (wirOf b e.2.2.2.1.toNat).2.2.2=some ((sinksV b.2.1 e.2.2.2.1).length:Int):=by rw[<- hsn]; rfl
 rw[eI,vS,r76 _ _ he.2.2.2.2.2.2,vS];exact gP ⟨oo,rfl,rfl,trivial⟩
def codeV(b:Y50)(e:Y38):Int :=
 if blockOk b=true then(if(blankV e&&rangeV b e)=true then(if stateV b e=true then(if(e.1==2&&((b.2.1.1.length:Int)==14||(b.2.2.length:Int)==30))=true then 3 else 0) else 5) else 2) else 1
theorem blank_in{e:Y38}(h:blankV e=true):inB e.1 1 5=true:=by
 rw[<- blank_own,ba] at h;exact h.1
theorem r17(b:Y50)(hw:wf y50 b)(hm:cnt y50 b<=1048576)(e:Y38)(he:wf y38 e)(hme:cnt y38 e<=1048576):u17 b e=some (codeV b e):=by
 unfold u17 codeV;rw[r22 b hw hm,vS,gP ⟨rfl,trivial⟩];cases hb:blockOk b with
 | false=>rfl
 | true =>
   have o:=b_ok hb;refine(if_neg (by simp)).trans ?_;rw[if_pos rfl,r46 e hme,vS,r47 b hw o e,vS,gP ⟨rfl,(fun _=>rfl),trivial⟩];cases h1:blankV e with
   | false=>rfl
   | true =>
     cases h2:rangeV b e with
     | false=>rfl
     | true =>
       refine(if_neg (by simp)).trans ?_;rw[if_pos (show(true&&true)=true from rfl),r48 b hw o e he h2 (blank_in h1),vS,gP ⟨rfl,trivial⟩];cases h3:stateV b e with
       | false=>rfl
       | true =>
         refine(if_neg (by simp)).trans ?_;rw[if_pos rfl];split <;> rfl
theorem r45(b:Y50)(hw:wf y50 b)(hm:cnt y50 b<=1048576)(e:Y38)(he:wf y38 e):u45 b e=some (codeV b e):=by
 unfold u45 codeV;rw[r29 b hw hm,vS,gP ⟨rfl,trivial⟩];cases hb:blockOk b with
 | false=>rfl
 | true =>
   have o:=b_ok hb;have hn:=o.nets;have key:u32 e b=some (if(blankV e&&rangeV b e)=true then(if stateV b e=true then(if(e.1==2&&((b.2.1.1.length:Int)==14||(b.2.2.length:Int)==30))=true then 3 else 0) else 5) else 2):=by
    unfold u32;rw[r84 b hw o e he,vS,gP ⟨rfl,trivial⟩];cases h1:blankV e with
    | false=>rfl
    | true =>
      cases h2:rangeV b e with
      | false=>rfl
      | true =>
        refine(if_neg (by simp)).trans ?_;rw[if_pos (show(true&&true)=true from rfl),r85 b hw o e he h2 (blank_in h1),vS,gP ⟨rfl,trivial⟩];cases h3:stateV b e with
        | false=>rfl
        | true =>
          refine(if_neg (by simp)).trans ?_;rw[if_pos rfl,hn];split <;> rfl
   refine(if_neg (by simp)).trans ?_;rw[if_pos rfl,key,vS,gP ⟨rfl,trivial⟩,lE]
def nameV(l:List Y115)(d:Y47)(p:DPlace):ByteArray:=if p.1<0 then(prtOf d p.2.1.toNat).1 else(insOf d p.1.toNat).1++ByteArray.mk #[47]++((l.getD (insOf d p.1.toNat).2.1.toNat (dflt y115)).2.2.1.getD p.2.1.toNat (dflt y170)).1
theorem pin_name{l:List Y115}(hl:libOk l=true){i j:Nat}(hi:i<l.length)(hj:j < (celOf l i).2.2.1.length):(pinOf (celOf l i) j).1.size<=8:=by
 have h:cellB isArcS _ _ _ _ _ _ _ _ _=true:=lib_cell' hl hi;unfold cellB pinsOk at h;simp only[ba] at h;exact nm_size (namesB_iff.1 h.1.1.1.1.2.1.2 j hj).1
theorem r87(l:List Y115)(d:Y47)(h:designOk l d=true){p:DPlace}(hp:p∈plcs d):u87 d l p=some (nameV l d p)/\u66 l d p=some (nameV l d p)/\(nameV l d p).size<=20:=by
 have dn:=dn_of h;have df:=dn.df;have n1:=dn.ins;have n2:=dn.prt;have e47:(ByteArray.mk #[47]).size=1:=rfl;unfold u87 u66 nameV;rcases plc_pin df hp with ⟨h1,h2,h3⟩ | ⟨h1,h2,h3,h4,h5,h6⟩
 ·have hs:=n2 _ h3;have hn:p.1<0:=by omega
  rw[if_pos (decide_eq_true hn),if_pos hn,gP ⟨⟨h2,by omega⟩,trivial⟩];exact⟨rfl,rfl,by omega⟩
 ·have hs:=n1 _ h2;have hq:=pin_name df.lib h4 h6;have hn:¬p.1<0:=by omega
  have hn':¬decide (p.1<0)=true:=by simpa using hn
  have hq:((l.getD (insOf d p.1.toNat).2.1.toNat (dflt y115)).2.2.1.getD p.2.1.toNat (dflt y170)).1.size<=8:=hq;rw[if_neg hn',if_neg hn,gP ⟨⟨h1,by omega⟩,trivial⟩,lE];show gd ((insOf d p.1.toNat).1.size+_<=_/\ix (insOf d p.1.toNat).2.1 _/\ix p.2.1 (l.getD (insOf d p.1.toNat).2.1.toNat (dflt y115)).2.2.1.length/\_) _=_/\gd ((insOf d p.1.toNat).1.size+_<=_/\ix (insOf d p.1.toNat).2.1 _/\ix p.2.1 (l.getD (insOf d p.1.toNat).2.1.toNat (dflt y115)).2.2.1.length/\_) _=_/\_;have ha:((insOf d p.1.toNat).1++ByteArray.mk #[47]).size=(insOf d p.1.toNat).1.size+1:=by rw[ByteArray.size_append]; rfl
  have g:(insOf d p.1.toNat).1.size+(ByteArray.mk #[47]).size<=9223372036854775807/\ix (insOf d p.1.toNat).2.1 l.length/\ix p.2.1 (l.getD (insOf d p.1.toNat).2.1.toNat (dflt y115)).2.2.1.length/\((insOf d p.1.toNat).1++ByteArray.mk #[47]).size+((l.getD (insOf d p.1.toNat).2.1.toNat (dflt y115)).2.2.1.getD p.2.1.toNat (dflt y170)).1.size<=9223372036854775807/\True :=
   ⟨by omega,⟨h3,by omega⟩,⟨h5,by omega⟩,by omega,trivial⟩
  refine⟨gP g,gP g,?_⟩;rw[ByteArray.size_append];omega
def ediT(b:Y50)(e:Y38):ByteArray :=
 if(e.1==1)=true then ByteArray.mk #[115,119,97,112,32]++nameV b.1 b.2.1 (plE b e)++blank++(b.1.getD e.2.2.1.toNat (dflt y115)).1
 else if(e.1==2)=true then ByteArray.mk #[98,117,102,102,101,114,32]++nameV b.1 b.2.1 (plE b e)++blank++(b.1.getD e.2.2.1.toNat (dflt y115)).1++blank++e.2.2.2.2.2.1
 else if(e.1==3)=true then ByteArray.mk #[117,110,98,117,102,102,101,114]
 else if(e.1==4)=true then ByteArray.mk #[109,111,118,101,32]++nameV b.1 b.2.1 (plE b e)++blank++netS b.2.1 e.2.2.2.1++blank++numS e.2.2.2.2.1
 else ByteArray.mk #[119,105,114,101,32]++netS b.2.1 e.2.2.2.1++blank++wireT e.2.2.2.2.2.2
structure EOk(b:Y50)(e:Y38):Prop where
 hb:blockOk b=true
 bl:blankV e=true
 rg:rangeV b e=true
 st:stateV b e=true
theorem e_ok{b:Y50}{e:Y38}(h:codeV b e=0):EOk b e:=by
 unfold codeV at h;split at h
 ·rename_i hb;split at h
  ·rename_i h1;rw[ba] at h1;split at h
   ·rename_i h2;exact⟨hb,h1.1,h1.2,h2⟩
   ·cases h
  ·cases h
 ·cases h
section
variable {b:Y50} {e:Y38}
theorem EOk.place(h:EOk b e)(hk:e.1=1∨e.1=2∨e.1=4):ix e.2.1 (plcs b.2.1).length/\e.2.1.toNat < (plcs b.2.1).length/\plE b e∈plcs b.2.1:=by
 have hp:inB e.2.1 0 (plN b-1)=true:=by
  rcases hk with h1 | h1 | h1
  ·exact(range_1 h.rg (by rw[h1]; rfl)).1
  ·exact(range_1 h.rg (by rw[h1]; rfl)).1
  ·exact range_4 h.rg h1
 obtain⟨h1,h2⟩:=pl_ix hp;exact⟨h1,h2,plc_mem h2⟩
theorem EOk.cell(h:EOk b e)(hk:e.1=1∨e.1=2):ix e.2.2.1 b.1.length/\(b.1.getD e.2.2.1.toNat (dflt y115)).1.size<=8:=by
 have hc:=(range_1 h.rg (by rcases hk with h1 | h1 <;> rw[h1] <;> rfl)).2;have h1:=ce_ix hc;have h2:=inB_iff.1 hc;exact⟨h1,(dn_of (block_design h.hb).1).cel _ (by omega)⟩
theorem EOk.net(h:EOk b e)(hk:e.1=4∨e.1=5):ix e.2.2.2.1 b.2.1.2.1.length/\(netS b.2.1 e.2.2.2.1).size<=8/\inB e.2.2.2.1 0 ((b.2.2.length:Int)-1)=true:=by
 have hn:inB e.2.2.2.1 0 ((b.2.2.length:Int)-1)=true:=by
  rcases hk with h1 | h1
  ·have hr:=h.rg;unfold rangeV at hr;rw[if_neg (by rw[h1]; decide),if_pos (by rw[h1]; decide),ba,ba] at hr;exact hr.1.2
  ·exact range_5 h.rg h1
 have h2:=inB_iff.1 hn;have h3:=(block_design h.hb).2.1;exact⟨oo,(dn_of (block_design h.hb).1).net _ (by omega),hn⟩
theorem EOk.kind(h:EOk b e):1<=e.1/\e.1<=5:=inB_iff.1 (blank_in h.bl)
theorem r86(hw:wf y50 b)(h:EOk b e)(hk:e.1=1∨e.1=2∨e.1=4):u86 b e=some (nameV b.1 b.2.1 (plE b e)):=by
 have df:=df_of (block_design h.hb).1;obtain⟨h1,h2,h3⟩:=h.place hk;have e1:u87 b.2.1 b.1 ((plcs b.2.1).getD e.2.1.toNat (dflt y126))=some (nameV b.1 b.2.1 (plE b e)):=(r87 b.1 b.2.1 (block_design h.hb).1 h3).1;unfold u86;rw[r75 b.2.1 hw.2.1 df.fac.ni14 df.fac.np8 df.pin,vS,e1,vS];exact gP ⟨rfl,h1,h2,rfl,trivial⟩
theorem EOk.nm8(h:EOk b e)(hk:e.1=2):e.2.2.2.2.2.1.size<=8:=by
 have hs:=h.st;unfold stateV at hs;rw[if_neg (by rw[hk]; decide),if_pos (by rw[hk]; decide)] at hs;simp only[ba] at hs;exact nm_size hs.1.1.2
theorem EOk.node(h:EOk b e)(hk:e.1=4) : -1<=e.2.2.2.2.1:=by
 have hr:=h.rg;unfold rangeV at hr;rw[if_neg (by rw[hk]; decide),if_pos (by rw[hk]; decide),ba,ba] at hr;have:=(inB_iff.1 hr.2).1;omega
theorem EOk.wire(h:EOk b e)(hk:e.1=5):WSmall e.2.2.2.2.2.2/\(e.2.2.2.2.2.2.2.2.2.length:Int)<=1000/\wireB e.2.2.2.2.2.2 (e.2.2.2.2.2.2.2.2.2.length:Int)=true:=by
 have hn:=inB_iff.1 (h.net (.inr hk)).2.2;have h78:=(net_ok h.hb (i:=e.2.2.2.1.toNat) (by omega)).s78;have e6:((e.2.2.2.1.toNat:Nat):Int)=e.2.2.2.1:=by omega
 rw[e6] at h78;have hs:=h.st;unfold stateV at hs;rw[if_neg (by rw[hk]; decide),if_neg (by rw[hk]; decide),if_neg (by rw[hk]; decide),if_neg (by rw[hk]; decide)] at hs;have hl:(e.2.2.2.2.2.2.2.2.2.length:Int)=((sinksV b.2.1 e.2.2.2.1).length:Int):=by
  have hs2:=hs;unfold wireB at hs2;simp only[ba,beq_iff_eq] at hs2;exact hs2.1.1.1.1.2
 exact⟨wire_small (by omega) hs,by omega,by rw[hl]; exact hs⟩
theorem r33(hw:wf y50 b)(he:wf y38 e)(h:EOk b e):u33 e b=some (ediT b e):=by
 have hk:=h.kind;have e32:(ByteArray.mk #[32]).size=1:=rfl;unfold u33 ediT;by_cases h1:(e.1==1)=true
 ·have k1:e.1=1:=beq_iff_eq.1 h1;have q1:=(r87 b.1 b.2.1 (block_design h.hb).1 (h.place (.inl k1)).2.2).2.2;have q2:=h.cell (.inl k1);have q3:=q2.2;have e5:(ByteArray.mk #[115,119,97,112,32]).size=5:=rfl;rw[if_pos h1,if_pos h1,r86 hw h (.inl k1),vS];exact gP ⟨rfl,by omega,by simp only[ByteArray.size_append]; omega,q2.1,by simp only[ByteArray.size_append]; omega,trivial⟩
 rw[if_neg h1,if_neg h1];by_cases h2:(e.1==2)=true
 ·have k1:e.1=2:=beq_iff_eq.1 h2;have q1:=(r87 b.1 b.2.1 (block_design h.hb).1 (h.place (.inr (.inl k1))).2.2).2.2;have q2:=h.cell (.inr k1);have q3:=q2.2;have q4:=h.nm8 k1;have e5:(ByteArray.mk #[98,117,102,102,101,114,32]).size=7:=rfl;rw[if_pos h2,if_pos h2,r86 hw h (.inr (.inl k1)),vS];exact gP ⟨rfl,by omega,by simp only[ByteArray.size_append]; omega,q2.1,by simp only[ByteArray.size_append]; omega,by simp only[ByteArray.size_append]; omega,by simp only[ByteArray.size_append]; omega,trivial⟩
 rw[if_neg h2,if_neg h2];by_cases h3:(e.1==3)=true
 ·rw[if_pos h3,if_pos h3]
 rw[if_neg h3,if_neg h3];by_cases h4:(e.1==4)=true
 ·have k1:e.1=4:=beq_iff_eq.1 h4;have q1:=(r87 b.1 b.2.1 (block_design h.hb).1 (h.place (.inr (.inr k1))).2.2).2.2;have q2:=h.net (.inl k1);have q3:=q2.2.1;have q3:ByteArray.size (b.2.1.2.1.getD e.2.2.2.1.toNat (dflt Ty.str))<=8:=q3;have q4:=numS_size (n:=e.2.2.2.2.1) he.2.2.2.2.1;have e5:(ByteArray.mk #[109,111,118,101,32]).size=5:=rfl;rw[if_pos h4,if_pos h4,r86 hw h (.inr (.inr k1)),r88]
  repeat rw[vS]
  exact gP ⟨rfl,by omega,by simp only[ByteArray.size_append]; omega,q2.1,by simp only[ByteArray.size_append]; omega,by simp only[ByteArray.size_append]; omega,rfl,by simp only[ByteArray.size_append]; omega,trivial⟩
 rw[if_neg h4,if_neg h4];have k1:e.1=5:=by
  simp only[beq_iff_eq] at h1 h2 h3 h4;omega
 have q2:=h.net (.inr k1);have q3:ByteArray.size (b.2.1.2.1.getD e.2.2.2.1.toNat (dflt Ty.str))<=8:=q2.2.1;obtain⟨q4,-,-⟩:=h.wire k1;have q5:=wireT_size q4;have e5:(ByteArray.mk #[119,105,114,101,32]).size=5:=rfl;rw[r89 _ q4,vS];exact gP ⟨q2.1,by omega,by simp only[ByteArray.size_append]; omega,rfl,by simp only[ByteArray.size_append]; omega,trivial⟩
end
def ediC(b:Y50)(e:Y38):ByteArray:=if codeV b e=0 then ediT b e else ByteArray.mk #[]
abbrev wordsL:List ByteArray:=[ByteArray.mk #[115,119,97,112],ByteArray.mk #[98,117,102,102,101,114],ByteArray.mk #[117,110,98,117,102,102,101,114],ByteArray.mk #[109,111,118,101],ByteArray.mk #[119,105,114,101]]
theorem r25(b:Y50)(hw:wf y50 b)(hm:cnt y50 b<=1048576)(e:Y38)(he:wf y38 e)(hme:cnt y38 e<=1048576):u25 b e=some (ediC b e):=by
 unfold u25 ediC;rw[r17 b hw hm e he hme,vS];refine(gP ⟨rfl,trivial⟩).trans ?_;rw[lE];by_cases hc:codeV b e=0
 ·rw[if_pos hc];refine(if_neg (by rw[hc]; simp)).trans ?_;have h:=e_ok hc;have df:=df_of (block_design h.hb).1;have hl:=df.len;have hk:=h.kind;have e32:(ByteArray.mk #[32]).size=1:=rfl;have ew:u59=some wordsL:=rfl;have nmS:∀hk:e.1=1∨e.1=2∨e.1=4,u66 b.1 b.2.1 ((plcs b.2.1).getD e.2.1.toNat (dflt y111))=some (nameV b.1 b.2.1 (plE b e)):=fun hk=>(r87 b.1 b.2.1 (block_design h.hb).1 (h.place hk).2.2).2.1;rw[r65 b.2.1 hw.2.1 df.fac.ni14 df.fac.np8 df.pin,vS];refine(gP ⟨rfl,trivial⟩).trans ?_;rw[lE,ew,vS];refine(gP ⟨rfl,oo,⟨by omega,by show e.1-1<5; omega⟩,by show(e.1-1).toNat<5; omega,trivial⟩).trans ?_;rw[lE];unfold ediT;by_cases h1:(e.1==1)=true
  ·have k1:e.1=1:=beq_iff_eq.1 h1;have q1:=(r87 b.1 b.2.1 (block_design h.hb).1 (h.place (.inl k1)).2.2).2.2;have q0:=h.place (.inl k1);have q2:=h.cell (.inl k1);have q3:=q2.2;have eg:wordsL.getD (e.1-1).toNat (dflt Ty.str)=ByteArray.mk #[115,119,97,112]:=by rw[k1]; rfl
   have e5:(ByteArray.mk #[115,119,97,112]).size=4:=rfl;rw[if_pos h1,if_pos h1,eg,nmS (.inl k1),vS];exact gP ⟨by omega,q0.1,q0.2.1,rfl,by simp only[ByteArray.size_append]; omega,by simp only[ByteArray.size_append]; omega,q2.1,by simp only[ByteArray.size_append]; omega,trivial⟩
  rw[if_neg h1,if_neg h1];by_cases h2:(e.1==2)=true
  ·have k1:e.1=2:=beq_iff_eq.1 h2;have q1:=(r87 b.1 b.2.1 (block_design h.hb).1 (h.place (.inr (.inl k1))).2.2).2.2;have q0:=h.place (.inr (.inl k1));have q2:=h.cell (.inr k1);have q3:=q2.2;have q4:=h.nm8 k1;have eg:wordsL.getD (e.1-1).toNat (dflt Ty.str)=ByteArray.mk #[98,117,102,102,101,114]:=by rw[k1]; rfl
   have e5:(ByteArray.mk #[98,117,102,102,101,114]).size=6:=rfl;rw[if_pos h2,if_pos h2,eg,nmS (.inr (.inl k1)),vS];exact gP ⟨by omega,q0.1,q0.2.1,rfl,by simp only[ByteArray.size_append]; omega,by simp only[ByteArray.size_append]; omega,q2.1,by simp only[ByteArray.size_append]; omega,by simp only[ByteArray.size_append]; omega,by simp only[ByteArray.size_append]; omega,trivial⟩
  rw[if_neg h2,if_neg h2];by_cases h4:(e.1==4)=true
  ·have k1:e.1=4:=beq_iff_eq.1 h4;have h3:¬(e.1==3)=true:=by rw[k1]; decide
   have q1:=(r87 b.1 b.2.1 (block_design h.hb).1 (h.place (.inr (.inr k1))).2.2).2.2;have q0:=h.place (.inr (.inr k1));have q2:=h.net (.inl k1);have q3:ByteArray.size (b.2.1.2.1.getD e.2.2.2.1.toNat (dflt Ty.str))<=8:=q2.2.1;have q4:=numS_size (n:=e.2.2.2.2.1) he.2.2.2.2.1;have eg:wordsL.getD (e.1-1).toNat (dflt Ty.str)=ByteArray.mk #[109,111,118,101]:=by rw[k1]; rfl
   have e5:(ByteArray.mk #[109,111,118,101]).size=4:=rfl;rw[if_pos h4,if_neg h3,if_pos h4,eg,nmS (.inr (.inr k1)),r67 (h.node k1)]
   repeat rw[vS]
   exact gP ⟨by omega,q0.1,q0.2.1,rfl,by simp only[ByteArray.size_append]; omega,by simp only[ByteArray.size_append]; omega,q2.1,by simp only[ByteArray.size_append]; omega,by simp only[ByteArray.size_append]; omega,rfl,by simp only[ByteArray.size_append]; omega,trivial⟩
  rw[if_neg h4];by_cases h5:(e.1==5)=true
  ·have k1:e.1=5:=beq_iff_eq.1 h5;have h3:¬(e.1==3)=true:=by rw[k1]; decide
   have q2:=h.net (.inr k1);have q3:ByteArray.size (b.2.1.2.1.getD e.2.2.2.1.toNat (dflt Ty.str))<=8:=q2.2.1;obtain⟨q4,q6,q7⟩:=h.wire k1;have q5:=wireT_size q4;have eg:wordsL.getD (e.1-1).toNat (dflt Ty.str)=ByteArray.mk #[119,105,114,101]:=by rw[k1]; rfl
   have e5:(ByteArray.mk #[119,105,114,101]).size=4:=rfl;rw[if_pos h5,if_neg h3,if_neg h4,eg,r68 _ _ he.2.2.2.2.2.2 q6 q7,vS];exact gP ⟨by omega,q2.1,by simp only[ByteArray.size_append]; omega,by simp only[ByteArray.size_append]; omega,rfl,by simp only[ByteArray.size_append]; omega,trivial⟩
  ·have k1:e.1=3:=by
    simp only[beq_iff_eq] at h1 h2 h4 h5;omega
   have h3:(e.1==3)=true:=by rw[k1]; rfl
   have eg:wordsL.getD (e.1-1).toNat (dflt Ty.str)=ByteArray.mk #[117,110,98,117,102,102,101,114]:=by rw[k1]; rfl
   rw[if_neg h5,if_pos h3,eg]
 ·rw[if_neg hc];exact if_pos (by simp[hc])
end Go.Proofs.YtfggbbnnalflhaaGreatDoor
end
section
namespace Go.Proofs.Sv
open Go
theorem pum_app(M:Nat)(m:List UInt8):∀(l:List UInt8) (acc:Nat),Lib.parseUintM M acc (l++m)=match Lib.parseUintM M acc l with | .ok a=>Lib.parseUintM M a m | e=>e
 | [],acc=>rfl
 | c :: r,acc=>by
   simp only[List.cons_append,Lib.parseUintM];split
   ·split
    ·rfl
    ·split
     ·rfl
     ·exact pum_app M m r _
   ·rfl
theorem dig_nat(d:Nat)(h:d<10):(UInt8.ofNat (48+d)).toNat=48+d:=by
 rw[UInt8.toNat_ofNat']; omega
theorem pum_dec(u:Nat):u<=9223372036854775808->Lib.parseUintM (2 ^ 64-1) 0 (Lib.decDigits u)=.ok u:=by
 induction u using Nat.strongRecOn with | ind u ih=>?_
 intro h;by_cases h10:u<10
 ·rw[decDigits_small h10];simp only[Lib.parseUintM,dig_nat u h10];rw[if_pos (by omega),if_neg (by omega),if_neg (by omega)];congr 1; omega
 ·rw[decDigits_big h10,pum_app,ih (u / 10) (by omega) (by omega)];have hd:u % 10<10:=Nat.mod_lt _ (by omega);simp only[Lib.parseUintM,dig_nat _ hd];rw[if_pos (by omega),if_neg (by omega),if_neg (by omega)];congr 1; omega
theorem dec_digits(u:Nat):∀c∈Lib.decDigits u,48<=c.toNat/\c.toNat<=57:=by
 induction u using Nat.strongRecOn with | ind u ih=>?_
 intro c hc;by_cases h10:u<10
 ·rw[decDigits_small h10,List.mem_singleton] at hc;rw[hc,dig_nat u h10]; omega
 ·rw[decDigits_big h10,List.mem_append,List.mem_singleton] at hc;rcases hc with hc | hc
  ·exact ih (u / 10) (by omega) c hc
  ·rw[hc,dig_nat _ (Nat.mod_lt _ (by omega))]; have:=Nat.mod_lt u (show 0<10 by omega); omega
theorem dec_ne(u:Nat):Lib.decDigits u≠[]:=by
 by_cases h10:u<10
 ·rw[decDigits_small h10]; simp
 ·rw[decDigits_big h10]; simp
theorem parse_itoa{x:Int}(h:InI x):Lib.parseIntB 64 (Lib.itoa x)=.ok x:=by
 obtain⟨h0,h1⟩:=h;rcases Int.lt_or_le x 0 with hx | hx
 ·rw[itoa_neg' hx];obtain⟨u,hu⟩:=Int.eq_ofNat_of_zero_le (show 0 <= -x by omega);rw[hu,Int.toNat_natCast];have hp:=pum_dec u (by omega);have e:Lib.parseUintB 64 (Lib.decDigits u)=.ok u:=by unfold Lib.parseUintB; rw[if_neg (dec_ne u)]; exact hp
  have e45:(45:UInt8).toNat=45:=rfl;simp only[Lib.parseIntB,e45,or_true,if_true,e];rw[if_neg (by simp),if_neg (by simp; omega)];congr 1; omega
 ·obtain⟨u,rfl⟩:=Int.eq_ofNat_of_zero_le hx;rw[itoa_nat];have hp:=pum_dec u (by omega);have e:Lib.parseUintB 64 (Lib.decDigits u)=.ok u:=by unfold Lib.parseUintB; rw[if_neg (dec_ne u)]; exact hp
  cases hd:Lib.decDigits u with
  | nil=>exact(dec_ne u hd).elim
  | cons c r =>
    have hc:=dec_digits u c (by rw[hd]; simp);rw[hd] at e;have n1:¬c.toNat=43:=by omega
    have n2:¬c.toNat=45:=by omega
    simp only[Lib.parseIntB,n1,n2,or_self,if_false,e];rw[if_neg (by simp; omega),if_neg (by simp)]
theorem index_none(c:UInt8):∀x:List UInt8,c ∉ x->Lib.index x [c] = -1
 | [],_=>rfl
 | b :: l,h=>by
   have hb:¬c=b:=fun e=>h (by simp[e]);have ih:=index_none c l (fun e=>h (by simp[e]));unfold Lib.index;have hp:List.isPrefixOf [c] (b :: l)=false:=by simp[List.isPrefixOf,hb]
   rw[hp,ih]; rfl
theorem index_word(c:UInt8)(r:List UInt8):∀x:List UInt8,c ∉ x->Lib.index (x++c :: r) [c]=(x.length:Int)
 | [],_=>by simp[Lib.index,List.isPrefixOf]
 | b :: l,h=>by
   have hb:¬c=b:=fun e=>h (by simp[e]);have ih:=index_word c r l (fun e=>h (by simp[e]));have hp:List.isPrefixOf [c] (b :: (l++c :: r))=false:=by simp[List.isPrefixOf,hb]
   rw[List.cons_append];unfold Lib.index;rw[hp,ih];have:((l.length:Int) == -1)=false:=by rw[beq_eq_false_iff_ne]; omega
   simp[this]
theorem join_cons2(c:UInt8)(x y:List UInt8)(r:List (List UInt8)):Lib.join (x :: y :: r) [c]=x++c :: Lib.join (y :: r) [c]:=by
 rw[Lib.join_cons,Lib.join_cons]; simp[Lib.joinTail]
theorem splitK_join(c:UInt8):∀(xs:List (List UInt8)),xs≠[]->(∀x∈xs,c ∉ x)->∀k,xs.length<=k+1->Lib.splitK [c] 0 k (Lib.join xs [c])=xs
 | [],h,_,_,_=>(h rfl).elim
 | [x],_,hc,k,_=>by
   rw[Lib.join_one];cases k with
   | zero=>rfl
   | succ k=>unfold Lib.splitK; rw[index_none c x (hc x (by simp))]; rfl
 | x :: y :: r,_,hc,k,hk=>by
   cases k with
   | zero=>simp at hk
   | succ k =>
     rw[join_cons2];have ih:=splitK_join c (y :: r) (by simp) (fun z hz=>hc z (by simp at hz ⊢; right; exact hz)) k (by simp at hk ⊢; omega);unfold Lib.splitK;rw[index_word c _ x (hc x (by simp))];have:((x.length:Int) == -1)=false:=by rw[beq_eq_false_iff_ne]; omega
     rw[this];have e1:List.drop (x.length+1) (x++c :: Lib.join (y :: r) [c])=Lib.join (y :: r) [c]:=by
      rw[List.drop_append]; simp
     simp[e1,ih]
theorem count_join(c:UInt8):∀(xs:List (List UInt8)),xs≠[]->(∀x∈xs,c ∉ x)->(Lib.join xs [c]).count c+1=xs.length
 | [],h,_=>(h rfl).elim
 | [x],_,hc=>by rw[Lib.join_one,List.count_eq_zero_of_not_mem (hc x (by simp))]; rfl
 | x :: y :: r,_,hc=>by
   have ih:=count_join c (y :: r) (by simp) (fun z hz=>hc z (by simp at hz ⊢; right; exact hz));rw[join_cons2,List.count_append,List.count_cons_self,List.count_eq_zero_of_not_mem (hc x (by simp))];simp at ih ⊢; omega
theorem splitB_join(c:UInt8)(xs:List (List UInt8))(hx:xs≠[])(hc:∀x∈xs,c ∉ x) :
  Lib.countB ⟨(Lib.join xs [c]).toArray⟩ ⟨#[c]⟩+1=xs.length/\Lib.splitB ⟨#[c]⟩ 0 (Lib.countB ⟨(Lib.join xs [c]).toArray⟩ ⟨#[c]⟩) ⟨(Lib.join xs [c]).toArray⟩=xs.map (fun l=>(⟨l.toArray⟩:ByteArray)):=by
 have h1:Lib.countB ⟨(Lib.join xs [c]).toArray⟩ ⟨#[c]⟩=(Lib.join xs [c]).count c:=Lib.count_one c _;have h2:=count_join c xs hx hc;refine⟨by rw[h1]; exact h2,?_⟩;have h3:=Lib.splitB_data ⟨#[c]⟩ 0 (Lib.countB ⟨(Lib.join xs [c]).toArray⟩ ⟨#[c]⟩) ⟨(Lib.join xs [c]).toArray⟩;have h4:Lib.splitK [c] 0 (Lib.countB ⟨(Lib.join xs [c]).toArray⟩ ⟨#[c]⟩) (Lib.join xs [c])=xs:=splitK_join c xs hx hc _ (by rw[h1]; omega);have h5:(Lib.splitB ⟨#[c]⟩ 0 (Lib.countB ⟨(Lib.join xs [c]).toArray⟩ ⟨#[c]⟩) ⟨(Lib.join xs [c]).toArray⟩).map (·.data.toList)=xs:=h3.trans h4;generalize Lib.splitB ⟨#[c]⟩ 0 (Lib.countB ⟨(Lib.join xs [c]).toArray⟩ ⟨#[c]⟩) ⟨(Lib.join xs [c]).toArray⟩=ys at h5;rw[<- h5,List.map_map];have:((fun l:List UInt8=>(⟨l.toArray⟩:ByteArray)) ∘ fun b:ByteArray=>b.data.toList)=id:=by funext b; cases b; simp
 rw[this]; simp
end Go.Proofs.Sv
end
section
namespace Go.Proofs.YtfggbbnnalflhaaGreatDoor
open Go Go.Proofs Go.Proofs.Sv Go.Proofs.Xv Go.Proofs.Xl Go.Proofs.Xd
theorem nm_ch{s:ByteArray}(h:nmB s=true):∀c∈bs s,48<=c.toNat/\c.toNat<=57∨97<=c.toNat/\c.toNat<=122:=by
 intro c hc;unfold nmB at h;simp only[ba] at h;obtain⟨k,hk,e⟩:=List.mem_iff_getElem.1 hc;have hl:=bs_len s;have h2:=nmTo_mono s (k+1) s.size (by omega) h.1.1;rw[nmTo,ba] at h2;have h3:=h2.2;have hb:byteAt s k=(c.toNat:Int):=by
  unfold byteAt;rw[gq,show s.data.toList=bs s from rfl,List.getElem?_eq_getElem hk,e];rfl
 rw[hb] at h3;unfold chB lowB digB at h3;simp only[Bool.or_eq_true,ba,dq] at h3;omega
theorem nm_no{s:ByteArray}(h:nmB s=true){c:UInt8}(hc:c.toNat<48):c ∉ bs s:=fun hm=>by
 have:=nm_ch h c hm;omega
structure DM(l:List Y115)(d:Y47):Prop where
 df:DF l d
 ins:∀i,i<d.1.length->nmB (insOf d i).1=true/\dupB (fun i=>(insOf d i).1) i=false
 prt:∀i,i<d.2.2.length->nmB (prtOf d i).1=true/\dupB (fun i=>(prtOf d i).1) i=false
 net:∀i,i<d.2.1.length->nmB (d.2.1.getD i (dflt .str))=true/\dupB (fun i=>d.2.1.getD i (dflt .str)) i=false
 cel:∀i,i<l.length->nmB (celOf l i).1=true
 pin:∀i,i<l.length->∀j,j < (celOf l i).2.2.1.length->nmB (pinOf (celOf l i) j).1=true/\dupB (fun j=>(pinOf (celOf l i) j).1) j=false
theorem dm_of{l:List Y115}{d:Y47}(h:designOk l d=true):DM l d:=by
 have df:=df_of h;have h:designB _ _ _ _ _ _ _ _ _=true:=h;unfold designB at h;simp only[ba] at h;obtain⟨⟨⟨⟨⟨⟨_,c1⟩,c3⟩,c2⟩,_⟩,_⟩,_⟩:=h;refine⟨df,fun i hi=>namesB_iff.1 c1 i hi,fun i hi=>namesB_iff.1 c2 i hi,fun i hi=>namesB_iff.1 c3 i hi,fun i hi=>?_,fun i hi j hj=>?_⟩
 ·have hc:cellB isArcS _ _ _ _ _ _ _ _ _=true:=lib_cell' df.lib hi;unfold cellB at hc;simp only[ba] at hc;exact hc.1.1.1.1.1
 ·have hc:cellB isArcS _ _ _ _ _ _ _ _ _=true:=lib_cell' df.lib hi;unfold cellB pinsOk at hc;simp only[ba] at hc;exact namesB_iff.1 hc.1.1.1.1.2.1.2 j hj
theorem joinS_two(a b:ByteArray)(r:List ByteArray):joinS (a :: b :: r) blank=a++blank++joinS (b :: r) blank:=by
 unfold joinS;rw[List.map_cons,List.map_cons];show(⟨(Lib.join (bs a :: bs b :: r.map bs) [32]).toArray⟩:ByteArray)=_;rw[join_cons2,show bs a++32 :: Lib.join (bs b :: r.map bs) [32]=bs a++([32]++Lib.join (bs b :: r.map bs) [32]) from rfl,<- ba_app,<- ba_app,ba_bs,ByteArray.append_assoc];rfl
abbrev swapS:ByteArray:=ByteArray.mk #[115,119,97,112]
abbrev bufS:ByteArray:=ByteArray.mk #[98,117,102,102,101,114]
abbrev unbS:ByteArray:=ByteArray.mk #[117,110,98,117,102,102,101,114]
abbrev movS:ByteArray:=ByteArray.mk #[109,111,118,101]
abbrev wirS:ByteArray:=ByteArray.mk #[119,105,114,101]
def edW(b:Y50)(e:Y38):List ByteArray :=
 if(e.1==1)=true then [swapS,nameV b.1 b.2.1 (plE b e),(b.1.getD e.2.2.1.toNat (dflt y115)).1]
 else if(e.1==2)=true then [bufS,nameV b.1 b.2.1 (plE b e),(b.1.getD e.2.2.1.toNat (dflt y115)).1,e.2.2.2.2.2.1]
 else if(e.1==3)=true then [unbS]
 else if(e.1==4)=true then [movS,nameV b.1 b.2.1 (plE b e),netS b.2.1 e.2.2.2.1,numS e.2.2.2.2.1]
 else [wirS,netS b.2.1 e.2.2.2.1,wireT e.2.2.2.2.2.2]
theorem ediT_words(b:Y50)(e:Y38):ediT b e=joinS (edW b e) blank:=by
 have e1:ByteArray.mk #[115,119,97,112,32]=swapS++blank:=ba_app [115,119,97,112] [32];have e2:ByteArray.mk #[98,117,102,102,101,114,32]=bufS++blank:=ba_app [98,117,102,102,101,114] [32];have e4:ByteArray.mk #[109,111,118,101,32]=movS++blank:=ba_app [109,111,118,101] [32];have e5:ByteArray.mk #[119,105,114,101,32]=wirS++blank:=ba_app [119,105,114,101] [32];unfold ediT edW;split
 ·rw[joinS_two,joinS_two,joinS_one,e1];simp only[ByteArray.append_assoc]
 split
 ·rw[joinS_two,joinS_two,joinS_two,joinS_one,e2];simp only[ByteArray.append_assoc]
 split
 ·rw[joinS_one]
 split
 ·rw[joinS_two,joinS_two,joinS_two,joinS_one,e4];simp only[ByteArray.append_assoc]
 ·rw[joinS_two,joinS_two,joinS_one,e5];simp only[ByteArray.append_assoc]
theorem bs_app(a b:ByteArray):bs (a++b)=bs a++bs b:=by
 unfold bs;rw[ByteArray.data_append,Array.toList_append]
theorem bs_mk(l:List UInt8):bs ⟨l.toArray⟩=l:=by simp[bs]
theorem no_app{c:UInt8}{a b:ByteArray}(h1:c ∉ bs a)(h2:c ∉ bs b):c ∉ bs (a++b):=by
 rw[bs_app,List.mem_append];exact fun h=>h.elim h1 h2
theorem join_no{c d:UInt8}(hd:c≠d):∀ls:List (List UInt8),(∀l∈ls,c ∉ l)->c ∉ Lib.join ls [d]
 | [],_=>by simp[Lib.join,List.intercalate]
 | [x],h=>by rw[Lib.join_one]; exact h x (List.mem_singleton.2 rfl)
 | x :: y :: r,h=>by
   rw[join_cons2,List.mem_append];rintro(h1 | h1)
   ·exact h x List.mem_cons_self h1
   ·rcases List.mem_cons.1 h1 with e | h1
    ·exact hd e
    ·exact join_no hd (y :: r) (fun l hl=>h l (List.mem_cons_of_mem _ hl)) h1
theorem joinS_no{c d:UInt8}{ls:List ByteArray}(hd:c≠d)(h:∀s∈ls,c ∉ bs s):c ∉ bs (joinS ls (ByteArray.mk #[d])):=by
 unfold joinS;rw[bs_mk];exact join_no hd _ (fun l hl=>by
  obtain⟨s,hs,rfl⟩:=List.mem_map.1 hl;exact h s hs)
theorem dig_no(c:UInt8)(hc:c.toNat<45)(x:Int):c ∉ Lib.itoa x:=by
 unfold Lib.itoa;split
 ·intro h;rcases List.mem_cons.1 h with h | h
  ·subst h; simp at hc
  ·have:=dec_digits _ c h; omega
 ·intro h;have:=dec_digits _ c h; omega
theorem numS_no{c:UInt8}(hc:c.toNat<45)(x:Int):c ∉ bs (numS x):=by
 show c ∉ bs ⟨(Lib.itoa x).toArray⟩;rw[bs_mk];exact dig_no c hc x
theorem numL_no{c:UInt8}(hc:c.toNat<44)(xs:List Int):c ∉ bs (numL xs):=joinS_no (d:=44) (fun e=>by subst e; simp at hc) fun s hs=>by
 obtain⟨x,_,rfl⟩:=List.mem_map.1 hs;exact numS_no (by omega) x
theorem wireT_no{c:UInt8}(hc:c.toNat<44)(w:Y36):c ∉ bs (wireT w):=joinS_no (d:=124) (fun e=>by subst e; simp at hc) fun s hs=>by
 simp only[List.mem_cons,List.not_mem_nil,or_false] at hs;rcases hs with rfl | rfl | rfl | rfl <;> exact numL_no hc _
theorem nameV_no{l:List Y115}{d:Y47}(h:DM l d){p:DPlace}(hp:p∈plcs d){c:UInt8}(hc:c.toNat<47):c ∉ bs (nameV l d p):=by
 unfold nameV;rcases plc_pin h.df hp with ⟨h1,h2,h3⟩ | ⟨h1,h2,h3,h4,h5,h6⟩
 ·rw[if_pos (by omega)];exact nm_no (h.prt _ h3).1 (by omega)
 ·rw[if_neg (by omega)];refine no_app (no_app (nm_no (h.ins _ h2).1 (by omega)) ?_) (nm_no (h.pin _ h4 _ h6).1 (by omega));show c ∉ [47];intro hm;rcases List.mem_cons.1 hm with e | hm
  ·subst e; simp at hc
  ·cases hm
theorem edW_no{b:Y50}{e:Y38}(h:EOk b e):∀w∈edW b e,(32:UInt8) ∉ bs w:=by
 have dm:=dm_of (block_design h.hb).1;have hk:=h.kind;have ce:e.1=1∨e.1=2->(32:UInt8) ∉ bs (b.1.getD e.2.2.1.toNat (dflt y115)).1:=fun k=>by
  have hc:=(range_1 h.rg (by rcases k with h1 | h1 <;> rw[h1] <;> rfl)).2;have h2:=inB_iff.1 hc;exact nm_no (dm.cel e.2.2.1.toNat (by omega)) (by decide)
 have nt:e.1=4∨e.1=5->(32:UInt8) ∉ bs (netS b.2.1 e.2.2.2.1):=fun k=>by
  have h1:=(h.net k).1;exact nm_no (dm.net e.2.2.2.1.toNat (by have:=h1.1; have:=h1.2; omega)).1 (by decide)
 intro w hw;unfold edW at hw;split at hw
 ·rename_i h1;have k:=beq_iff_eq.1 h1;simp only[List.mem_cons,List.not_mem_nil,or_false] at hw;rcases hw with rfl | rfl | rfl
  ·decide
  ·exact nameV_no dm (h.place (.inl k)).2.2 (by decide)
  ·exact ce (.inl k)
 split at hw
 ·rename_i h1;have k:=beq_iff_eq.1 h1;simp only[List.mem_cons,List.not_mem_nil,or_false] at hw;rcases hw with rfl | rfl | rfl | rfl
  ·decide
  ·exact nameV_no dm (h.place (.inr (.inl k))).2.2 (by decide)
  ·exact ce (.inr k)
  ·have hs:=h.st;unfold stateV at hs;rw[if_neg (by rw[k]; decide),if_pos (by rw[k]; decide)] at hs;simp only[ba] at hs;exact nm_no hs.1.1.2 (by decide)
 split at hw
 ·simp only[List.mem_cons,List.not_mem_nil,or_false] at hw;subst hw;decide
 split at hw
 ·rename_i h1;have k:=beq_iff_eq.1 h1;simp only[List.mem_cons,List.not_mem_nil,or_false] at hw;rcases hw with rfl | rfl | rfl | rfl
  ·decide
  ·exact nameV_no dm (h.place (.inr (.inr k))).2.2 (by decide)
  ·exact nt (.inl k)
  ·exact numS_no (by decide) _
 ·rename_i h1 h2 h3 h4;simp only[beq_iff_eq] at h1 h2 h3 h4;simp only[List.mem_cons,List.not_mem_nil,or_false] at hw;rcases hw with rfl | rfl | rfl
  ·decide
  ·exact nt (.inr (by omega))
  ·exact wireT_no (by decide) _
theorem edW_ne(b:Y50)(e:Y38):1<=(edW b e).length/\(edW b e).length<=4:=by
 unfold edW
 repeat' split
 all_goals (simp only[List.length_cons,List.length_nil]; omega)
theorem split_edi{b:Y50}{e:Y38}(h:EOk b e):Lib.countB (ediT b e) blank+1=(edW b e).length/\Lib.splitB blank 0 (Lib.countB (ediT b e) blank) (ediT b e)=edW b e:=by
 have hn:=(edW_ne b e).1;have key:=splitB_join 32 ((edW b e).map bs) (by
  intro h0;have h1:=congrArg List.length h0;rw[List.length_map,List.length_nil] at h1;omega) (fun l hl=>by
  obtain⟨w,hw,rfl⟩:=List.mem_map.1 hl;exact edW_no h w hw)
 have et:ediT b e=⟨(Lib.join ((edW b e).map bs) [32]).toArray⟩:=ediT_words b e;rw[<- et,List.length_map,List.map_map] at key;refine⟨key.1,key.2.trans ?_⟩;have:((fun l:List UInt8=>(⟨l.toArray⟩:ByteArray)) ∘ bs)=id:=funext fun s=>ba_bs s;rw[this,List.map_id]
theorem dup_no{f:Nat->ByteArray}{i:Nat}(h:dupB f i=false){k:Nat}(hk:k<i):f k≠f i:=fun e=>by
 have:=List.any_eq_false.1 h k (List.mem_range.2 hk);exact this (decide_eq_true e)
theorem fi_back{n:Nat}{P:Nat->Bool}{i:Nat}(hi:i<n)(h:P i=true)(hn:∀k,k<i->P k=false):fiV n P=(i:Int):=by
 unfold fiV;have e:(List.range n).find? P=some i:=by
  rw[List.find?_range_eq_some];exact⟨h,List.mem_range.2 hi,fun j hj=>by rw[hn j hj]; rfl⟩
 rw[e]
theorem net_back{l:List Y115}{d:Y47}(h:DM l d){i:Nat}(hi:i<d.2.1.length):netN d (d.2.1.getD i (dflt .str))=(i:Int) :=
 fi_back hi (decide_eq_true rfl) fun _ hk=>decide_eq_false (dup_no (h.net i hi).2 hk)
def celN(l:List Y115)(s:ByteArray):Int:=fiV l.length (fun i=>decide ((celOf l i).1=s))
theorem cel_back{l:List Y115}(hl:libOk l=true){i:Nat}(hi:i<l.length):celN l (celOf l i).1=(i:Int):=by
 have h:libB _ _ _=true:=hl;unfold libB at h;rw[ba] at h;have:=not_any.1 h.1 i hi;rw[Bool.or_eq_false_iff] at this;exact fi_back hi (decide_eq_true rfl) fun _ hk=>decide_eq_false (dup_no this.2 hk)
theorem part_inj{c:UInt8}:∀{x1 x2 y1 y2:List UInt8},c ∉ x1->c ∉ x2->x1++c :: y1=x2++c :: y2->x1=x2/\y1=y2
 | [],[],_,_,_,_,h=>⟨rfl,(List.cons.inj h).2⟩
 | [],a :: x2,_,_,_,h2,h=>absurd (List.mem_cons.2 (.inl (List.cons.inj h).1)) h2
 | a :: x1,[],_,_,h1,_,h=>absurd (List.mem_cons.2 (.inl (List.cons.inj h).1.symm)) h1
 | a :: x1,b :: x2,_,_,h1,h2,h=>by
   have h3:=List.cons.inj h;have h4:=part_inj (fun hm=>h1 (List.mem_cons_of_mem _ hm)) (fun hm=>h2 (List.mem_cons_of_mem _ hm)) h3.2;exact⟨by rw[h3.1,h4.1],h4.2⟩
theorem name_inj{l:List Y115}{d:Y47}(h:DM l d){p q:DPlace}(hp:p∈plcs d)(hq:q∈plcs d)(e:nameV l d p=nameV l d q):p.1=q.1/\p.2.1=q.2.1:=by
 have same:∀{n:Nat} {f:Nat->ByteArray},(∀i,i<n->nmB (f i)=true/\dupB f i=false)->∀{i j:Nat},i<n->j<n->f i=f j->i=j:=fun {n f} hf {i j} hi hj ef=>by
  rcases Nat.lt_trichotomy i j with h1 | h1 | h1
  ·exact absurd ef (dup_no (hf j hj).2 h1)
  ·exact h1
  ·exact absurd ef.symm (dup_no (hf i hi).2 h1)
 have bse:∀{a b:ByteArray},bs a=bs b->a=b:=fun {a b} hab=>by rw[<- ba_bs a,<- ba_bs b,hab]
 have bsl:bs (ByteArray.mk #[47])=[47]:=rfl;have e:=congrArg bs e;unfold nameV at e;rcases plc_pin h.df hp with ⟨h1,h2,h3⟩ | ⟨h1,h2,h3,h4,h5,h6⟩
 ·rw[if_pos (by omega:p.1<0)] at e;rcases plc_pin h.df hq with ⟨g1,g2,g3⟩ | ⟨g1,g2,g3,g4,g5,g6⟩
  ·rw[if_pos (by omega:q.1<0)] at e;have:=same h.prt h3 g3 (bse e);exact oo
  ·rw[if_neg (by omega:¬q.1<0),bs_app,bs_app,bsl] at e;refine absurd (nm_no (h.prt _ h3).1 (c:=47) (by decide)) (fun hn=>hn ?_);rw[e];exact List.mem_append_left _ (List.mem_append_right _ (List.mem_singleton.2 rfl))
 ·rw[if_neg (by omega:¬p.1<0),bs_app,bs_app,bsl] at e;rcases plc_pin h.df hq with ⟨g1,g2,g3⟩ | ⟨g1,g2,g3,g4,g5,g6⟩
  ·rw[if_pos (by omega:q.1<0)] at e;refine absurd (nm_no (h.prt _ g3).1 (c:=47) (by decide)) (fun hn=>hn ?_);rw[<- e];exact List.mem_append_left _ (List.mem_append_right _ (List.mem_singleton.2 rfl))
  ·rw[if_neg (by omega:¬q.1<0),bs_app,bs_app,bsl,List.append_assoc,List.append_assoc] at e;obtain⟨e1,e2⟩:=part_inj (c:=47) (nm_no (h.ins _ h2).1 (by decide)) (nm_no (h.ins _ g2).1 (by decide)) e;have i1:=same h.ins h2 g2 (bse e1);have e0:p.1=q.1:=by omega
   rw[<- i1] at e2 g6;have:=same (h.pin _ h4) h6 g6 (bse e2);exact⟨e0,by omega⟩
abbrev PR(p q:DPlace):Prop:=p.1≠q.1∨p.2.1≠q.2.1
theorem inst_pw(x:DInst)(i:Nat){s:List DPlace}(hs:s.Pairwise PR)(hb:∀p∈s,0<=p.1/\p.1 < (i:Int)):∀k,(fN (instP x i) k s).Pairwise PR/\∀p∈fN (instP x i) k s,0<=p.1/\(p.1 < (i:Int)∨(p.1=(i:Int)/\p.2.1 < (k:Int)))
 | 0=>⟨hs,fun p hp=>⟨(hb p hp).1,.inl (hb p hp).2⟩⟩
 | k+1=>by
   obtain⟨h1,h2⟩:=inst_pw x i hs hb k;show(fN (instP x i) k s++[((i:Int),(k:Int),x.2.2.getD k 0,(k:Int)==(x.2.2.length:Int)-1)]).Pairwise PR/\∀p∈fN (instP x i) k s++[((i:Int),(k:Int),x.2.2.getD k 0,(k:Int)==(x.2.2.length:Int)-1)],_;refine⟨List.pairwise_append.2 ⟨h1,List.pairwise_singleton _ _,fun a ha b hb'=>?_⟩,fun p hp=>?_⟩
   ·obtain rfl:=List.mem_singleton.1 hb';rcases(h2 a ha).2 with h3 | h3
    ·exact .inl (show a.1≠(i:Int) by omega)
    ·exact .inr (show a.2.1≠(k:Int) by omega)
   ·rcases List.mem_append.1 hp with h3 | h3
    ·have h4:=h2 p h3;exact⟨h4.1,by omega⟩
    ·obtain rfl:=List.mem_singleton.1 h3;exact⟨Int.natCast_nonneg i,.inr ⟨rfl,show(k:Int) < ((k+1:Nat):Int) by omega⟩⟩
theorem insts_pw(x:Nat->DInst):∀m,(fN (placesF x) m []).Pairwise PR/\∀p∈fN (placesF x) m [],0<=p.1/\p.1 < (m:Int)
 | 0=>⟨List.Pairwise.nil,fun _ hp=>by cases hp⟩
 | m+1=>by
   obtain⟨h1,h2⟩:=insts_pw x m;show(fN (instP (x m) m) (x m).2.2.length (fN (placesF x) m [])).Pairwise PR/\∀p∈fN (instP (x m) m) (x m).2.2.length (fN (placesF x) m []),_;obtain⟨h3,h4⟩:=inst_pw (x m) m h1 h2 (x m).2.2.length;exact⟨h3,fun p hp=>by have:=h4 p hp; exact⟨this.1,by omega⟩⟩
theorem ports_pw(y:Nat->DPort){s:List DPlace}(hs:s.Pairwise PR)(hb:∀p∈s,0<=p.1):∀k,(fN (portP y) k s).Pairwise PR/\∀p∈fN (portP y) k s,0<=p.1∨(p.1 = -1/\p.2.1 < (k:Int))
 | 0=>⟨hs,fun p hp=>.inl (hb p hp)⟩
 | k+1=>by
   obtain⟨h1,h2⟩:=ports_pw y hs hb k;show(fN (portP y) k s++[((-1:Int),(k:Int),(y k).2.2,(y k).2.1==1)]).Pairwise PR/\∀p∈fN (portP y) k s++[((-1:Int),(k:Int),(y k).2.2,(y k).2.1==1)],_;refine⟨List.pairwise_append.2 ⟨h1,List.pairwise_singleton _ _,fun a ha b hb'=>?_⟩,fun p hp=>?_⟩
   ·obtain rfl:=List.mem_singleton.1 hb';rcases h2 a ha with h3 | h3
    ·exact .inl (show a.1≠(-1:Int) by omega)
    ·exact .inr (show a.2.1≠(k:Int) by omega)
   ·rcases List.mem_append.1 hp with h3 | h3
    ·have h4:=h2 p h3;omega
    ·obtain rfl:=List.mem_singleton.1 h3;exact .inr ⟨rfl,show(k:Int) < ((k+1:Nat):Int) by omega⟩
theorem plc_pw(d:Y47):(plcs d).Pairwise PR:=by
 obtain⟨h1,h2⟩:=insts_pw (insOf d) d.1.length;exact(ports_pw (prtOf d) h1 (fun p hp=>(h2 p hp).1) d.2.2.length).1
def plaN(l:List Y115)(d:Y47)(s:ByteArray):Int:=fiV (plcs d).length (fun i=>decide (nameV l d (plcOf d i)=s))
theorem plc_back{l:List Y115}{d:Y47}(h:DM l d){i:Nat}(hi:i < (plcs d).length):plaN l d (nameV l d (plcOf d i))=(i:Int):=by
 refine fi_back hi (decide_eq_true rfl) fun k hk=>decide_eq_false fun e=>?_;have h1:=name_inj h (plc_mem (by omega:k < (plcs d).length)) (plc_mem hi) e;have h2:=List.pairwise_iff_getElem.1 (plc_pw d) k i (by omega) hi hk;have g:∀j,(hj:j < (plcs d).length)->plcOf d j=(plcs d)[j]:=fun j hj=>by
  show(plcs d).getD j _=_;rw[gq,List.getElem?_eq_getElem hj];rfl
 rw[g k (by omega),g i hi] at h1;rcases h2 with h2 | h2
 ·exact h2 h1.1
 ·exact h2 h1.2
end Go.Proofs.YtfggbbnnalflhaaGreatDoor
end
section
namespace Go.Proofs.Sv
open Go
def wdsK(c:UInt8):List UInt8->List (List UInt8)
 | []=>[[]]
 | x :: r=>if x=c then [] :: wdsK c r else match wdsK c r with
   | []=>[[x]]
   | w :: t=>(x :: w) :: t
theorem wds_ne(c:UInt8):∀l,wdsK c l≠[]
 | []=>by simp[wdsK]
 | x :: r=>by
   unfold wdsK;split
   ·simp
   ·split <;> simp
theorem wds_no(c:UInt8):∀l,∀w∈wdsK c l,c ∉ w
 | [],w,hw=>by
   have:w=[]:=List.mem_singleton.1 hw;subst this;simp
 | x :: r,w,hw=>by
   unfold wdsK at hw;split at hw
   ·rcases List.mem_cons.1 hw with rfl | hw
    ·simp
    ·exact wds_no c r w hw
   ·rename_i hx;split at hw
    ·rename_i h0;exact absurd h0 (wds_ne c r)
    ·rename_i v t h0;rcases List.mem_cons.1 hw with rfl | hw
     ·intro hm;rcases List.mem_cons.1 hm with e | hm
      ·exact hx e.symm
      ·exact wds_no c r v (by rw[h0]; exact List.mem_cons_self) hm
     ·exact wds_no c r w (by rw[h0]; exact List.mem_cons_of_mem _ hw)
theorem wds_join(c:UInt8):∀l,Lib.join (wdsK c l) [c]=l
 | []=>by rw[wdsK,Lib.join_one]
 | x :: r=>by
   have ih:=wds_join c r;have hn:=wds_ne c r;unfold wdsK;split
   ·rename_i hx;subst hx
    revert ih
    cases h0:wdsK x r with
    | nil=>exact absurd h0 hn
    | cons v t =>
      intro ih;rw[join_cons2,ih];rfl
   ·revert ih
    cases h0:wdsK c r with
    | nil=>exact absurd h0 hn
    | cons v t =>
      intro ih;show Lib.join ((x :: v) :: t) [c]=_;cases t with
      | nil =>
        rw[Lib.join_one] at ih ⊢;rw[ih]
      | cons u t' =>
        rw[join_cons2] at ih ⊢;rw[<- ih];rfl
theorem wds_len(c:UInt8)(l:List UInt8):(wdsK c l).length=l.count c+1:=by
 have h:=count_join c (wdsK c l) (wds_ne c l) (wds_no c l);rw[wds_join] at h;exact h.symm
theorem splitB_all(c:UInt8)(l:List UInt8):Lib.countB ⟨l.toArray⟩ ⟨#[c]⟩+1=(wdsK c l).length/\Lib.splitB ⟨#[c]⟩ 0 (Lib.countB ⟨l.toArray⟩ ⟨#[c]⟩) ⟨l.toArray⟩=(wdsK c l).map (fun w=>(⟨w.toArray⟩:ByteArray)):=by
 have h:=splitB_join c (wdsK c l) (wds_ne c l) (wds_no c l);rw[wds_join] at h;exact h
theorem wds_snoc(c x:UInt8):∀(l:List UInt8) (out:List (List UInt8)) (w:List UInt8),wdsK c l=out++[w]->wdsK c (l++[x])=if x=c then out++[w]++[[]] else out++[w++[x]]
 | [],out,w,h=>by
   have h:[[]]=out++[w]:=h;cases out with
   | nil =>
     obtain rfl:[]=w:=(List.cons.inj h).1;show wdsK c [x]=_;unfold wdsK;split
     ·rfl
     ·rfl
   | cons a t =>
     have:=congrArg List.length h;simp at this
 | y :: r,out,w,h=>by
   show wdsK c (y :: (r++[x]))=_;unfold wdsK at h ⊢;by_cases hy:y=c
   ·rw[if_pos hy] at h ⊢;cases out with
    | nil =>
      have h2:wdsK c r=[]:=(List.cons.inj h).2;exact absurd h2 (wds_ne c r)
    | cons a t =>
      obtain⟨rfl,h2⟩:=List.cons.inj h;rw[wds_snoc c x r t w h2];split <;> rfl
   ·rw[if_neg hy] at h ⊢
    revert h
    cases h0:wdsK c r with
    | nil=>exact absurd h0 (wds_ne c r)
    | cons v t =>
      intro h;have h:(y :: v) :: t=out++[w]:=h;cases out with
      | nil =>
        obtain⟨rfl,rfl⟩:=List.cons.inj h;rw[wds_snoc c x r [] v h0];by_cases hx:x=c
        ·rw[if_pos hx,if_pos hx];rfl
        ·rw[if_neg hx,if_neg hx];rfl
      | cons a s =>
        obtain⟨rfl,rfl⟩:=List.cons.inj h;rw[wds_snoc c x r (v :: s) w h0];by_cases hx:x=c
        ·rw[if_pos hx,if_pos hx];rfl
        ·rw[if_neg hx,if_neg hx];rfl
def digV(l:List UInt8):Int:=l.foldl (fun n c=>10*n+((c.toNat:Int)-48)) 0
theorem digV_snoc(l:List UInt8)(c:UInt8):digV (l++[c])=10*digV l+((c.toNat:Int)-48):=by
 unfold digV;rw[List.foldl_append];rfl
theorem dec_val(u:Nat):digV (Lib.decDigits u)=(u:Int):=by
 induction u using Nat.strongRecOn with | ind u ih=>?_
 by_cases h10:u<10
 ·rw[decDigits_small h10];show 10*0+(((UInt8.ofNat (48+u)).toNat:Int)-48)=_;rw[dig_nat u h10];omega
 ·rw[decDigits_big h10,digV_snoc,ih (u / 10) (by omega),dig_nat _ (Nat.mod_lt _ (by omega))];omega
theorem dec_len(k:Nat):∀u,u<10 ^ (k+1)->1<=(Lib.decDigits u).length/\(Lib.decDigits u).length<=k+1:=by
 induction k with
 | zero =>
   intro u h;rw[decDigits_small (by omega)];exact⟨Nat.le_refl _,Nat.le_refl _⟩
 | succ k ih =>
   intro u h;by_cases h10:u<10
   ·rw[decDigits_small h10];exact⟨Nat.le_refl _,by show 1<=_; omega⟩
   ·have h2:u / 10<10 ^ (k+1):=Nat.div_lt_of_lt_mul (by rw[Nat.pow_succ] at h; omega);have h3:=ih (u / 10) h2;rw[decDigits_big h10,List.length_append];show 1<=_+1/\_+1<=_;omega
theorem digV_take(l:List UInt8)(h:∀c∈l,48<=c.toNat/\c.toNat<=57):∀k,0<=digV (l.take k)/\digV (l.take k)<10 ^ k:=by
 intro k
 induction k with
 | zero=>exact⟨Int.le_refl 0,by show(0:Int)<1; decide⟩
 | succ k ih =>
   by_cases hk:k<l.length
   ·rw[List.take_succ_eq_append_getElem hk,digV_snoc];have:=h l[k] (List.getElem_mem hk);have e:(10:Int) ^ (k+1)=10 ^ k*10:=Int.pow_succ 10 k;omega
   ·have e:l.take (k+1)=l.take k:=by rw[List.take_of_length_le (by omega),List.take_of_length_le (by omega)]
    have e2:(10:Int) ^ (k+1)=10 ^ k*10:=Int.pow_succ 10 k;rw[e];omega
def digs(l:List UInt8):List UInt8:=if l.head?=some 45 then l.tail else l
def isDig(c:UInt8):Bool:=decide (48<=c.toNat)&&decide (c.toNat<=57)
def valS(l:List UInt8):Int×Bool :=
 if(digs l).length<1∨12 < (digs l).length then(0,false)
 else if(digs l).all isDig=true then(if(digs l).length<l.length then -(digV (digs l)) else digV (digs l),decide (Lib.itoa (if(digs l).length<l.length then -(digV (digs l)) else digV (digs l))=l))
 else(0,false)
theorem isDig_iff{c:UInt8}:isDig c=true↔48<=c.toNat/\c.toNat<=57:=by
 unfold isDig;rw[ba,dq,dq]
theorem digs_dec(u:Nat):digs (Lib.decDigits u)=Lib.decDigits u:=by
 unfold digs;refine if_neg fun h=>?_;cases hd:Lib.decDigits u with
 | nil=>rw[hd] at h; cases h
 | cons c r =>
   rw[hd] at h;have hc:=dec_digits u c (by rw[hd]; simp);have h:c=45:=by simpa using h
   subst h;have:(45:UInt8).toNat=45:=rfl;omega
theorem digV_in{l:List UInt8}(h:l.all isDig=true)(hl:l.length<=12):0<=digV l/\digV l<1000000000000:=by
 have h1:=digV_take l (fun c hc=>isDig_iff.1 (List.all_eq_true.1 h c hc)) 12;rw[List.take_of_length_le hl] at h1;have e:(10:Int) ^ 12=1000000000000:=by decide
 rw[e] at h1;exact h1
theorem val_in(l:List UInt8) : -1000000000000 < (valS l).1/\(valS l).1<1000000000000:=by
 unfold valS;split
 ·exact⟨by show(-1000000000000:Int)<0; omega,by show(0:Int)<1000000000000; omega⟩
 rename_i hl;split
 ·rename_i ha;have:=digV_in ha (by omega);have h1:(-1000000000000:Int) < -(digV (digs l)):=by omega
  have h2:(-(digV (digs l)):Int)<1000000000000:=by omega
  have h3:(-1000000000000:Int)<digV (digs l):=by omega
  refine⟨?_,?_⟩
  ·show _ < (if _ then _ else _);split
   ·exact h1
   ·exact h3
  ·show(if _ then _ else _)<_;split
   ·exact h2
   ·exact this.2
 ·exact⟨by show(-1000000000000:Int)<0; omega,by show(0:Int)<1000000000000; omega⟩
theorem val_itoa{x:Int}(h : -1000000000000<x/\x<1000000000000):valS (Lib.itoa x)=(x,true):=by
 have key:∀u:Nat,(u:Int)<1000000000000->1<=(Lib.decDigits u).length/\(Lib.decDigits u).length<=12/\(Lib.decDigits u).all isDig=true:=fun u hu=>by
  obtain⟨a,b⟩:=dec_len 11 u (by show u<1000000000000; omega);exact⟨a,b,List.all_eq_true.2 fun c hc=>isDig_iff.2 (dec_digits u c hc)⟩
 rcases Int.lt_or_le x 0 with hx | hx
 ·obtain⟨u,hu⟩:=Int.eq_ofNat_of_zero_le (show 0 <= -x by omega);have e:Lib.itoa x=45 :: Lib.decDigits u:=by rw[itoa_neg' hx,hu,Int.toNat_natCast]
  obtain⟨k1,k2,k3⟩:=key u (by omega);have ed:digs (45 :: Lib.decDigits u)=Lib.decDigits u:=rfl;have hn:(Lib.decDigits u).length < (45 :: Lib.decDigits u).length:=by rw[List.length_cons]; omega
  have hv:(-(digV (Lib.decDigits u)):Int)=x:=by rw[dec_val]; omega
  rw[e];unfold valS;rw[ed,if_neg (by omega),if_pos k3,if_pos hn,hv,e];exact congrArg (Prod.mk x) (decide_eq_true rfl)
 ·obtain⟨u,rfl⟩:=Int.eq_ofNat_of_zero_le hx;obtain⟨k1,k2,k3⟩:=key u (by omega);rw[itoa_nat];unfold valS;rw[digs_dec,if_neg (by omega),if_pos k3,if_neg (by omega),dec_val,itoa_nat];exact congrArg (Prod.mk (u:Int)) (decide_eq_true rfl)
end Go.Proofs.Sv
end
section
namespace Go.Proofs.Sv
open Go Go.Proofs.Xd
structure SpI(c:UInt8)(l:List UInt8)(i:Nat)(out:List (List UInt8))(fr:Nat):Prop where
 le:fr<=i
 eq:wdsK c (l.take i)=out++[(l.take i).drop fr]
theorem SpI.zero(c:UInt8)(l:List UInt8):SpI c l 0 [] 0:=⟨Nat.le_refl 0,rfl⟩
theorem SpI.cut{c:UInt8}{l:List UInt8}{i fr:Nat}{out:List (List UInt8)}(h:SpI c l i out fr)(hi:i<l.length)(hc:l[i]=c):SpI c l (i+1) (out++[(l.take i).drop fr]) (i+1):=by
 refine⟨Nat.le_refl _,?_⟩;have hd:(l.take (i+1)).drop (i+1)=[]:=List.drop_eq_nil_of_le (by rw[List.length_take]; omega);rw[hd,List.take_succ_eq_append_getElem hi,wds_snoc c l[i] _ out _ h.eq,if_pos hc]
theorem SpI.go{c:UInt8}{l:List UInt8}{i fr:Nat}{out:List (List UInt8)}(h:SpI c l i out fr)(hi:i<l.length)(hc:l[i]≠c):SpI c l (i+1) out fr:=by
 refine⟨Nat.le_succ_of_le h.le,?_⟩;have hl:(l.take i).length=i:=by rw[List.length_take]; omega
 have:=h.le;rw[List.take_succ_eq_append_getElem hi,wds_snoc c l[i] _ out _ h.eq,if_neg hc,List.drop_append_of_le_length (by omega)]
theorem SpI.last{c:UInt8}{l:List UInt8}{fr:Nat}{out:List (List UInt8)}(h:SpI c l l.length out fr):wdsK c l=out++[(l.take l.length).drop fr]:=by
 have:=h.eq
 rwa [List.take_length] at this ⊢
def mkS(l:List UInt8):ByteArray:=⟨l.toArray⟩
theorem mkS_bs(s:ByteArray):mkS (bs s)=s:=ba_bs s
theorem bs_mkS(l:List UInt8):bs (mkS l)=l:=by simp[bs,mkS]
theorem mkS_inj{a b:List UInt8}(h:mkS a=mkS b):a=b:=by rw[<- bs_mkS a,h,bs_mkS]
theorem bs_ext(s:ByteArray)(a b:Nat):bs (s.extract a b)=((bs s).take b).drop a:=by
 unfold bs;rw[ByteArray.data_extract,Array.toList_extract,List.extract_eq_take_drop,List.drop_take]
theorem ext_mkS(s:ByteArray)(a b:Nat):s.extract a b=mkS (((bs s).take b).drop a):=by rw[<- bs_ext,mkS_bs]
theorem wds_sum(c:UInt8):∀l:List UInt8,∀w∈wdsK c l,w.length<=l.length
 | [],w,h=>by
   have:w=[]:=List.mem_singleton.1 h;subst this; exact Nat.le_refl _
 | x :: r,w,h=>by
   unfold wdsK at h;split at h
   ·rcases List.mem_cons.1 h with rfl | h
    ·exact Nat.zero_le _
    ·have:=wds_sum c r w h; rw[List.length_cons]; omega
   ·split at h
    ·rename_i h0; exact absurd h0 (wds_ne c r)
    ·rename_i v t h0;rcases List.mem_cons.1 h with rfl | h
     ·have:=wds_sum c r v (by rw[h0]; exact List.mem_cons_self); rw[List.length_cons,List.length_cons]; omega
     ·have:=wds_sum c r w (by rw[h0]; exact List.mem_cons_of_mem _ h); rw[List.length_cons]; omega
theorem wds_cnt(c:UInt8)(l:List UInt8):1<=(wdsK c l).length/\(wdsK c l).length<=l.length+1:=by
 rw[wds_len];have:=List.count_le_length (a:=c) (l:=l);omega
def rdL(ws:List (List UInt8)):List Int:=ws.filterMap fun w=>if(valS w).2=true then some (valS w).1 else none
theorem rdL_snoc(ws:List (List UInt8))(w:List UInt8):rdL (ws++[w])=if(valS w).2=true then rdL ws++[(valS w).1] else rdL ws:=by
 unfold rdL;rw[List.filterMap_append];split
 ·rename_i h; simp[h]
 ·rename_i h; simp[h]
theorem rdL_len(ws:List (List UInt8)):(rdL ws).length<=ws.length:=List.length_filterMap_le _ _
theorem rdL_in{ws:List (List UInt8)}{x:Int}(h:x∈rdL ws) : -1000000000000<x/\x<1000000000000:=by
 unfold rdL at h;obtain⟨w,_,e⟩:=List.mem_filterMap.1 h;split at e
 ·cases e; exact val_in w
 ·cases e
theorem rdL_itoa{xs:List Int}(h:∀x∈xs,-1000000000000<x/\x<1000000000000):rdL (xs.map Lib.itoa)=xs:=by
 induction xs with
 | nil=>rfl
 | cons x r ih =>
   have e:=val_itoa (h x List.mem_cons_self);have ih:=ih fun y hy=>h y (List.mem_cons_of_mem _ hy);unfold rdL at ih ⊢;rw[List.map_cons,List.filterMap_cons];simp only[e,if_true];rw[ih]
end Go.Proofs.Sv
end
section
namespace Go.Proofs.YtfggbbnnalflhaaGreatDoor
open Go Go.Proofs Go.Proofs.Sv Go.Proofs.Xv Go.Proofs.Xl Go.Proofs.Xd
def wdB(c:UInt8)(s:ByteArray):List ByteArray:=(wdsK c (bs s)).map mkS
theorem wdB_len(c:UInt8)(s:ByteArray):1<=(wdB c s).length/\(wdB c s).length<=s.size+1:=by
 have:=wds_cnt c (bs s);rw[bs_len] at this;unfold wdB
 rwa [List.length_map]
theorem mkS_size(l:List UInt8):(mkS l).size=l.length:=ba_size l
theorem wdB_size{c:UInt8}{s w:ByteArray}(h:w∈wdB c s):w.size<=s.size:=by
 obtain⟨l,hl,rfl⟩:=List.mem_map.1 h;have:=wds_sum c (bs s) l hl;rw[bs_len] at this
 rwa [mkS_size]
theorem sp31(c:UInt8)(s:ByteArray)(h:s.size<=1048576):u31 s ⟨#[c]⟩=some (wdB c s):=by
 obtain⟨h1,h2⟩:=splitB_all c (bs s);rw[ba_bs] at h1 h2;have hc:=(wds_cnt c (bs s)).2;have hl:=bs_len s;unfold u31;rw[if_pos ⟨by omega,Nat.le_refl 1,by rw[h2,List.length_map,h1],by omega⟩,h2];rfl
theorem byte_at{s:ByteArray}{i:Nat}(hi:i < (bs s).length):byteAt s i=(((bs s)[i]).toNat:Int):=by
 unfold byteAt;rw[gq,show s.data.toList=bs s from rfl,List.getElem?_eq_getElem hi];rfl
theorem r24(s:ByteArray)(c:UInt8)(h:s.size<=1048576):u24 s (c.toNat:Int)=some (wdB c s):=by
 have hl:=bs_len s;have hb:∀{i:Nat} (hi:i < (bs s).length),byteAt s i=(c.toNat:Int)↔(bs s)[i]=c:=fun {i} hi=>by
  rw[byte_at hi];constructor
  ·intro e;exact UInt8.toNat_inj.1 (by omega)
  ·intro e;rw[e]
 refine lp_run (σ:=Int×List ByteArray) (n:=s.size+1) (by omega) (fun i (p:Int×List ByteArray)=>(p.1,(i:Int),p.2)) (fun i p=>some (if i=s.size∨byteAt s i=(c.toNat:Int) then((i:Int)+1,p.2++[s.extract p.1.toNat i]) else p)) (fun _ _=>none)
  (fun i p=>(i<=s.size->∃(fr:Nat) (out:List (List UInt8)),p=((fr:Int),out.map mkS)/\SpI c (bs s) i out fr)/\(i=s.size+1->p.2=wdB c s)) (J:=fun p=>u24J0 p.2) (F:=u24L1 s (c.toNat:Int))
  (fun g i p hi hI=>?_) (fun i p p' hi hI he=>?_) (fun g p hI=>?_) (fun _ _=>some (wdB c s)) (fun p hI=>?_) (fun _ _ _ _=>rfl) 0 (Nat.zero_le _) (0,[]) ⟨fun _=>⟨0,[],rfl,SpI.zero _ _⟩,fun e=>by omega⟩
 ·obtain⟨fr,out,rfl,hS⟩:=hI.1 (by omega);have hfr:=hS.le;have hol:out.length<=i:=by
   have:=wds_cnt c ((bs s).take i);rw[hS.eq,List.length_append,List.length_singleton,List.length_take] at this;omega
  have e1:((i:Int)).toNat=i:=rfl;refine(if_pos (by simp; omega)).trans ?_;rw[e1];refine(gP ⟨fun h1=>⟨by omega,by have h2:=h1.1; simp at h2; omega⟩,trivial⟩).trans ?_;show _=g ((if i=s.size∨byteAt s i=(c.toNat:Int) then((i:Int)+1,out.map mkS++[s.extract (fr:Int).toNat i]) else((fr:Int),out.map mkS)).1,((i+1:Nat):Int),(if i=s.size∨byteAt s i=(c.toNat:Int) then((i:Int)+1,out.map mkS++[s.extract (fr:Int).toNat i]) else((fr:Int),out.map mkS)).2);by_cases hc:i=s.size∨byteAt s i=(c.toNat:Int)
  ·rw[if_pos hc];refine(if_pos (by
    rw[Bool.or_eq_true,beq_iff_eq,beq_iff_eq];rcases hc with hc | hc
    ·left; omega
    ·right; exact hc)).trans ?_
   refine(gP ⟨⟨by omega,by omega,by omega⟩,⟨by rw[List.length_map,List.length_singleton]; omega,by rw[List.length_map,List.length_singleton]; omega⟩,trivial⟩).trans ?_;refine(gP ⟨oo,trivial⟩).trans ?_;exact gP ⟨oo,trivial⟩
  ·rw[if_neg hc];refine(if_neg (by
    rw[Bool.or_eq_true,beq_iff_eq,beq_iff_eq];rintro(h1 | h1)
    ·exact hc (.inl (by omega))
    ·exact hc (.inr h1))).trans ?_
   exact gP ⟨oo,trivial⟩
 ·obtain⟨fr,out,rfl,hS⟩:=hI.1 (by omega);cases he;have e2:((fr:Int)).toNat=fr:=rfl;by_cases hi2:i=s.size
  ·refine⟨fun h1=>by omega,fun _=>?_⟩;rw[if_pos (.inl hi2)];have hS':SpI c (bs s) (bs s).length out fr:=by rw[hl,<- hi2]; exact hS
   unfold wdB;rw[hS'.last,List.map_append];show _++[_]=_++[_];rw[ext_mkS,e2,hi2,hl]
  ·refine⟨fun _=>?_,fun h1=>by omega⟩;have hi3:i < (bs s).length:=by omega
   by_cases hc:byteAt s i=(c.toNat:Int)
   ·rw[if_pos (.inr hc)];refine⟨i+1,out++[((bs s).take i).drop fr],?_,hS.cut hi3 ((hb hi3).1 hc)⟩;rw[List.map_append,e2,ext_mkS];rfl
   ·rw[if_neg (fun h1=>h1.elim hi2 hc)];exact⟨fr,out,rfl,hS.go hi3 fun h1=>hc ((hb hi3).2 h1)⟩
 ·exact if_neg (by simp; omega)
 ·show some _=some _;rw[hI.2 rfl]
theorem val63{s d:ByteArray}(_:s.size<=1048576)(hd:bs d=digs (bs s)):u63J0 s d=some (valS (bs s)):=by
 have hl:=bs_len s;have hdl:=bs_len d;unfold u63J0 valS;rw[<- hd];by_cases h1:(bs d).length<1∨12 < (bs d).length
 ·rw[if_pos h1];refine if_pos ?_;rw[Bool.or_eq_true,dq,dq];omega
 rw[if_neg h1];refine(if_neg (by rw[Bool.or_eq_true,dq,dq]; omega)).trans ?_;have hby:∀i,i < (bs d).length->0<=byteAt d i/\byteAt d i<=255:=fun i hi=>by
  rw[byte_at hi];have:=((bs d)[i]).toNat_lt;omega
 have hdig:∀i (hi:i < (bs d).length),isDig (bs d)[i]=true↔¬(byteAt d i<48∨57<byteAt d i):=fun i hi=>by
  rw[isDig_iff,byte_at hi];omega
 have hst:∀i,i < (bs d).length->digV ((bs d).take (i+1))=10*digV ((bs d).take i)+(byteAt d i-48):=fun i hi=>by
  rw[List.take_succ_eq_append_getElem hi,digV_snoc,byte_at hi]
 have hbd:∀i,i<=(bs d).length->(∀j (hj:j < (bs d).length),j<i->isDig (bs d)[j]=true)->0<=digV ((bs d).take i)/\digV ((bs d).take i)<1000000000000:=fun i hi hall=>by
  refine digV_in (List.all_eq_true.2 fun c hc=>?_) (by rw[List.length_take]; omega);obtain⟨j,hj,e⟩:=List.mem_iff_getElem.1 hc;rw[List.length_take] at hj;rw[List.getElem_take] at e;rw[<- e];exact hall j (by omega) (by omega)
 have key:=lp_run (σ:=Int) (n:=d.size) (by omega) (fun i (v:Int)=>(v,(i:Int))) (fun i v=>if byteAt d i<48∨57<byteAt d i then none else some (10*v+(byteAt d i-48))) (fun _ _=>some ((0:Int),false))
  (fun i v=>v=digV ((bs d).take i)/\∀j (hj:j < (bs d).length),j<i->isDig (bs d)[j]=true) (J:=u63J1 s d) (F:=u63L2 d s)
  (fun g i v hi hI=>?_) (fun i v v' hi hI he=>?_) (fun g v _=>?_)
  (fun i v=>if ∀j (hj:j < (bs d).length),isDig (bs d)[j]=true then u63J1 s d (digV (bs d)) else some ((0:Int),false)) (fun v hI=>?_) (fun i v hi hI=>?_) 0 (Nat.zero_le _) 0 ⟨rfl,fun _ _ h=>by omega⟩
 ·refine key.trans ?_;by_cases hall:∀j (hj:j < (bs d).length),isDig (bs d)[j]=true
  ·have ha:(bs d).all isDig=true:=List.all_eq_true.2 fun c hc=>by
    obtain⟨j,hj,e⟩:=List.mem_iff_getElem.1 hc;rw[<- e]; exact hall j hj
   have hv:=digV_in ha (by omega);rw[if_pos hall,if_pos ha];have J3:∀n:Int,-1000000000000<n->n<1000000000000->u63J3 s n=some (n,decide (Lib.itoa n=bs s)):=fun n h1 h2=>by
    have e:u67 n=some (numS n):=if_pos (by omega);show gd ((u67 n).isSome=true/\True) (lt (vl (u67 n)) fun v6=>some (n,decide (v6=s)))=_;rw[e,vS];refine(gP ⟨rfl,trivial⟩).trans ?_;show some (n,decide (numS n=s))=_;have:(numS n=s)↔(Lib.itoa n=bs s):=by
     constructor
     ·intro e; rw[<- e]; exact(bs_mkS (Lib.itoa n)).symm
     ·intro e; show mkS (Lib.itoa n)=s; rw[e,mkS_bs]
    rw[decide_eq_decide.2 this]
   unfold u63J1;by_cases hn:(bs d).length < (bs s).length
   ·have h2:(-1000000000000:Int) < -(digV (bs d)):=by omega
    have h3:(-(digV (bs d)):Int)<1000000000000:=by omega
    rw[if_pos hn];refine(if_pos (by rw[dq]; omega)).trans ?_;refine(gP ⟨oo,trivial⟩).trans ?_;exact J3 _ h2 h3
   ·rw[if_neg hn];refine(if_neg (by rw[dq]; omega)).trans ?_;exact J3 _ (by omega) hv.2
  ·rw[if_neg hall];rw[if_neg fun ha=>hall fun j hj=>List.all_eq_true.1 ha _ (List.getElem_mem hj)]
 ·obtain⟨rfl,hall⟩:=hI;have hi':i < (bs d).length:=by omega
  have e1:((i:Int)).toNat=i:=rfl;have h2:=hby i hi';have h3:=hbd i (by omega) hall;refine(if_pos (by rw[dq]; omega)).trans ?_;rw[e1];refine(gP ⟨oo,fun _=>oo,trivial⟩).trans ?_;by_cases hc:byteAt d i<48∨57<byteAt d i
  ·rw[if_pos hc];exact if_pos (by rw[Bool.or_eq_true,dq,dq]; exact hc)
  ·rw[if_neg hc];refine(if_neg (by rw[Bool.or_eq_true,dq,dq]; exact hc)).trans ?_;refine(gP ⟨oo,oo,oo,trivial,oo,trivial⟩).trans ?_;exact gP ⟨oo,trivial⟩
 ·obtain⟨rfl,hall⟩:=hI;have hi':i < (bs d).length:=by omega
  split at he
  ·cases he
  ·rename_i hc;cases he;refine⟨(hst i hi').symm,fun j hj hji=>?_⟩;by_cases e:j=i
   ·subst e; exact(hdig j hj).2 hc
   ·exact hall j hj (by omega)
 ·exact if_neg (by simp)
 ·obtain⟨rfl,hall⟩:=hI;rw[if_pos fun j hj=>hall j hj (by omega),List.take_of_length_le (by omega)]
 ·obtain⟨rfl,hall⟩:=hI;have hi':i < (bs d).length:=by omega
  by_cases hc:byteAt d i<48∨57<byteAt d i
  ·rw[if_pos hc];exact if_neg fun h1=>(hdig i hi').1 (h1 i hi') hc
  ·rw[if_neg hc]
theorem r63(s:ByteArray)(h:s.size<=1048576):u63 s=some (valS (bs s)):=by
 have hl:=bs_len s;unfold u63;refine(gP ⟨fun h1=>⟨by omega,by have h2:=h1.1; simp at h2; omega⟩,trivial⟩).trans ?_;by_cases hc:(bs s).head?=some 45
 ·have h0:0 < (bs s).length:=by
   cases hb:bs s with
   | nil=>rw[hb] at hc; cases hc
   | cons a r=>simp
  have h1:(bs s)[0]=45:=by
   rw[List.head?_eq_getElem?,List.getElem?_eq_getElem h0] at hc;exact Option.some.inj hc
  have h2:byteAt s 0=45:=by rw[byte_at h0,h1]; rfl
  refine(if_pos (by
   rw[ba,dq,beq_iff_eq];exact⟨by omega,h2⟩)).trans ?_
  refine(gP ⟨⟨by omega,by omega,by omega⟩,trivial⟩).trans ?_;refine val63 h ?_;rw[bs_ext,<- hl,List.take_length];unfold digs;rw[if_pos hc];exact List.drop_one
 ·refine(if_neg (by
   rw[ba,dq,beq_iff_eq];rintro⟨h1,h2⟩;have h0:0 < (bs s).length:=by omega
   have h2:byteAt s 0=45:=h2;rw[byte_at h0] at h2;refine hc ?_;rw[List.head?_eq_getElem?,List.getElem?_eq_getElem h0];exact congrArg some (UInt8.toNat_inj.1 (by show _=45; omega)))).trans ?_
  refine val63 h ?_;unfold digs;rw[if_neg hc]
theorem r118(s:ByteArray)(h:s.size<=1048576):u118 s=some (rdL (wdsK 44 (bs s))):=by
 have e0:u24 s 44=some (wdB 44 s):=r24 s 44 h;have hwl:=(wdB_len 44 s).2;unfold u118;rw[e0,vS];refine(gP ⟨rfl,trivial⟩).trans ?_;rw[lE];have hlen:(wdB 44 s).length=(wdsK 44 (bs s)).length:=List.length_map _;refine lp_run (σ:=List Int) (n:=(wdB 44 s).length) (by omega) (fun i (o:List Int)=>((i:Int),o)) (fun i o=>some (if(valS ((wdsK 44 (bs s)).getD i [])).2=true then o++[(valS ((wdsK 44 (bs s)).getD i [])).1] else o)) (fun _ _=>none)
  (fun i o=>o=rdL ((wdsK 44 (bs s)).take i)) (J:=u118J0) (F:=u118L1 (wdB 44 s)) (fun g i o hi hI=>?_) (fun i o o' hi hI he=>?_) (fun g o _=>if_neg (by simp)) (fun _ _=>some (rdL (wdsK 44 (bs s)))) (fun o hI=>?_) (fun _ _ _ _=>rfl) 0 (Nat.zero_le _) [] rfl
 ·have hi2:i < (wdsK 44 (bs s)).length:=by omega
  have e1:((i:Int)).toNat=i:=rfl;have eg:(wdB 44 s).getD i (dflt .str)=mkS ((wdsK 44 (bs s)).getD i []):=by
   unfold wdB;rw[gq,gq,List.getElem?_map,List.getElem?_eq_getElem hi2];rfl
  have hz:(mkS ((wdsK 44 (bs s)).getD i [])).size<=1048576:=by
   rw[<- eg];exact Nat.le_trans (wdB_size (getD_mem hi)) h
  have hol:o.length<=i:=by
   rw[hI];have:=rdL_len ((wdsK 44 (bs s)).take i);rw[List.length_take] at this;omega
  refine(if_pos (by rw[dq]; omega)).trans ?_;rw[e1,eg,r63 _ hz,bs_mkS,vS];refine(gP ⟨oo,hi,rfl,trivial⟩).trans ?_;rw[lE];show _=g (((i+1:Nat):Int),if(valS ((wdsK 44 (bs s)).getD i [])).2=true then o++[(valS ((wdsK 44 (bs s)).getD i [])).1] else o);by_cases hv:(valS ((wdsK 44 (bs s)).getD i [])).2=true
  ·refine(if_pos hv).trans ?_;rw[if_pos hv];refine(gP ⟨⟨by rw[List.length_singleton]; omega,by rw[List.length_singleton]; omega⟩,trivial⟩).trans ?_;exact gP ⟨oo,trivial⟩
  ·refine(if_neg hv).trans ?_;rw[if_neg hv];exact gP ⟨oo,trivial⟩
 ·have hi2:i < (wdsK 44 (bs s)).length:=by omega
  cases he;rw[List.take_succ_eq_append_getElem hi2,rdL_snoc,hI,gq,List.getElem?_eq_getElem hi2];rfl
 ·show _=some o;rw[hI,List.take_of_length_le (by omega)]
def rnL:List ByteArray->Option (List Int)
 | []=>some []
 | w :: r=>if(rnV w).2=true then(rnL r).map fun l=>(rnV w).1 :: l else none
theorem rnL_in:∀{ws:List ByteArray} {l:List Int},rnL ws=some l->(∀x∈l,InI x)/\l.length=ws.length
 | [],l,h=>by cases h; exact⟨fun x hx=>(by cases hx),rfl⟩
 | w :: r,l,h=>by
   unfold rnL at h;split at h
   ·cases hr:rnL r with
    | none=>rw[hr] at h; cases h
    | some l' =>
      rw[hr] at h;cases h;obtain⟨h1,h2⟩:=rnL_in hr;refine⟨fun x hx=>?_,by rw[List.length_cons,List.length_cons,h2]⟩;rcases List.mem_cons.1 hx with rfl | hx
      ·exact rnV_in w
      ·exact h1 x hx
   ·cases h
theorem r134(s:ByteArray)(h:s.size<=1048576):u134 s (ByteArray.mk #[44])=some (match rnL (wdB 44 s) with | some l=>(l,true) | none=>([],false)):=by
 have hwl:=(wdB_len 44 s).2;unfold u134;rw[sp31 44 s h,vS];refine(gP ⟨rfl,trivial⟩).trans ?_;rw[lE];have hrn:∀w,w∈wdB 44 s->u82 w=some (rnV w):=fun w hw=>if_pos (by have:=wdB_size hw; omega);have hz:∀i o,i<=(wdB 44 s).length->rnL ((wdB 44 s).take i)=some o->o.length<=i:=fun i o hi ho=>by
  have:=(rnL_in ho).2;rw[List.length_take] at this;omega
 generalize wdB 44 s=ws at *
 have snoc:∀(a:List ByteArray) (w:ByteArray) (o:List Int),rnL a=some o->rnL (a++[w])=if(rnV w).2=true then some (o++[(rnV w).1]) else none:=by
  intro a
  induction a with
  | nil =>
    intro w o ho;cases ho;show(if(rnV w).2=true then some [(rnV w).1] else none)=_;rfl
  | cons b r ih =>
    intro w o ho;unfold rnL at ho;rw[List.cons_append];unfold rnL;split at ho
    ·rename_i hb;rw[if_pos hb];cases hr:rnL r with
     | none=>rw[hr] at ho; cases ho
     | some l' =>
       rw[hr] at ho;cases ho;rw[ih w l' hr];split <;> rfl
    ·cases ho
 have none_:∀(a b:List ByteArray),rnL a=none->rnL (a++b)=none:=by
  intro a
  induction a with
  | nil=>intro b h; cases h
  | cons x r ih =>
    intro b h;unfold rnL at h;rw[List.cons_append];unfold rnL;split at h
    ·rename_i hx;rw[if_pos hx];cases hr:rnL r with
     | none=>rw[ih b hr]; rfl
     | some l=>rw[hr] at h; cases h
    ·rename_i hx;rw[if_neg hx]
 refine lp_run (σ:=List Int) (n:=ws.length) (by omega) (fun i (o:List Int)=>(o,(i:Int))) (fun i o=>if(rnV (ws.getD i (dflt .str))).2=true then some (o++[(rnV (ws.getD i (dflt .str))).1]) else none) (fun _ _=>some ([],false))
  (fun i o=>rnL (ws.take i)=some o) (J:=u134J0) (F:=u134L1 ws) (fun g i o hi hI=>?_) (fun i o o' hi hI he=>?_) (fun g o _=>if_neg (by simp)) (fun _ _=>some (match rnL ws with | some l=>(l,true) | none=>([],false))) (fun o hI=>?_) (fun i o hi hI=>?_) 0 (Nat.zero_le _) [] rfl
 ·have e1:((i:Int)).toNat=i:=rfl;have hol:=hz i o (by omega) hI;refine(if_pos (by rw[dq]; omega)).trans ?_;rw[e1];refine(gP ⟨oo,hi,trivial⟩).trans ?_;rw[hrn _ (getD_mem hi),vS];refine(gP ⟨rfl,trivial⟩).trans ?_;rw[lE];by_cases hv:(rnV (ws.getD i (dflt .str))).2=true
  ·rw[if_pos hv];refine(if_neg (by rw[hv]; simp)).trans ?_;refine(gP ⟨⟨by rw[List.length_singleton]; omega,by rw[List.length_singleton]; omega⟩,trivial⟩).trans ?_;exact gP ⟨oo,trivial⟩
  ·rw[if_neg hv];exact if_pos (by simpa using hv)
 ·have e:=snoc (ws.take i) (ws.getD i (dflt .str)) o hI;rw[List.take_succ_eq_append_getElem hi];have eg:ws.getD i (dflt .str)=ws[i]:=by rw[gq,List.getElem?_eq_getElem hi]; rfl
  rw[eg] at e he;rw[e];exact he
 ·rw[List.take_of_length_le (Nat.le_refl _)] at hI;show some _=some (o,true);rw[hI]
 ·have e:=snoc (ws.take i) (ws.getD i (dflt .str)) o hI;have eg:ws.getD i (dflt .str)=ws[i]:=by rw[gq,List.getElem?_eq_getElem hi]; rfl
  by_cases hv:(rnV (ws.getD i (dflt .str))).2=true
  ·rw[if_pos hv]
  ·rw[if_neg hv] at e ⊢;rw[eg,<- List.take_succ_eq_append_getElem hi] at e;have:=none_ _ (ws.drop (i+1)) e;rw[List.take_append_drop] at this;rw[this]
theorem wds_of_join(c:UInt8)(ls:List (List UInt8))(hx:ls≠[])(hc:∀l∈ls,c ∉ l):wdsK c (Lib.join ls [c])=ls:=by
 have h1:=(splitB_all c (Lib.join ls [c])).2;have h2:=(splitB_join c ls hx hc).2;rw[h2] at h1;exact(List.map_inj_right fun a b h=>mkS_inj h).1 h1.symm
theorem bs_join(L:List ByteArray)(c:UInt8):bs (joinS L ⟨#[c]⟩)=Lib.join (L.map bs) [c]:=bs_mkS _
theorem wdB_join(c:UInt8)(L:List ByteArray)(hx:L≠[])(hc:∀s∈L,c ∉ bs s):wdB c (joinS L ⟨#[c]⟩)=L:=by
 have h:=wds_of_join c (L.map bs) (by simpa using hx) (fun l hl=>by
  obtain⟨s,hs,rfl⟩:=List.mem_map.1 hl;exact hc s hs)
 unfold wdB;have e:mkS ∘ bs=id:=funext mkS_bs;rw[bs_join,h,List.map_map,e,List.map_id]
theorem itoa_ch(x:Int):∀c∈Lib.itoa x,c.toNat=45∨48<=c.toNat/\c.toNat<=57:=by
 intro c h;unfold Lib.itoa at h;split at h
 ·rcases List.mem_cons.1 h with h | h
  ·subst h; exact .inl rfl
  ·exact .inr (dec_digits _ c h)
 ·exact .inr (dec_digits _ c h)
theorem itoa_ne(x:Int):Lib.itoa x≠[]:=by
 unfold Lib.itoa;split
 ·simp
 ·exact dec_ne _
theorem numS_bs(x:Int):bs (numS x)=Lib.itoa x:=bs_mkS _
theorem numL_bar(xs:List Int):(124:UInt8) ∉ bs (numL xs):=joinS_no (d:=44) (by decide) fun s hs hm=>by
 obtain⟨x,_,rfl⟩:=List.mem_map.1 hs;rw[numS_bs] at hm;have:=itoa_ch x _ hm;simp at this
theorem numS_cma(x:Int):(44:UInt8) ∉ bs (numS x):=fun hm=>by
 rw[numS_bs] at hm;have:=itoa_ch x _ hm;simp at this
theorem wdB_num{xs:List Int}(h:xs≠[]):wdB 44 (numL xs)=xs.map numS :=
 wdB_join 44 (xs.map numS) (by simpa using h) fun s hs=>by
  obtain⟨x,_,rfl⟩:=List.mem_map.1 hs;exact numS_cma x
theorem numL_ne{xs:List Int}(h:xs≠[]):numL xs≠ByteArray.mk #[]:=fun e=>by
 have h1:=wdB_num h;rw[e] at h1;have h1:[mkS []]=xs.map numS:=h1;cases xs with
 | nil=>exact h rfl
 | cons x r =>
   have h2:=congrArg bs (List.cons.inj h1).1;rw[numS_bs,bs_mkS] at h2;exact itoa_ne x h2.symm
theorem rnV_num{x:Int}(h:InI x):rnV (numS x)=(x,true):=by
 have e:(numS x).data.toList=Lib.itoa x:=numS_bs x;unfold rnV;rw[e,parse_itoa h];exact congrArg (Prod.mk x) (decide_eq_true rfl)
theorem rnL_num:∀{xs:List Int},(∀x∈xs,InI x)->rnL (xs.map numS)=some xs
 | [],_=>rfl
 | x :: r,h=>by
   rw[List.map_cons];unfold rnL;rw[rnV_num (h x List.mem_cons_self),if_pos rfl,rnL_num fun y hy=>h y (List.mem_cons_of_mem _ hy)];rfl
theorem rd_num{xs:List Int}(h:∀x∈xs,-1000000000000<x/\x<1000000000000):rdL (wdsK 44 (bs (numL xs)))=xs:=by
 by_cases hx:xs=[]
 ·subst hx;have e:bs (numL [])=[]:=by
   unfold numL;rw[List.map_nil,show joinS [] cma=joinS [] ⟨#[44]⟩ from rfl,bs_join];simp[Lib.join,List.intercalate]
  rw[e];rfl
 ·have e:bs (numL xs)=Lib.join (xs.map Lib.itoa) [44]:=by
   unfold numL;rw[show joinS (xs.map numS) cma=joinS (xs.map numS) ⟨#[44]⟩ from rfl,bs_join,List.map_map];have:bs ∘ numS=Lib.itoa:=funext numS_bs;rw[this]
  rw[e,wds_of_join 44 _ (by simpa using hx) (fun l hl hm=>by
   obtain⟨x,_,rfl⟩:=List.mem_map.1 hl;have:=itoa_ch x _ hm;simp at this),rdL_itoa h]
def rnP(p:ByteArray):Option (List Int):=if p=ByteArray.mk #[] then some [] else rnL (wdB 44 p)
def rwM:List ByteArray->Option (List (List Int))
 | []=>some []
 | p :: ps=>match rnP p with
   | some x=>(rwM ps).map (x :: ·)
   | none=>none
theorem rwG_eq:∀(ps:List ByteArray) (acc:List (List Int)),(∀p∈ps,p.size<=1048576)->rwG ps acc=some ((rwM ps).map (acc++·))
 | [],acc,_=>by simp[rwG,rwM]
 | p :: ps,acc,h=>by
   have e:=r134 p (h p List.mem_cons_self);have ih:=fun acc'=>rwG_eq ps acc' fun q hq=>h q (List.mem_cons_of_mem _ hq);unfold rwG rwM rnP;rw[e];refine(gP ⟨rfl,trivial⟩).trans ?_;by_cases hp:p=ByteArray.mk #[]
   ·rw[if_pos hp,if_pos hp,ih];cases rwM ps <;> simp
   ·rw[if_neg hp,if_neg hp];cases rnL (wdB 44 p) with
    | none=>rfl
    | some l =>
      refine(if_pos rfl).trans ?_;rw[ih];cases rwM ps <;> simp[vS]
theorem rnP_in{p:ByteArray}{l:List Int}(h:rnP p=some l):(∀x∈l,InI x)/\l.length<=p.size+1:=by
 unfold rnP at h;split at h
 ·cases h;exact⟨fun x hx=>(by cases hx),Nat.zero_le _⟩
 ·obtain⟨h1,h2⟩:=rnL_in h;exact⟨h1,by rw[h2]; exact(wdB_len 44 p).2⟩
theorem rwM_in:∀{ps:List ByteArray} {xs:List (List Int)},(∀p∈ps,p.size<=1048576)->rwM ps=some xs->xs.length=ps.length/\∀l∈xs,(∀x∈l,InI x)/\l.length<=1048577
 | [],xs,_,h=>by cases h; exact⟨rfl,fun l hl=>(by cases hl)⟩
 | p :: ps,xs,hp,h=>by
   unfold rwM at h;cases h1:rnP p with
   | none=>rw[h1] at h; cases h
   | some x =>
     rw[h1] at h;cases h2:rwM ps with
     | none=>rw[h2] at h; cases h
     | some r =>
       rw[h2] at h;cases h;obtain⟨k1,k2⟩:=rwM_in (fun q hq=>hp q (List.mem_cons_of_mem _ hq)) h2;refine⟨by rw[List.length_cons,List.length_cons,k1],fun l hl=>?_⟩;rcases List.mem_cons.1 hl with rfl | hl
       ·obtain⟨k3,k4⟩:=rnP_in h1;have:=hp p List.mem_cons_self;exact⟨k3,by omega⟩
       ·exact k2 l hl
theorem wf_row{l:List Int}(h:∀x∈l,InI x)(hl:l.length<=9223372036854775807):wf (.sl (.int .i64)) l:=⟨hl,fun x hx=>h x hx⟩
theorem wf_wire{a b c d:List Int}(h:∀l∈[a,b,c,d],(∀x∈l,InI x)/\l.length<=9223372036854775807):wf y36 (a,b,c,d) :=
 ⟨wf_row (h a (by simp)).1 (h a (by simp)).2,wf_row (h b (by simp)).1 (h b (by simp)).2,wf_row (h c (by simp)).1 (h c (by simp)).2,wf_row (h d (by simp)).1 (h d (by simp)).2⟩
theorem wf_nil:wf y36 ([],[],[],[]):=wf_wire fun l hl=>by
 simp only[List.mem_cons,List.not_mem_nil,or_false] at hl;rcases hl with rfl | rfl | rfl | rfl <;> exact⟨fun x hx=>(by cases hx),Nat.zero_le _⟩
theorem rw_any(s:ByteArray)(n:Int)(hs:s.size<=1048576):∃r:Y36×Bool,u78 s n=some r/\wf y36 r.1:=by
 have hp:∀p∈wdB 124 s,p.size<=1048576:=fun p h=>Nat.le_trans (wdB_size h) hs;have e:=sp31 124 s hs;have key:u78 s n=if(wdB 124 s).length=4 then match rwG (wdB 124 s) [] with
   | some (some xs)=>rwE n xs
   | some none=>some (([],[],[],[]),false)
   | none=>none
  else some (([],[],[],[]),false):=by
  unfold u78;rw[e,vS];exact gP ⟨rfl,trivial⟩
 by_cases h4:(wdB 124 s).length=4
 ·rw[key,if_pos h4,rwG_eq _ [] hp];cases hx:rwM (wdB 124 s) with
  | none=>exact⟨_,rfl,wf_nil⟩
  | some xs =>
    obtain⟨k1,k2⟩:=rwM_in hp hx;rw[h4] at k1
    match xs,k1,k2 with
    | [a,b,c,d],_,k2 =>
      have hw:wf y36 (a,b,c,d):=wf_wire fun l hl=>⟨(k2 l hl).1,by have:=(k2 l hl).2; omega⟩;have ew:=r76 (a,b,c,d) n hw;show ∃r:Y36×Bool,(gd ((u76 (a,b,c,d) n).isSome=true/\True)<|if vl (u76 (a,b,c,d) n)=true then some ((a,b,c,d),true) else some (([],[],[],[]),false))=some r/\_;rw[ew,vS];rw[gP ⟨rfl,trivial⟩];split
      ·exact⟨_,rfl,hw⟩
      ·exact⟨_,rfl,wf_nil⟩
 ·rw[key,if_neg h4];exact⟨_,rfl,wf_nil⟩
theorem wire_in{w:Y36}{n:Int}(hn:n<=1000)(h:wireB w n=true):∀l∈[w.1,w.2.1,w.2.2.1,w.2.2.2],∀x∈l,-1000000000000<x/\x<1000000000000:=by
 have hs:=wire_small hn h;have f:=wire_facts h;have hw:=h;unfold wireB at hw;simp only[ba,dq,beq_iff_eq] at hw;obtain⟨⟨⟨⟨⟨⟨⟨⟨h1,h2⟩,h3⟩,h4⟩,h5⟩,h6⟩,h7⟩,h8⟩,h9⟩:=hw;intro l hl x hx;simp only[List.mem_cons,List.not_mem_nil,or_false] at hl;rcases hl with rfl | rfl | rfl | rfl
 ·have g:=(hs.g1 x hx).2;obtain⟨i,hi,rfl⟩:=List.getElem_of_mem hx;have hg:w.1.getD i 0=w.1[i]:=by rw[gq,List.getElem?_eq_getElem hi]; rfl
  by_cases h0:i=0
  ·subst h0;have h10:=not_any.1 h9 0 hi;rw[hg] at h10;simp at h10;omega
  ·have:=f.par i (by omega) hi;rw[hg] at this;omega
 ·have:=inB_iff.1 (List.all_eq_true.1 h6 x hx);omega
 ·have:=inB_iff.1 (List.all_eq_true.1 h7 x hx);omega
 ·have:=inB_iff.1 (List.all_eq_true.1 h8 x hx);omega
theorem wdB_wire(w:Y36):wdB 124 (wireT w)=[numL w.1,numL w.2.1,numL w.2.2.1,numL w.2.2.2]:=wdB_join 124 _ (by simp) fun s hs=>by
 simp only[List.mem_cons,List.not_mem_nil,or_false] at hs;rcases hs with rfl | rfl | rfl | rfl <;> exact numL_bar _
theorem rnP_num{xs:List Int}(h:∀x∈xs,InI x):rnP (numL xs)=some xs:=by
 unfold rnP;by_cases hx:xs=[]
 ·subst hx;exact if_pos rfl
 ·rw[if_neg (numL_ne hx),wdB_num hx,rnL_num h]
theorem wire_wf{w:Y36}(h:WSmall w):wf y36 w:=by
 obtain⟨l1,l2,l3,l4,g1,g2,g3,g4⟩:=h;exact⟨wf_row (fun x hx=>(g1 x hx).1) (by omega),wf_row (fun x hx=>(g2 x hx).1) (by omega),wf_row (fun x hx=>(g3 x hx).1) (by omega),wf_row (fun x hx=>(g4 x hx).1) (by omega)⟩
theorem rw_back{w:Y36}{n:Int}(hn:n<=1000)(h:wireB w n=true):u78 (wireT w) n=some (w,true):=by
 have hs:=wire_small hn h;have hz:=wireT_size hs;have e:=sp31 124 (wireT w) (by omega);have hp:∀p∈wdB 124 (wireT w),p.size<=1048576:=fun p h=>Nat.le_trans (wdB_size h) (by omega);unfold u78;rw[e,vS];refine(gP ⟨rfl,trivial⟩).trans ?_;rw[lE,rwG_eq _ [] hp,wdB_wire];refine(if_pos rfl).trans ?_;have em:rwM [numL w.1,numL w.2.1,numL w.2.2.1,numL w.2.2.2]=some [w.1,w.2.1,w.2.2.1,w.2.2.2]:=by
  unfold rwM; rw[rnP_num fun x hx=>(hs.g1 x hx).1];unfold rwM; rw[rnP_num fun x hx=>(hs.g2 x hx).1];unfold rwM; rw[rnP_num fun x hx=>(hs.g3 x hx).1];unfold rwM; rw[rnP_num fun x hx=>(hs.g4 x hx).1];rfl
 rw[em];have ew:u76 (w.1,w.2.1,w.2.2.1,w.2.2.2) n=some true:=by
  rw[<- h];exact r76 w n (wire_wf hs)
 show(gd ((u76 (w.1,w.2.1,w.2.2.1,w.2.2.2) n).isSome=true/\True)<|if vl (u76 (w.1,w.2.1,w.2.2.1,w.2.2.2) n)=true then some ((w.1,w.2.1,w.2.2.1,w.2.2.2),true) else some (([],[],[],[]),false))=_;rw[ew,vS];exact(gP ⟨rfl,trivial⟩).trans (if_pos rfl)
theorem swt_any(w:Y36)(n:Int)(hw:wf y36 w)(hn:n<=1000):u68 w n=some (if wireB w n=true then wireT w else ByteArray.mk #[]):=by
 by_cases h:wireB w n=true
 ·rw[if_pos h];exact r68 w n hw hn h
 ·rw[if_neg h];unfold u68;rw[r56 w n hw,vS];refine(gP ⟨rfl,trivial⟩).trans ?_;exact if_pos (by simpa using h)
theorem srw_eq(s:ByteArray)(n:Int)(hs:s.size<=1048576)(hn:n<=1000)(a b c d:ByteArray)(h:wdB 124 s=[a,b,c,d]) :
  u64 s n=if(!decide ((if wireB (rdL (wdsK 44 (bs a)),rdL (wdsK 44 (bs b)),rdL (wdsK 44 (bs c)),rdL (wdsK 44 (bs d))) n=true then wireT (rdL (wdsK 44 (bs a)),rdL (wdsK 44 (bs b)),rdL (wdsK 44 (bs c)),rdL (wdsK 44 (bs d))) else ByteArray.mk #[])=s)||decide (s=ByteArray.mk #[]))=true then some (([],[],[],[]),false) else some ((rdL (wdsK 44 (bs a)),rdL (wdsK 44 (bs b)),rdL (wdsK 44 (bs c)),rdL (wdsK 44 (bs d))),true):=by
 have e0:u24 s 124=some [a,b,c,d]:=by rw[<- h]; exact r24 s 124 hs
 have hz:∀p∈[a,b,c,d],p.size<=1048576:=fun p hp=>Nat.le_trans (wdB_size (c:=124) (by rw[h]; exact hp)) hs;have ra:u118 (List.getD [a,b,c,d] (Int.toNat (0:Int)) (dflt Ty.str))=some (rdL (wdsK 44 (bs a))):=r118 a (hz a (by simp));have rb:u118 (List.getD [a,b,c,d] (Int.toNat (1:Int)) (dflt Ty.str))=some (rdL (wdsK 44 (bs b))):=r118 b (hz b (by simp));have rc:u118 (List.getD [a,b,c,d] (Int.toNat (2:Int)) (dflt Ty.str))=some (rdL (wdsK 44 (bs c))):=r118 c (hz c (by simp));have rd:u118 (List.getD [a,b,c,d] (Int.toNat (3:Int)) (dflt Ty.str))=some (rdL (wdsK 44 (bs d))):=r118 d (hz d (by simp));have hI:∀p∈[a,b,c,d],(∀x∈rdL (wdsK 44 (bs p)),InI x)/\(rdL (wdsK 44 (bs p))).length<=9223372036854775807:=fun p hp=>by
  refine⟨fun x hx=>?_,?_⟩
  ·have:=rdL_in hx;exact oo
  ·have h1:=rdL_len (wdsK 44 (bs p));have h2:=(wds_cnt 44 (bs p)).2;rw[bs_len] at h2;have:=hz p hp;omega
 have hw:wf y36 (rdL (wdsK 44 (bs a)),rdL (wdsK 44 (bs b)),rdL (wdsK 44 (bs c)),rdL (wdsK 44 (bs d))):=wf_wire fun l hl=>by
  simp only[List.mem_cons,List.not_mem_nil,or_false] at hl;rcases hl with rfl | rfl | rfl | rfl
  ·exact hI a (by simp)
  ·exact hI b (by simp)
  ·exact hI c (by simp)
  ·exact hI d (by simp)
 unfold u64;rw[e0,vS];refine(gP ⟨rfl,trivial⟩).trans ?_;rw[lE];refine(if_neg (by simp)).trans ?_;rw[ra,rb,rc,rd];refine(gP ⟨⟨by omega,by show(0:Int)<4; omega⟩,by show 0<4; omega,rfl,⟨by omega,by show(1:Int)<4; omega⟩,by show 1<4; omega,rfl,⟨by omega,by show(2:Int)<4; omega⟩,by show 2<4; omega,rfl,⟨by omega,by show(3:Int)<4; omega⟩,by show 3<4; omega,rfl,trivial⟩).trans ?_;show gd ((u68 (rdL (wdsK 44 (bs a)),rdL (wdsK 44 (bs b)),rdL (wdsK 44 (bs c)),rdL (wdsK 44 (bs d))) n).isSome=true/\True) (lt (vl (u68 (rdL (wdsK 44 (bs a)),rdL (wdsK 44 (bs b)),rdL (wdsK 44 (bs c)),rdL (wdsK 44 (bs d))) n)) fun v5=>if(!decide (v5=s)||decide (s=ByteArray.mk #[]))=true then some (([],[],[],[]),false) else some ((rdL (wdsK 44 (bs a)),rdL (wdsK 44 (bs b)),rdL (wdsK 44 (bs c)),rdL (wdsK 44 (bs d))),true))=_;rw[swt_any _ n hw hn,vS];exact gP ⟨rfl,trivial⟩
theorem wire_cnt_le{w:Y36}(h:WSmall w):cnt y36 w<=4000:=by
 have e:cnt y36 w=(w.1.length+0)+((w.2.1.length+0)+((w.2.2.1.length+0)+(w.2.2.2.length+0))):=by
  show cnt (.sl (.int .i64)) w.1+(cnt (.sl (.int .i64)) w.2.1+(cnt (.sl (.int .i64)) w.2.2.1+cnt (.sl (.int .i64)) w.2.2.2))=_;rw[cnt_ints,cnt_ints,cnt_ints,cnt_ints];omega
 obtain⟨l1,l2,l3,l4,-,-,-,-⟩:=h;omega
theorem srw_any(s:ByteArray)(n:Int)(hs:s.size<=1048576)(hn:n<=1000):∃r:Y36×Bool,u64 s n=some r/\wf y36 r.1/\cnt y36 r.1<=4000:=by
 have cn:cnt y36 ([],[],[],[])<=4000:=by decide
 have e0:u24 s 124=some (wdB 124 s):=r24 s 124 hs;by_cases h4:(wdB 124 s).length=4
 ·match hl:wdB 124 s,h4 with
  | [a,b,c,d],_ =>
    rw[srw_eq s n hs hn a b c d hl];by_cases hb:wireB (rdL (wdsK 44 (bs a)),rdL (wdsK 44 (bs b)),rdL (wdsK 44 (bs c)),rdL (wdsK 44 (bs d))) n=true
    ·have hsm:=wire_small hn hb;rw[if_pos hb];split
     ·exact⟨(([],[],[],[]),false),rfl,wf_nil,cn⟩
     ·exact⟨((rdL (wdsK 44 (bs a)),rdL (wdsK 44 (bs b)),rdL (wdsK 44 (bs c)),rdL (wdsK 44 (bs d))),true),rfl,wire_wf hsm,wire_cnt_le hsm⟩
    ·rw[if_neg hb];refine⟨(([],[],[],[]),false),if_pos ?_,wf_nil,cn⟩;by_cases he:s=ByteArray.mk #[]
     ·simp[he]
     ·have:¬ByteArray.mk #[]=s:=fun h=>he h.symm;simp[this]
 ·have:u64 s n=some (([],[],[],[]),false):=by
   unfold u64;rw[e0,vS];refine(gP ⟨rfl,trivial⟩).trans ?_;rw[lE];exact if_pos (by simp; omega)
  exact⟨(([],[],[],[]),false),this,wf_nil,cn⟩
theorem srw_back{w:Y36}{n:Int}(hn:n<=1000)(h:wireB w n=true):u64 (wireT w) n=some (w,true):=by
 have hs:=wire_small hn h;have hz:=wireT_size hs;have hi:=wire_in hn h;rw[srw_eq (wireT w) n (by omega) hn _ _ _ _ (wdB_wire w),rd_num (hi _ (by simp)),rd_num (hi _ (by simp)),rd_num (hi _ (by simp)),rd_num (hi _ (by simp))];have hne:¬wireT w=ByteArray.mk #[]:=fun e=>by
  have:=wdB_wire w;rw[e] at this;have:=congrArg List.length this;simp[wdB,wdsK,bs] at this
 have h':wireB (w.1,w.2.1,w.2.2.1,w.2.2.2) n=true:=h;rw[if_pos h'];exact if_neg (by simp[hne])
theorem fi_in{n:Nat}{P:Nat->Bool} : -1<=fiV n P/\fiV n P < (n:Int):=by
 unfold fiV;split
 ·rename_i i h;have:=List.mem_range.1 (List.mem_of_find?_eq_some h);omega
 ·omega
theorem r81(l:List Y115)(s:ByteArray)(h:l.length<=9223372036854775807):u81 l s=some (celN l s):=by
 have h1:u137c138 l s=some (celN l s):=idx_some h (fun i=>decide ((celOf l i).1=s)) (fun g i hi=>idx_el hi h rfl) (fun g=>aE);unfold u81;rw[h1,vS];exact gP ⟨rfl,trivial⟩
theorem r61(l:List Y115)(s:ByteArray)(h:l.length<=9223372036854775807):u61 l s=some (celN l s) :=
 idx_some h (fun i=>decide ((celOf l i).1=s)) (fun g i hi=>by
  refine(if_pos (by simpa using hi)).trans ?_;rw[gP ⟨oo,trivial⟩,gP ⟨oo,trivial⟩];rfl) (fun g=>aE)
theorem r80{l:List Y115}{d:Y47}(h:designOk l d=true)(hd:wf y47 d)(s:ByteArray):u80 d l s=some (plaN l d s):=by
 have df:=df_of h;have hl:=df.len;have h1:u135c136 (plcs d) (d,l,s)=some (plaN l d s):=idx_some (by omega) (fun i=>decide (nameV l d (plcOf d i)=s)) (fun g i hi=>idx_el hi (by omega) (by
  have e:u87 d l ((plcs d).getD ((i:Int)).toNat (dflt y126))=some (nameV l d (plcOf d i)):=(r87 l d h (plc_mem hi)).1;unfold u136;rw[e,vS];exact gP ⟨rfl,trivial⟩)) (fun g=>aE)
 unfold u80;rw[r75 d hd df.fac.ni14 df.fac.np8 df.pin,vS];have h1':u135c136 (plcs d) (d,l,s)=some (plaN l d s):=h1;rw[h1',vS];exact gP ⟨rfl,rfl,trivial⟩
theorem r60{l:List Y115}{d:Y47}(h:designOk l d=true)(hl:wf (.sl y115) l)(hd:wf y47 d)(md:cnt y47 d<=1048576)(s:ByteArray):u60 l d s=some (plaN l d s):=by
 have df:=df_of h;have hln:=df.len;unfold u60;rw[r55 l d hl hd md,h,vS];refine(gP ⟨rfl,trivial⟩).trans ?_;refine(if_neg (by simp)).trans ?_;rw[r65 d hd df.fac.ni14 df.fac.np8 df.pin,vS];refine(gP ⟨rfl,trivial⟩).trans ?_;rw[lE];exact idx_some (n:=(plcs d).length) (by omega) (fun i=>decide (nameV l d (plcOf d i)=s)) (fun g i hi=>by
  have e:u66 l d ((plcs d).getD ((i:Int)).toNat (dflt y111))=some (nameV l d (plcOf d i)):=(r87 l d h (plc_mem hi)).2.1;refine(if_pos (decide_eq_true (by show(i:Int) < ((plcs d).length:Int); omega))).trans ?_;rw[e,vS];refine(gP ⟨⟨by omega,by show(i:Int) < ((plcs d).length:Int); omega⟩,hi,rfl,trivial⟩).trans ?_;rw[lE,gP ⟨oo,trivial⟩]) (fun g=>aE)
structure BK(b:Y50):Prop where
 hw:wf y50 b
 hm:cnt y50 b<=1048576
 hb:blockOk b=true
section
variable {b:Y50}
theorem BK.des(h:BK b):designOk b.1 b.2.1=true:=(block_design h.hb).1
theorem BK.net(h:BK b)(s:ByteArray):u77 b.2.1 s=some (netN b.2.1 s)/\u62 b.2.1 s=some (netN b.2.1 s) /\ -1<=netN b.2.1 s/\netN b.2.1 s < (b.2.2.length:Int)/\InI (netN b.2.1 s):=by
 have h30:=(df_of h.des).fac.nn30;have hn:=(block_design h.hb).2.1;have hf : -1<=netN b.2.1 s/\netN b.2.1 s < (b.2.1.2.1.length:Int):=fi_in;exact⟨r77 _ _ (by omega),r62 _ _ (by omega),hf.1,by omega,by omega,by omega⟩
theorem BK.cel(h:BK b)(s:ByteArray):u81 b.1 s=some (celN b.1 s)/\u61 b.1 s=some (celN b.1 s)/\InI (celN b.1 s):=by
 have hl:b.1.length<=9223372036854775807:=h.hw.1.1;have hf : -1<=celN b.1 s/\celN b.1 s < (b.1.length:Int):=fi_in;exact⟨r81 _ _ hl,r61 _ _ hl,oo⟩
theorem BK.pla(h:BK b)(s:ByteArray):u80 b.2.1 b.1 s=some (plaN b.1 b.2.1 s)/\u60 b.1 b.2.1 s=some (plaN b.1 b.2.1 s)/\InI (plaN b.1 b.2.1 s):=by
 have hl:=(df_of h.des).len;have hf : -1<=plaN b.1 b.2.1 s/\plaN b.1 b.2.1 s < ((plcs b.2.1).length:Int):=fi_in;exact⟨r80 h.des h.hw.2.1 s,r60 h.des h.hw.1 h.hw.2.1 (cF (cS h.hm)) s,oo⟩
end
theorem wf_edit{k p c n d:Int}{s:ByteArray}{w:Y36}(h1:InI k)(h2:InI p)(h3:InI c)(h4:InI n)(h5:InI d)(h6:s.size<=9223372036854775807)(h7:wf y36 w):wf y38 (k,p,c,n,d,s,w):=⟨h1,h2,h3,h4,h5,h6,h7⟩
theorem ini{n:Int}(h : -100<=n/\n<=1000000000000):InI n:=oo
theorem cnt_edit(k p c n d:Int)(s:ByteArray)(w:Y36):cnt y38 (k,p,c,n,d,s,w)=s.size+cnt y36 w:=by
 show 0+(0+(0+(0+(0+(s.size+cnt y36 w)))))=_;omega
theorem getW{ws:List ByteArray}(hz:∀w∈ws,w.size<=1048576){i:Nat}(hi:i<ws.length):(ws.getD i (dflt .str)).size<=1048576:=hz _ (getD_mem hi)
theorem red_any{b:Y50}(h:BK b){ws:List ByteArray}(h1:1<=ws.length)(hl:ws.length<=1048577)(hz:∀w∈ws,w.size<=1048576):∃e:Y38,u30 b ws=some e/\wf y38 e:=by
 have z0:InI 0:=ini (by omega);have hnb:=(block_design h.hb).2.1;have w0:(ByteArray.mk #[]).size<=9223372036854775807:=Nat.zero_le _;unfold u30;rw[gP ⟨oo,trivial⟩];split
 ·exact⟨_,rfl,wf_edit (ini (by omega)) z0 z0 z0 z0 w0 wf_nil⟩
 rw[gP ⟨oo,trivial⟩];split
 ·rename_i hc;rw[ba,beq_iff_eq] at hc;have h3:ws.length=3:=by omega
  obtain⟨n1,-,n2,n3,n4⟩:=h.net (ws.getD (Int.toNat (1:Int)) (dflt .str));rw[n1,vS,gP ⟨oo,rfl,trivial⟩,lE];split
  ·rename_i hc2;rw[dq] at hc2;have e1:∀l:List Int,u79 l=some (l.length:Int):=fun _=>rfl;obtain⟨r,hr,hrw⟩:=rw_any (ws.getD (Int.toNat (2:Int)) (dflt .str)) ((b.2.2.getD (netN b.2.1 (ws.getD (Int.toNat (1:Int)) (dflt .str))).toNat (dflt y36)).2.2.2.length:Int) (getW hz (by show 2<ws.length; omega));rw[e1,vS,hr,vS,gP ⟨oo,⟨hc2,n3⟩,rfl,rfl,trivial⟩,lE];exact⟨_,rfl,wf_edit (ini (by omega)) z0 z0 n4 z0 w0 hrw⟩
  ·exact⟨_,rfl,wf_edit (ini (by omega)) z0 z0 n4 z0 w0 wf_nil⟩
 split
 ·exact⟨_,rfl,wf_edit z0 z0 z0 z0 z0 w0 wf_nil⟩
 rename_i hc3;rw[dq] at hc3;obtain⟨p1,-,p2⟩:=h.pla (ws.getD (Int.toNat (1:Int)) (dflt .str));rw[p1,vS,gP ⟨oo,rfl,trivial⟩,lE,gP ⟨oo,trivial⟩];obtain⟨c1,-,c2⟩:=h.cel (ws.getD (Int.toNat (2:Int)) (dflt .str));split
 ·rw[c1,vS,gP ⟨oo,rfl,trivial⟩,lE];exact⟨_,rfl,wf_edit (ini (by omega)) p2 c2 z0 z0 w0 wf_nil⟩
 rw[gP ⟨oo,trivial⟩];split
 ·rename_i hc;rw[ba,beq_iff_eq] at hc;have h4:ws.length=4:=by omega
  rw[c1,vS,gP ⟨oo,rfl,oo,trivial⟩,lE];have:=getW hz (i:=Int.toNat (3:Int)) (by show 3<ws.length; omega);exact⟨_,rfl,wf_edit (ini (by omega)) p2 c2 z0 z0 (by omega) wf_nil⟩
 rw[gP ⟨oo,trivial⟩];split
 ·rename_i hc;rw[ba,beq_iff_eq] at hc;have h4:ws.length=4:=by omega
  obtain⟨n1,-,n2,n3,n4⟩:=h.net (ws.getD (Int.toNat (2:Int)) (dflt .str));have hs3:=getW hz (i:=Int.toNat (3:Int)) (by show 3<ws.length; omega);have r1:u82 (ws.getD (Int.toNat (3:Int)) (dflt .str))=some (rnV (ws.getD (Int.toNat (3:Int)) (dflt .str))):=if_pos (by omega);rw[n1,vS,gP ⟨oo,rfl,trivial⟩,lE,r1,vS,gP ⟨oo,rfl,trivial⟩,lE];exact⟨_,rfl,wf_edit (ini (by omega)) p2 z0 n4 (rnV_in _) w0 wf_nil⟩
 ·exact⟨_,rfl,wf_edit z0 p2 z0 z0 z0 w0 wf_nil⟩
theorem word_idx(s:ByteArray):u58 wordsL s=some (fiV 5 (fun i=>decide (wordsL.getD i (dflt .str)=s))) :=
 idx_some (n:=5) (by omega) (fun i=>decide (wordsL.getD i (dflt .str)=s)) (fun g i hi=>by
  refine(if_pos (decide_eq_true (by show(i:Int)<5; omega))).trans ?_;rw[gP ⟨⟨by omega,by show(i:Int)<5; omega⟩,trivial⟩,gP ⟨oo,trivial⟩];rfl) (fun g=>rfl)
abbrev wsE(ws:List ByteArray):List ByteArray:=[]++ws++[ByteArray.mk #[],ByteArray.mk #[],ByteArray.mk #[]]
theorem guess_eq{b:Y50}{ws:List ByteArray}(h1:1<=ws.length)(hl:ws.length<=1048577){k:Int}(hk:fiV 5 (fun i=>decide (wordsL.getD i (dflt .str)=ws.getD 0 (dflt .str)))=k):u23 b ws=if(1+k==1)=true then u23J1 k (wsE ws) b (1+k==1) else u23J1 k (wsE ws) b (1+k==2):=by
 have ew:u59=some wordsL:=rfl;have e1:u58 wordsL (ws.getD (Int.toNat (0:Int)) (dflt .str))=some k:=by rw[<- hk]; exact word_idx _
 have hf : -1<=k/\k < ((5:Nat):Int):=by rw[<- hk]; exact fi_in
 unfold u23;rw[ew,vS,e1,vS];rw[gP ⟨rfl,oo,rfl,oo,trivial⟩];show gd _ (lt (wsE ws) fun v2=>if(1+k==1)=true then u23J1 k v2 b (1+k==1) else u23J1 k v2 b (1+k==2))=_;refine(gP ⟨oo,⟨?_,?_⟩,trivial⟩).trans rfl
 ·simp only[List.nil_append,List.length_cons,List.length_nil]; omega
 ·simp only[List.nil_append,List.length_cons,List.length_nil]; omega
theorem guess_any{b:Y50}(h:BK b){ws:List ByteArray}(h1:1<=ws.length)(hl:ws.length<=1048577)(hz:∀w∈ws,w.size<=1048576):∃e:Y38,u23 b ws=some e/\wf y38 e/\cnt y38 e<=1048576:=by
 have z0:InI 0:=ini (by omega);have w0:(ByteArray.mk #[]).size<=9223372036854775807:=Nat.zero_le _;have cz:cnt y36 ([],[],[],[])=0:=rfl;have c0:(ByteArray.mk #[]).size=0:=rfl;generalize hk:fiV 5 (fun i=>decide (wordsL.getD i (dflt .str)=ws.getD 0 (dflt .str)))=k;have hf : -1<=k/\k < ((5:Nat):Int):=by rw[<- hk]; exact fi_in
 have hki:InI (1+k):=ini (by omega);rw[guess_eq h1 hl hk];have hel:(wsE ws).length=ws.length+3:=by simp
 have hez:∀w∈wsE ws,w.size<=1048576:=fun w hw=>by
  simp only[List.nil_append,List.mem_append,List.mem_cons,List.not_mem_nil,or_false] at hw;rcases hw with hw | rfl | rfl | rfl
  ·exact hz w hw
  all_goals exact Nat.zero_le _
 generalize wsE ws=vs at hel hez;have key:∀c:Bool,∃e:Y38,u23J1 k vs b c=some e/\wf y38 e/\cnt y38 e<=1048576:=by
  intro c;obtain⟨-,p1,p2⟩:=h.pla (vs.getD (Int.toNat (1:Int)) (dflt .str));obtain⟨-,c1,c2⟩:=h.cel (vs.getD (Int.toNat (2:Int)) (dflt .str));have i1:Int.toNat (1:Int)<vs.length:=by show 1<vs.length; omega
  have i2:Int.toNat (2:Int)<vs.length:=by show 2<vs.length; omega
  have i3:Int.toNat (3:Int)<vs.length:=by show 3<vs.length; omega
  have g2:=getW hez i2;have g3:=getW hez i3;unfold u23J1;dsimp only;split
  ·rw[p1,vS,gP ⟨oo,i1,rfl,trivial⟩,lE,c1,vS,gP ⟨oo,i2,rfl,trivial⟩,lE];split
   ·rw[gP ⟨oo,i3,trivial⟩];exact⟨_,rfl,wf_edit hki p2 c2 z0 z0 (by omega) wf_nil,by rw[cnt_edit,cz]; omega⟩
   ·exact⟨_,rfl,wf_edit hki p2 c2 z0 z0 w0 wf_nil,by rw[cnt_edit,cz,c0]; omega⟩
  split
  ·obtain⟨-,n1,n2,n3,n4⟩:=h.net (vs.getD (Int.toNat (2:Int)) (dflt .str));have v1:=r63 (vs.getD (Int.toNat (3:Int)) (dflt .str)) g3;have v2:=val_in (bs (vs.getD (Int.toNat (3:Int)) (dflt .str)));have hbl:b.2.2.length<=9223372036854775807:=h.hw.2.2.1;rw[p1,vS,gP ⟨oo,i1,rfl,trivial⟩,lE,n1,vS,gP ⟨oo,i2,rfl,trivial⟩,lE,v1,vS,gP ⟨oo,i3,rfl,trivial⟩,lE];exact⟨_,rfl,wf_edit hki p2 z0 n4 oo w0 wf_nil,by rw[cnt_edit,cz,c0]; omega⟩
  split
  ·obtain⟨-,n1,n2,n3,n4⟩:=h.net (vs.getD (Int.toNat (1:Int)) (dflt .str));have hbl:b.2.2.length<=9223372036854775807:=h.hw.2.2.1;have df:=df_of h.des;have es:u57 b.2.1 (netN b.2.1 (vs.getD (Int.toNat (1:Int)) (dflt .str)))=some (sinksV b.2.1 (netN b.2.1 (vs.getD (Int.toNat (1:Int)) (dflt .str)))):=r57 b.2.1 h.hw.2.1 df _;have hsl:((sinksV b.2.1 (netN b.2.1 (vs.getD (Int.toNat (1:Int)) (dflt .str)))).length:Int)<=1000:=by
    have h1:=cntP_le (plcOf b.2.1) (netN b.2.1 (vs.getD (Int.toNat (1:Int)) (dflt .str))) (plcs b.2.1).length;have h3:((sinksV b.2.1 (netN b.2.1 (vs.getD (Int.toNat (1:Int)) (dflt .str)))).length:Int)=cntP (plcOf b.2.1) (netN b.2.1 (vs.getD (Int.toNat (1:Int)) (dflt .str))) (plcs b.2.1).length:=sinkL_len (plcOf b.2.1) _ (plcs b.2.1).length;have h2:=df.len;omega
   obtain⟨r,hr,hrw,hrc⟩:=srw_any (vs.getD (Int.toNat (2:Int)) (dflt .str)) ((sinksV b.2.1 (netN b.2.1 (vs.getD (Int.toNat (1:Int)) (dflt .str)))).length:Int) g2 hsl;rw[n1,vS,gP ⟨oo,i1,rfl,trivial⟩,lE,es,vS,hr,vS,gP ⟨oo,i2,rfl,rfl,trivial⟩];refine⟨(1+k,0,0,netN b.2.1 (vs.getD (Int.toNat (1:Int)) (dflt .str)),0,ByteArray.mk #[],r.1),rfl,wf_edit hki z0 z0 n4 z0 w0 hrw,by rw[cnt_edit,c0]; omega⟩
  ·exact⟨_,rfl,wf_edit hki z0 z0 z0 z0 w0 wf_nil,by rw[cnt_edit,cz,c0]; omega⟩
 split
 ·exact key _
 ·exact key _
theorem noW_nil{w:Y36}(h:noW w=true):w=([],[],[],[]):=by
 obtain⟨a,b,c,d⟩:=w;have h:(a.length:Int)+(b.length:Int)+(c.length:Int)+(d.length:Int)=0:=beq_iff_eq.1 h;have ha:a=[]:=List.eq_nil_of_length_eq_zero (by omega);have hb:b=[]:=List.eq_nil_of_length_eq_zero (by omega);have hc:c=[]:=List.eq_nil_of_length_eq_zero (by omega);have hd:d=[]:=List.eq_nil_of_length_eq_zero (by omega);rw[ha,hb,hc,hd]
theorem and_f{p q:Bool}(h:p=false):¬(p&&q)=true:=by rw[h]; simp
section
variable {b:Y50} {e:Y38}
theorem EOk.e1(h:EOk b e)(k:e.1=1):e=(1,e.2.1,e.2.2.1,0,0,ByteArray.mk #[],[],[],[],[]):=by
 have hb:=h.bl;unfold blankV at hb;rw[if_pos (by rw[k]; rfl)] at hb;simp only[ba,beq_iff_eq,dq] at hb;obtain⟨⟨⟨h1,h2⟩,h3⟩,h4⟩:=hb;have h5:=noW_nil h4;obtain⟨k1,p,c,n,d,s,w⟩:=e;simp only at k h1 h2 h3 h5;subst k h1 h2 h3 h5;rfl
theorem EOk.e2(h:EOk b e)(k:e.1=2):e=(2,e.2.1,e.2.2.1,0,0,e.2.2.2.2.2.1,[],[],[],[]):=by
 have hb:=h.bl;unfold blankV at hb;rw[if_neg (by rw[k]; decide),if_pos (by rw[k]; rfl)] at hb;simp only[ba,beq_iff_eq] at hb;obtain⟨⟨h1,h2⟩,h4⟩:=hb;have h5:=noW_nil h4;obtain⟨k1,p,c,n,d,s,w⟩:=e;simp only at k h1 h2 h5;subst k h1 h2 h5;rfl
theorem EOk.e3(h:EOk b e)(k:e.1=3):e=(3,0,0,0,0,ByteArray.mk #[],[],[],[],[]):=by
 have hb:=h.bl;unfold blankV at hb;rw[if_neg (by rw[k]; decide),if_neg (by rw[k]; decide),if_pos (by rw[k]; rfl)] at hb;simp only[ba,beq_iff_eq,dq] at hb;obtain⟨⟨⟨⟨⟨h1,h2⟩,h3⟩,h6⟩,h7⟩,h4⟩:=hb;have h5:=noW_nil h4;obtain⟨k1,p,c,n,d,s,w⟩:=e;simp only at k h1 h2 h3 h5 h6 h7;subst k h1 h2 h3 h5 h6 h7;rfl
theorem EOk.e4(h:EOk b e)(k:e.1=4):e=(4,e.2.1,0,e.2.2.2.1,e.2.2.2.2.1,ByteArray.mk #[],[],[],[],[]):=by
 have hb:=h.bl;unfold blankV at hb;rw[if_neg (by rw[k]; decide),if_neg (by rw[k]; decide),if_neg (by rw[k]; decide),if_pos (by rw[k]; rfl)] at hb;simp only[ba,beq_iff_eq,dq] at hb;obtain⟨⟨h1,h2⟩,h4⟩:=hb;have h5:=noW_nil h4;obtain⟨k1,p,c,n,d,s,w⟩:=e;simp only at k h1 h2 h5;subst k h1 h2 h5;rfl
theorem EOk.e5(h:EOk b e)(k:e.1=5):e=(5,0,0,e.2.2.2.1,0,ByteArray.mk #[],e.2.2.2.2.2.2):=by
 have hb:=h.bl;unfold blankV at hb;rw[if_neg (by rw[k]; decide),if_neg (by rw[k]; decide),if_neg (by rw[k]; decide),if_neg (by rw[k]; decide),if_pos (by rw[k]; rfl)] at hb;simp only[ba,beq_iff_eq,dq] at hb;obtain⟨⟨⟨h1,h2⟩,h3⟩,h4⟩:=hb;obtain⟨k1,p,c,n,d,s,w⟩:=e;simp only at k h1 h2 h3 h4;subst k h1 h2 h3 h4;rfl
theorem EOk.bp(h:EOk b e)(g:BK b)(k:e.1=1∨e.1=2∨e.1=4):u80 b.2.1 b.1 (nameV b.1 b.2.1 (plE b e))=some e.2.1/\u60 b.1 b.2.1 (nameV b.1 b.2.1 (plE b e))=some e.2.1:=by
 obtain⟨h1,h2,-⟩:=h.place k;have hb:=plc_back (dm_of g.des) h2;have e1:((e.2.1.toNat:Nat):Int)=e.2.1:=by have:=h1.1; omega
 rw[e1] at hb;obtain⟨p1,p2,-⟩:=g.pla (nameV b.1 b.2.1 (plE b e));have hb:plaN b.1 b.2.1 (nameV b.1 b.2.1 (plE b e))=e.2.1:=hb;rw[hb] at p1 p2;exact⟨p1,p2⟩
theorem EOk.bc(h:EOk b e)(g:BK b)(k:e.1=1∨e.1=2):u81 b.1 (b.1.getD e.2.2.1.toNat (dflt y115)).1=some e.2.2.1/\u61 b.1 (b.1.getD e.2.2.1.toNat (dflt y115)).1=some e.2.2.1:=by
 obtain⟨h1,-⟩:=h.cell k;have hl:=(df_of g.des).lib;have hb:=cel_back hl (i:=e.2.2.1.toNat) (by have:=h1.1; have:=h1.2; omega);have e1:((e.2.2.1.toNat:Nat):Int)=e.2.2.1:=by have:=h1.1; omega
 rw[e1] at hb;obtain⟨p1,p2,-⟩:=g.cel (b.1.getD e.2.2.1.toNat (dflt y115)).1;have hb:celN b.1 (b.1.getD e.2.2.1.toNat (dflt y115)).1=e.2.2.1:=hb;rw[hb] at p1 p2;exact⟨p1,p2⟩
theorem EOk.bn(h:EOk b e)(g:BK b)(k:e.1=4∨e.1=5):u77 b.2.1 (netS b.2.1 e.2.2.2.1)=some e.2.2.2.1/\u62 b.2.1 (netS b.2.1 e.2.2.2.1)=some e.2.2.2.1/\0<=e.2.2.2.1/\e.2.2.2.1 < (b.2.2.length:Int):=by
 obtain⟨h1,-,h3⟩:=h.net k;have h3:=inB_iff.1 h3;have hb:=net_back (dm_of g.des) (i:=e.2.2.2.1.toNat) (by have:=h1.1; have:=h1.2; omega);have e1:((e.2.2.2.1.toNat:Nat):Int)=e.2.2.2.1:=by have:=h1.1; omega
 rw[e1] at hb;obtain⟨p1,p2,-⟩:=g.net (netS b.2.1 e.2.2.2.1);have hb:netN b.2.1 (netS b.2.1 e.2.2.2.1)=e.2.2.2.1:=hb;rw[hb] at p1 p2;exact⟨p1,p2,by omega,by omega⟩
theorem EOk.bd(h:EOk b e)(k:e.1=4):u82 (numS e.2.2.2.2.1)=some (e.2.2.2.2.1,true)/\u63 (numS e.2.2.2.2.1)=some (e.2.2.2.2.1,true):=by
 obtain⟨-,-,h3⟩:=h.net (.inl k);have h3:=inB_iff.1 h3;have hr:=h.rg;unfold rangeV at hr;rw[if_neg (by rw[k]; decide),if_pos (by rw[k]; rfl),ba,ba] at hr;have h4:=inB_iff.1 hr.2;have h8:=(net_ok h.hb (i:=e.2.2.2.1.toNat) (by omega)).wf.n8;have hI:InI e.2.2.2.2.1:=ini (by omega);have hz:=numS_size hI;refine⟨(if_pos (by omega)).trans (congrArg some (rnV_num hI)),?_⟩;rw[r63 _ (by omega),numS_bs,val_itoa oo]
theorem EOk.bw(h:EOk b e)(k:e.1=5):wireB e.2.2.2.2.2.2 ((sinksV b.2.1 e.2.2.2.1).length:Int)=true/\((sinksV b.2.1 e.2.2.2.1).length:Int)<=1000/\((b.2.2.getD e.2.2.2.1.toNat (dflt y36)).2.2.2.length:Int)=((sinksV b.2.1 e.2.2.2.1).length:Int):=by
 obtain⟨-,-,h3⟩:=h.net (.inr k);have h3:=inB_iff.1 h3;have no:=net_ok h.hb (i:=e.2.2.2.1.toNat) (by omega);have hsn:=no.sn;have h78:=no.s78;have e6:((e.2.2.2.1.toNat:Nat):Int)=e.2.2.2.1:=by omega
 rw[e6] at h78 hsn;have hs:=h.st;unfold stateV at hs;rw[if_neg (by rw[k]; decide),if_neg (by rw[k]; decide),if_neg (by rw[k]; decide),if_neg (by rw[k]; decide)] at hs;exact⟨hs,by omega,congrArg Int.ofNat hsn⟩
theorem red_back(h:EOk b e)(g:BK b):u30 b (edW b e)=some e:=by
 have hk:=h.kind;by_cases k1:e.1=1
 ·have ew:edW b e=[swapS,nameV b.1 b.2.1 (plE b e),(b.1.getD e.2.2.1.toNat (dflt y115)).1]:=by unfold edW; rw[if_pos (by rw[k1]; rfl)]
  have p:u80 b.2.1 b.1 (List.getD [swapS,nameV b.1 b.2.1 (plE b e),(b.1.getD e.2.2.1.toNat (dflt y115)).1] (Int.toNat (1:Int)) (dflt Ty.str))=some e.2.1:=(h.bp g (.inl k1)).1;have c:u81 b.1 (List.getD [swapS,nameV b.1 b.2.1 (plE b e),(b.1.getD e.2.2.1.toNat (dflt y115)).1] (Int.toNat (2:Int)) (dflt Ty.str))=some e.2.2.1:=(h.bc g (.inl k1)).1;rw[ew];unfold u30;rw[gP ⟨⟨by omega,by show(0:Int)<3; omega⟩,trivial⟩];refine(if_neg (show ¬decide (swapS=unbS)=true by decide)).trans ?_;rw[gP ⟨⟨by omega,by show(0:Int)<3; omega⟩,trivial⟩];refine(if_neg (and_f (show decide (swapS=wirS)=false by decide))).trans ?_;refine(if_neg (by rw[dq]; show ¬(3:Int)<3; omega)).trans ?_;rw[p,vS,gP ⟨⟨by omega,by show(1:Int)<3; omega⟩,rfl,trivial⟩,lE,gP ⟨⟨by omega,by show(0:Int)<3; omega⟩,trivial⟩];refine(if_pos (show decide (swapS=swapS)=true by decide)).trans ?_;rw[c,vS,gP ⟨⟨by omega,by show(2:Int)<3; omega⟩,rfl,trivial⟩,lE];exact congrArg some (h.e1 k1).symm
 by_cases k2:e.1=2
 ·have ew:edW b e=[bufS,nameV b.1 b.2.1 (plE b e),(b.1.getD e.2.2.1.toNat (dflt y115)).1,e.2.2.2.2.2.1]:=by unfold edW; rw[if_neg (by rw[k2]; decide),if_pos (by rw[k2]; rfl)]
  have p:u80 b.2.1 b.1 (List.getD [bufS,nameV b.1 b.2.1 (plE b e),(b.1.getD e.2.2.1.toNat (dflt y115)).1,e.2.2.2.2.2.1] (Int.toNat (1:Int)) (dflt Ty.str))=some e.2.1:=(h.bp g (.inr (.inl k2))).1;have c:u81 b.1 (List.getD [bufS,nameV b.1 b.2.1 (plE b e),(b.1.getD e.2.2.1.toNat (dflt y115)).1,e.2.2.2.2.2.1] (Int.toNat (2:Int)) (dflt Ty.str))=some e.2.2.1:=(h.bc g (.inr k2)).1;rw[ew];unfold u30;rw[gP ⟨⟨by omega,by show(0:Int)<4; omega⟩,trivial⟩];refine(if_neg (show ¬decide (bufS=unbS)=true by decide)).trans ?_;rw[gP ⟨⟨by omega,by show(0:Int)<4; omega⟩,trivial⟩];refine(if_neg (and_f (show decide (bufS=wirS)=false by decide))).trans ?_;refine(if_neg (by rw[dq]; show ¬(4:Int)<3; omega)).trans ?_;rw[p,vS,gP ⟨⟨by omega,by show(1:Int)<4; omega⟩,rfl,trivial⟩,lE,gP ⟨⟨by omega,by show(0:Int)<4; omega⟩,trivial⟩];refine(if_neg (show ¬decide (bufS=swapS)=true by decide)).trans ?_;rw[gP ⟨⟨by omega,by show(0:Int)<4; omega⟩,trivial⟩];refine(if_pos (show(decide (bufS=bufS)&&(4:Int)==4)=true by decide)).trans ?_;rw[c,vS,gP ⟨⟨by omega,by show(2:Int)<4; omega⟩,rfl,⟨by omega,by show(3:Int)<4; omega⟩,trivial⟩,lE];exact congrArg some (h.e2 k2).symm
 by_cases k3:e.1=3
 ·have ew:edW b e=[unbS]:=by unfold edW; rw[if_neg (by rw[k3]; decide),if_neg (by rw[k3]; decide),if_pos (by rw[k3]; rfl)]
  rw[ew];unfold u30;rw[gP ⟨⟨by omega,by show(0:Int)<1; omega⟩,trivial⟩];refine(if_pos (show decide (unbS=unbS)=true by decide)).trans ?_;exact congrArg some (h.e3 k3).symm
 by_cases k4:e.1=4
 ·have ew:edW b e=[movS,nameV b.1 b.2.1 (plE b e),netS b.2.1 e.2.2.2.1,numS e.2.2.2.2.1]:=by unfold edW; rw[if_neg (by rw[k4]; decide),if_neg (by rw[k4]; decide),if_neg (by rw[k4]; decide),if_pos (by rw[k4]; rfl)]
  have p:u80 b.2.1 b.1 (List.getD [movS,nameV b.1 b.2.1 (plE b e),netS b.2.1 e.2.2.2.1,numS e.2.2.2.2.1] (Int.toNat (1:Int)) (dflt Ty.str))=some e.2.1:=(h.bp g (.inr (.inr k4))).1;have c:u77 b.2.1 (List.getD [movS,nameV b.1 b.2.1 (plE b e),netS b.2.1 e.2.2.2.1,numS e.2.2.2.2.1] (Int.toNat (2:Int)) (dflt Ty.str))=some e.2.2.2.1:=(h.bn g (.inl k4)).1;have d:u82 (List.getD [movS,nameV b.1 b.2.1 (plE b e),netS b.2.1 e.2.2.2.1,numS e.2.2.2.2.1] (Int.toNat (3:Int)) (dflt Ty.str))=some (e.2.2.2.2.1,true):=(h.bd k4).1;rw[ew];unfold u30;rw[gP ⟨⟨by omega,by show(0:Int)<4; omega⟩,trivial⟩];refine(if_neg (show ¬decide (movS=unbS)=true by decide)).trans ?_;rw[gP ⟨⟨by omega,by show(0:Int)<4; omega⟩,trivial⟩];refine(if_neg (and_f (show decide (movS=wirS)=false by decide))).trans ?_;refine(if_neg (by rw[dq]; show ¬(4:Int)<3; omega)).trans ?_;rw[p,vS,gP ⟨⟨by omega,by show(1:Int)<4; omega⟩,rfl,trivial⟩,lE,gP ⟨⟨by omega,by show(0:Int)<4; omega⟩,trivial⟩];refine(if_neg (show ¬decide (movS=swapS)=true by decide)).trans ?_;rw[gP ⟨⟨by omega,by show(0:Int)<4; omega⟩,trivial⟩];refine(if_neg (and_f (show decide (movS=bufS)=false by decide))).trans ?_;rw[gP ⟨⟨by omega,by show(0:Int)<4; omega⟩,trivial⟩];refine(if_pos (show(decide (movS=movS)&&(4:Int)==4)=true by decide)).trans ?_;rw[c,vS,gP ⟨⟨by omega,by show(2:Int)<4; omega⟩,rfl,trivial⟩,lE,d,vS,gP ⟨⟨by omega,by show(3:Int)<4; omega⟩,rfl,trivial⟩,lE];exact congrArg some (h.e4 k4).symm
 ·have k5:e.1=5:=by omega
  have ew:edW b e=[wirS,netS b.2.1 e.2.2.2.1,wireT e.2.2.2.2.2.2]:=by unfold edW; rw[if_neg (by rw[k5]; decide),if_neg (by rw[k5]; decide),if_neg (by rw[k5]; decide),if_neg (by rw[k5]; decide)]
  obtain⟨n1,-,n2,n3⟩:=h.bn g (.inr k5);obtain⟨w1,w2,w3⟩:=h.bw k5;have c:u77 b.2.1 (List.getD [wirS,netS b.2.1 e.2.2.2.1,wireT e.2.2.2.2.2.2] (Int.toNat (1:Int)) (dflt Ty.str))=some e.2.2.2.1:=n1;have e1:∀l:List Int,u79 l=some (l.length:Int):=fun _=>rfl;have r:u78 (List.getD [wirS,netS b.2.1 e.2.2.2.1,wireT e.2.2.2.2.2.2] (Int.toNat (2:Int)) (dflt Ty.str)) ((b.2.2.getD e.2.2.2.1.toNat (dflt y36)).2.2.2.length:Int)=some (e.2.2.2.2.2.2,true):=by
   rw[w3];exact rw_back w2 w1
  rw[ew];unfold u30;rw[gP ⟨⟨by omega,by show(0:Int)<3; omega⟩,trivial⟩];refine(if_neg (show ¬decide (wirS=unbS)=true by decide)).trans ?_;rw[gP ⟨⟨by omega,by show(0:Int)<3; omega⟩,trivial⟩];refine(if_pos (show(decide (wirS=wirS)&&(3:Int)==3)=true by decide)).trans ?_;rw[c,vS,gP ⟨⟨by omega,by show(1:Int)<3; omega⟩,rfl,trivial⟩,lE,if_pos (decide_eq_true n2),e1,vS,r,vS,gP ⟨⟨by omega,by show(2:Int)<3; omega⟩,⟨n2,n3⟩,rfl,rfl,trivial⟩,lE];exact congrArg some (h.e5 k5).symm
theorem guess_back(h:EOk b e)(g:BK b):u23 b (edW b e)=some e:=by
 have hk:=h.kind;by_cases k1:e.1=1
 ·have ew:edW b e=[swapS,nameV b.1 b.2.1 (plE b e),(b.1.getD e.2.2.1.toNat (dflt y115)).1]:=by unfold edW; rw[if_pos (by rw[k1]; rfl)]
  have p:u60 b.1 b.2.1 (List.getD (wsE [swapS,nameV b.1 b.2.1 (plE b e),(b.1.getD e.2.2.1.toNat (dflt y115)).1]) (Int.toNat (1:Int)) (dflt Ty.str))=some e.2.1:=(h.bp g (.inl k1)).2;have c:u61 b.1 (List.getD (wsE [swapS,nameV b.1 b.2.1 (plE b e),(b.1.getD e.2.2.1.toNat (dflt y115)).1]) (Int.toNat (2:Int)) (dflt Ty.str))=some e.2.2.1:=(h.bc g (.inl k1)).2;rw[ew];have kx:fiV 5 (fun i=>decide (wordsL.getD i (dflt .str)=swapS))=0:=by decide
  refine(guess_eq (k:=0) ?_ ?_ ?_).trans ?_
  ·show 1<=_+1; omega
  ·simp only[List.length_cons,List.length_nil]; omega
  ·exact kx
  refine(if_pos rfl).trans ?_;unfold u23J1;dsimp only;refine(if_pos rfl).trans ?_;rw[p,vS,gP ⟨⟨by omega,by show(1:Int)<6; omega⟩,by show 1<6; omega,rfl,trivial⟩,lE,c,vS,gP ⟨⟨by omega,by show(2:Int)<6; omega⟩,by show 2<6; omega,rfl,trivial⟩,lE];refine(if_neg (by decide)).trans ?_;exact congrArg some (h.e1 k1).symm
 by_cases k2:e.1=2
 ·have ew:edW b e=[bufS,nameV b.1 b.2.1 (plE b e),(b.1.getD e.2.2.1.toNat (dflt y115)).1,e.2.2.2.2.2.1]:=by unfold edW; rw[if_neg (by rw[k2]; decide),if_pos (by rw[k2]; rfl)]
  have p:u60 b.1 b.2.1 (List.getD (wsE [bufS,nameV b.1 b.2.1 (plE b e),(b.1.getD e.2.2.1.toNat (dflt y115)).1,e.2.2.2.2.2.1]) (Int.toNat (1:Int)) (dflt Ty.str))=some e.2.1:=(h.bp g (.inr (.inl k2))).2;have c:u61 b.1 (List.getD (wsE [bufS,nameV b.1 b.2.1 (plE b e),(b.1.getD e.2.2.1.toNat (dflt y115)).1,e.2.2.2.2.2.1]) (Int.toNat (2:Int)) (dflt Ty.str))=some e.2.2.1:=(h.bc g (.inr k2)).2;rw[ew];have kx:fiV 5 (fun i=>decide (wordsL.getD i (dflt .str)=bufS))=1:=by decide
  refine(guess_eq (k:=1) ?_ ?_ ?_).trans ?_
  ·show 1<=_+1; omega
  ·simp only[List.length_cons,List.length_nil]; omega
  ·exact kx
  refine(if_neg (by decide)).trans ?_;unfold u23J1;dsimp only;refine(if_pos rfl).trans ?_;rw[p,vS,gP ⟨⟨by omega,by show(1:Int)<7; omega⟩,by show 1<7; omega,rfl,trivial⟩,lE,c,vS,gP ⟨⟨by omega,by show(2:Int)<7; omega⟩,by show 2<7; omega,rfl,trivial⟩,lE];refine(if_pos rfl).trans ?_;rw[gP ⟨⟨by omega,by show(3:Int)<7; omega⟩,by show 3<7; omega,trivial⟩];exact congrArg some (h.e2 k2).symm
 by_cases k3:e.1=3
 ·have ew:edW b e=[unbS]:=by unfold edW; rw[if_neg (by rw[k3]; decide),if_neg (by rw[k3]; decide),if_pos (by rw[k3]; rfl)]
  rw[ew];have kx:fiV 5 (fun i=>decide (wordsL.getD i (dflt .str)=unbS))=2:=by decide
  refine(guess_eq (k:=2) ?_ ?_ ?_).trans ?_
  ·show 1<=_+1; omega
  ·simp only[List.length_cons,List.length_nil]; omega
  ·exact kx
  refine(if_neg (by decide)).trans ?_;unfold u23J1;dsimp only;refine(if_neg (by decide)).trans ((if_neg (by decide)).trans ((if_neg (by decide)).trans ?_));exact congrArg some (h.e3 k3).symm
 by_cases k4:e.1=4
 ·have ew:edW b e=[movS,nameV b.1 b.2.1 (plE b e),netS b.2.1 e.2.2.2.1,numS e.2.2.2.2.1]:=by unfold edW; rw[if_neg (by rw[k4]; decide),if_neg (by rw[k4]; decide),if_neg (by rw[k4]; decide),if_pos (by rw[k4]; rfl)]
  have p:u60 b.1 b.2.1 (List.getD (wsE [movS,nameV b.1 b.2.1 (plE b e),netS b.2.1 e.2.2.2.1,numS e.2.2.2.2.1]) (Int.toNat (1:Int)) (dflt Ty.str))=some e.2.1:=(h.bp g (.inr (.inr k4))).2;have c:u62 b.2.1 (List.getD (wsE [movS,nameV b.1 b.2.1 (plE b e),netS b.2.1 e.2.2.2.1,numS e.2.2.2.2.1]) (Int.toNat (2:Int)) (dflt Ty.str))=some e.2.2.2.1:=(h.bn g (.inl k4)).2.1;have d:u63 (List.getD (wsE [movS,nameV b.1 b.2.1 (plE b e),netS b.2.1 e.2.2.2.1,numS e.2.2.2.2.1]) (Int.toNat (3:Int)) (dflt Ty.str))=some (e.2.2.2.2.1,true):=(h.bd k4).2;rw[ew];have kx:fiV 5 (fun i=>decide (wordsL.getD i (dflt .str)=movS))=3:=by decide
  refine(guess_eq (k:=3) ?_ ?_ ?_).trans ?_
  ·show 1<=_+1; omega
  ·simp only[List.length_cons,List.length_nil]; omega
  ·exact kx
  refine(if_neg (by decide)).trans ?_;unfold u23J1;dsimp only;refine(if_neg (by decide)).trans ((if_pos rfl).trans ?_);rw[p,vS,gP ⟨⟨by omega,by show(1:Int)<7; omega⟩,by show 1<7; omega,rfl,trivial⟩,lE,c,vS,gP ⟨⟨by omega,by show(2:Int)<7; omega⟩,by show 2<7; omega,rfl,trivial⟩,lE,d,vS,gP ⟨⟨by omega,by show(3:Int)<7; omega⟩,by show 3<7; omega,rfl,trivial⟩,lE];exact congrArg some (h.e4 k4).symm
 ·have k5:e.1=5:=by omega
  have ew:edW b e=[wirS,netS b.2.1 e.2.2.2.1,wireT e.2.2.2.2.2.2]:=by unfold edW; rw[if_neg (by rw[k5]; decide),if_neg (by rw[k5]; decide),if_neg (by rw[k5]; decide),if_neg (by rw[k5]; decide)]
  obtain⟨-,n1,n2,n3⟩:=h.bn g (.inr k5);obtain⟨w1,w2,w3⟩:=h.bw k5;have es:u57 b.2.1 e.2.2.2.1=some (sinksV b.2.1 e.2.2.2.1):=r57 b.2.1 g.hw.2.1 (df_of g.des) _;have c:u62 b.2.1 (List.getD (wsE [wirS,netS b.2.1 e.2.2.2.1,wireT e.2.2.2.2.2.2]) (Int.toNat (1:Int)) (dflt Ty.str))=some e.2.2.2.1:=n1;have r:u64 (List.getD (wsE [wirS,netS b.2.1 e.2.2.2.1,wireT e.2.2.2.2.2.2]) (Int.toNat (2:Int)) (dflt Ty.str)) ((sinksV b.2.1 e.2.2.2.1).length:Int)=some (e.2.2.2.2.2.2,true):=srw_back w2 w1;rw[ew];have kx:fiV 5 (fun i=>decide (wordsL.getD i (dflt .str)=wirS))=4:=by decide
  refine(guess_eq (k:=4) ?_ ?_ ?_).trans ?_
  ·show 1<=_+1; omega
  ·simp only[List.length_cons,List.length_nil]; omega
  ·exact kx
  refine(if_neg (by decide)).trans ?_;unfold u23J1;dsimp only;refine(if_neg (by decide)).trans ((if_neg (by decide)).trans ((if_pos rfl).trans ?_));rw[c,vS,gP ⟨⟨by omega,by show(1:Int)<6; omega⟩,by show 1<6; omega,rfl,trivial⟩,lE,es,vS,r,vS,gP ⟨⟨by omega,by show(2:Int)<6; omega⟩,by show 2<6; omega,rfl,rfl,trivial⟩];exact congrArg some (h.e5 k5).symm
theorem edi_wd(h:EOk b e):wdB 32 (ediT b e)=edW b e:=by
 have h1:=(splitB_all 32 (bs (ediT b e))).2;rw[ba_bs] at h1;exact h1.symm.trans (split_edi h).2
theorem edi_ne(h:EOk b e):ediT b e≠ByteArray.mk #[]:=fun e0=>by
 have h1:=edi_wd h;rw[e0] at h1;have h1:[mkS []]=edW b e:=h1;unfold edW at h1;have ne:∀{x:ByteArray} {r:List ByteArray},0<x.size->[mkS []]≠x :: r:=fun {x r} hx he=>by
  have:=(List.cons.inj he).1;rw[<- this] at hx;exact Nat.lt_irrefl 0 hx
 split at h1
 ·exact ne (by decide) h1
 split at h1
 ·exact ne (by decide) h1
 split at h1
 ·exact ne (by decide) h1
 split at h1
 ·exact ne (by decide) h1
 ·exact ne (by decide) h1
end
end Go.Proofs.YtfggbbnnalflhaaGreatDoor
end
section
namespace Go.Proofs.Xd
open Go Go.Proofs.Xl Go.Proofs.Xv
def wd:Ty->Nat
 | .pr a b=>wd a+wd b
 | .sl e=>wd e
 | .pt _=>0
 | _=>1
theorem cntM_le:∀(t:Ty) (x:den t),cntM t x<=wd t*(1+cnt t x)
 | .int _,_=>by simp[cntM,wd]
 | .bool,_=>by simp[cntM,wd]
 | .str,_=>by simp[cntM,wd]
 | .pt _,_=>by simp[cntM]
 | .sl e,xs=>by
   have key:∀l:List (den e),(l.map (cntM e)).sum<=wd e*(l.length+(l.map (cnt e)).sum):=by
    intro l
    induction l with
    | nil=>exact Nat.zero_le _
    | cons a r ih =>
      have h1:=cntM_le e a;rw[List.map_cons,List.sum_cons,List.map_cons,List.sum_cons,List.length_cons];have e1:wd e*(r.length+1+(cnt e a+(r.map (cnt e)).sum))=wd e*(1+cnt e a)+wd e*(r.length+(r.map (cnt e)).sum):=by
       rw[<- Nat.mul_add]; congr 1; omega
      omega
   refine Nat.le_trans (key xs) ?_;show _<=wd e*(1+(xs.length+(xs.map (cnt e)).sum));exact Nat.mul_le_mul_left _ (by omega)
 | .pr a b,x=>by
   have h1:=cntM_le a x.1;have h2:=cntM_le b x.2;show cntM a x.1+cntM b x.2<=(wd a+wd b)*(1+(cnt a x.1+cnt b x.2));have h3:wd a*(1+cnt a x.1)<=wd a*(1+(cnt a x.1+cnt b x.2)):=Nat.mul_le_mul_left _ (by omega);have h4:wd b*(1+cnt b x.2)<=wd b*(1+(cnt a x.1+cnt b x.2)):=Nat.mul_le_mul_left _ (by omega);rw[Nat.add_mul];omega
theorem cntM_bd{t:Ty}{x:den t}{k:Nat}(h:cnt t x<=1048576)(hw:wd t<=k):(cntM t x:Int)<=(k*1048577:Nat):=by
 have h1:=cntM_le t x;have h2:wd t*(1+cnt t x)<=k*1048577:=Nat.mul_le_mul hw (by omega);omega
theorem mkI_get:∀(m:Nat) (k:Int) (i:Nat),i<m->(mkI k m).getD i 0=k+(i:Int)
 | m+1,k,0,_=>by simp[mkI]
 | m+1,k,i+1,h=>by
   rw[mkI,List.getD_cons_succ,mkI_get m (k+1) i (by omega)];omega
end Go.Proofs.Xd
end

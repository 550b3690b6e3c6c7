/- Pins, arcs, cells: what the program's functions and the reference's say of them. -/
import Derived.Test.YtphnknndgfgepaaGreatDoorWC
import Derived.Test.YtphnknndgfgepaaGreatDoorWB
section
namespace Go.Proofs.YtphnknndgfgepaaGreatDoor
open Go Go.Proofs Go.Proofs.Sv Go.Proofs.Xv Go.Proofs.Xl Go.Proofs.Xd
theorem wf_pins{c:Y163}(hw:wf y163 c):wf (.sl y217) c.2.2.1:=hw.2.2.1
theorem wf_arcs{c:Y163}(hw:wf y163 c):wf (.sl y143) c.2.2.2.1:=hw.2.2.2.1
theorem names_map{α:Type}(l:List α)(f:α->ByteArray)(d:α)(e:ByteArray):namesB (l.map f).length (fun i=>(l.map f).getD i e)=namesB l.length fun i=>f (l.getD i d):=by
 rw[List.length_map];exact namesB_congr fun i hi=>getD_map' f l i d e hi
theorem wf_map{α:Type}{l:List α}{f:α->ByteArray}(h:l.length<=9223372036854775807)(hf:∀x∈l,(f x).size<=9223372036854775807):wf (.sl .str) (l.map f):=by
 refine⟨by rw[List.length_map]; exact h,fun x hx=>?_⟩;obtain⟨y,hy,rfl⟩:=List.mem_map.1 hx;exact hf y hy
def gath(f:Nat->ByteArray)(i:Nat)(s:List ByteArray):List ByteArray:=s++[f i]
theorem gath_eq(f:Nat->ByteArray):∀n,fN (gath f) n []=(List.range n).map f
 | 0=>rfl
 | n+1=>by
   rw[fN,gath_eq f n,List.range_succ,List.map_append]; rfl
theorem gath_row{α:Type}(l:List α)(d:α)(f:α->ByteArray):fN (gath fun i=>f (l.getD i d)) l.length []=l.map f:=by
 rw[gath_eq,range_map]
theorem app_ok{n i b:Nat}(h:i<n)(hn:n<=1048576)(hb:b<=4096):i+1<=9223372036854775807/\(i+1)*b<=140737488355328:=by
 have:(i+1)*b<=1048576*4096:=Nat.mul_le_mul (by omega) hb;exact oo
theorem r242(l:List Y217)(hw:wf (.sl y217) l)(hm:l.length<=1048576):u242 l=some (pinsOk l.length fun i=>l.getD i (dflt y217)):=by
 have h:=hw.1;have key:=lp_foldE (n:=l.length) h (fun i (s:List ByteArray)=>(s,(i:Int))) (gath fun i=>(l.getD i (dflt y217)).1) (fun i=>!pinB l.length (l.getD i (dflt y217)) i) (some false) (fun i s=>s.length=i) (J:=u242J0 l) (F:=u242L1 l) (fun g i s hi hI=>by
  refine(if_pos (by simpa using hi)).trans ?_;have e3:((i:Int)).toNat=i:=rfl;have hs:(s++[(l.getD i (dflt y217)).1]).length<=9223372036854775807:=by rw[List.length_append]; show s.length+1<=_; omega
  have ha:=app_ok (b:=16) hi hm (by decide);have j2:∀s',u242J2 (i:Int) g s'=g (s',((i+1:Nat):Int)):=fun s'=>gP ⟨oo,trivial⟩;rw[e3,gP ⟨oo,trivial⟩,lE,gP ⟨⟨by show s.length+1<=_; omega,by show(s.length+1)*16<=_; omega⟩,trivial⟩,gP ⟨oo,trivial⟩,j2,r150,gP ⟨fun _=>rfl,trivial⟩,vS];unfold pinB gath;dsimp only;by_cases hl:i+1=l.length
  ·have e1:((i:Int)==(l.length:Int)-1)=true:=by rw[beq_iff_eq]; omega
   rw[if_pos e1,if_pos hl];generalize l.getD i (dflt y217)=q;have n1:(q.2.1 != 2)=!(q.2.1==2):=rfl;have n2:(q.2.2.1 != 0)=!(q.2.2.1==0):=rfl;rw[n1,n2];cases c2:q.2.2.1==0 with
   | true =>
     have c3:inB q.2.2.1 0 500=true:=by rw[beq_iff_eq.1 c2]; rfl
     rw[c3];cases q.2.1==2 <;> cases q.2.2.2 <;> rfl
   | false=>cases inB q.2.2.1 0 500 <;> cases q.2.1==2 <;> cases q.2.2.2 <;> rfl
  ·have e1:¬((i:Int)==(l.length:Int)-1)=true:=by rw[beq_iff_eq]; omega
   rw[if_neg e1,if_neg hl];generalize l.getD i (dflt y217)=q;have e4:(q.2.1 != 1||!inB q.2.2.1 0 500)=!(inB q.2.2.1 0 500&&q.2.1==1):=by
    rw[Bool.not_and,Bool.or_comm]; rfl
   rw[e4]) (fun i s hi hI _=>by unfold gath; rw[List.length_append,hI]; rfl) (fun g s _=>aE) [] rfl
 refine key.trans ?_;rw[gath_row];have hn:wf (.sl .str) (l.map fun q:Y217=>q.1):=wf_map h fun x hx=>(hw.2 x hx).1;have e5:u258 l=some (l.length:Int):=rfl;have e7:∀v:List ByteArray,wf (.sl .str) v->u242J0 l v=some (inB (l.length:Int) 2 5&&namesB v.length fun i=>v.getD i (dflt .str)):=fun v hv=>by
  rw[u242J0];rw[e5,r213 _ hv]
  repeat rw[vS]
  rw[r150,vS,gP ⟨rfl,rfl,fun _=>rfl,trivial⟩]
 rw[e7 _ hn,names_map l (fun q:Y217=>q.1) (dflt y217)];unfold pinsOk;have e6:inB (l.length:Int) 2 5=(decide (2<=l.length)&&decide (l.length<=5)):=by
  rw[Bool.eq_iff_iff,inB_iff]; simp; omega
 rw[e6];cases(List.range l.length).any fun i=>!pinB l.length (l.getD i (dflt y217)) i
 ·simp
 ·simp
theorem r218(c:Y163)(hw:wf y163 c):u218 c=some (if pinsOk c.2.2.1.length (pinOf c)=true then(clkN c.2.2.1.length (pinOf c),true) else(0,false)):=by
 have hp:=wf_pins hw;have h:=hp.1;unfold u218;by_cases hr:2<=c.2.2.1.length/\c.2.2.1.length<=5
 ·have e0:(decide ((c.2.2.1.length:Int)<2)||decide (5 < (c.2.2.1.length:Int)))=false:=by
   rw[<- Bool.not_eq_true]; simp; omega
  rw[e0,if_neg (by simp)];have key:=lp_foldE (n:=c.2.2.1.length) h (fun i (s:Int)=>(s,(i:Int))) (fun i s=>if(pinOf c i).2.2.2=true then s+1 else s) (fun i=>(!nmB (pinOf c i).1||dupB (fun i=>(pinOf c i).1) i)||!pinB c.2.2.1.length (pinOf c i) i) (some ((0:Int),false)) (fun i s=>0<=s/\s<=i) (J:=u218J0) (F:=u218L1 c) (fun g i s hi hI=>by
   refine(if_pos (by simpa using hi)).trans ?_;have e3:((i:Int)).toNat=i:=rfl;have hs:(pinOf c i).1.size<=9223372036854775807:=(wf_el (d:=dflt y217) hi hp).1;rw[e3,gP ⟨oo,trivial⟩,lE];have inner:=lp_all (n:=i) (by omega) (fun k=>decide ((pinOf c k).1=(pinOf c i).1)) (some ((0:Int),false)) (e:=u218J3 (i:Int) s (pinOf c i) c g ()) (F:=u218L4 c (pinOf c i) (i:Int) s g) (fun g3 k hk=>all_el hk (by omega) ⟨oo,trivial⟩) (fun g3=>aE);refine inner.trans ?_;have j3:u218J3 (i:Int) s (pinOf c i) c g ()=if(!nmB (pinOf c i).1||!pinB c.2.2.1.length (pinOf c i) i)=true then some ((0:Int),false) else g (if(pinOf c i).2.2.2=true then s+1 else s,((i+1:Nat):Int)):=by
    have j2:∀s',u218J2 (i:Int) g s'=g (s',((i+1:Nat):Int)):=fun s'=>gP ⟨oo,trivial⟩;show gd _ (if(!vl (u151 (pinOf c i).1)||!vl (u97 (pinOf c i).2.2.1 0 500))=true then _ else gd _ (if _=true then _ else if _=true then gd _ _ else _))=_;rw[r151 _ hs,r97,vS,vS,gP ⟨rfl,fun _=>rfl,trivial⟩,gP ⟨oo,fun _=>oo,trivial⟩,gP ⟨oo,trivial⟩,j2,j2];generalize pinOf c i=q;have hx:((i:Int)==(c.2.2.1.length:Int)-1)=decide (i+1=c.2.2.1.length):=by
     rw[Bool.eq_iff_iff,beq_iff_eq,dq]; omega
    have hy:decide ((i:Int) < (c.2.2.1.length:Int)-1)=!decide (i+1=c.2.2.1.length):=by
     rw[Bool.eq_iff_iff]; simp; omega
    rw[hx,hy];have hz:pinB c.2.2.1.length q i=(inB q.2.2.1 0 500&&(if decide (i+1=c.2.2.1.length)=true then q.2.1==2&&q.2.2.1==0&&!q.2.2.2 else q.2.1==1)):=by
     unfold pinB;by_cases hq:i+1=c.2.2.1.length
     ·rw[if_pos hq,decide_eq_true hq,if_pos rfl]
     ·rw[if_neg hq,decide_eq_false hq,if_neg (by simp)]
    rw[hz];have n1:(q.2.1 != 2)=!(q.2.1==2):=rfl;have n2:(q.2.2.1 != 0)=!(q.2.2.1==0):=rfl;have n3:(q.2.1 != 1)=!(q.2.1==1):=rfl;rw[n1,n2,n3];cases nmB q.1 <;> cases inB q.2.2.1 0 500 <;> cases decide (i+1=c.2.2.1.length) <;> cases q.2.1==2 <;> cases q.2.2.1==0 <;> cases q.2.1==1 <;> cases q.2.2.2 <;> rfl
   rw[j3];have hd:dupB (fun i=>(pinOf c i).1) i=(List.range i).any fun k=>decide ((pinOf c k).1=(pinOf c i).1):=rfl;rw[hd];cases nmB (pinOf c i).1 <;> cases pinB c.2.2.1.length (pinOf c i) i <;> cases(List.range i).any (fun k=>decide ((pinOf c k).1=(pinOf c i).1)) <;> rfl) (fun i s hi hI _=>by
   have hI':0<=s/\s<=(i:Int):=hI;show 0<=(if(pinOf c i).2.2.2=true then s+1 else s)/\(if(pinOf c i).2.2.2=true then s+1 else s)<=((i+1:Nat):Int);split <;> omega) (fun g s _=>aE) 0 oo
  refine key.trans ?_;rw[any_or];unfold pinsOk namesB;rw[decide_eq_true hr.1,decide_eq_true hr.2];cases(List.range c.2.2.1.length).any (fun i=>!nmB (pinOf c i).1||dupB (fun i=>(pinOf c i).1) i) <;> cases(List.range c.2.2.1.length).any (fun i=>!pinB c.2.2.1.length (pinOf c i) i) <;> rfl
 ·have e0:(decide ((c.2.2.1.length:Int)<2)||decide (5 < (c.2.2.1.length:Int)))=true:=by
   simp; omega
  have e1:¬pinsOk c.2.2.1.length (pinOf c)=true:=fun hc=>by
   obtain⟨h1,h2,_⟩:=pins_last hc;exact hr ⟨h1,h2⟩
  rw[if_pos e0,if_neg e1]
theorem r243(c:Y163)(hw:wf y163 c):u243 c=some (arcsB (isArcI c.2.2.1.length (pinOf c)) c.2.2.2.1.length (arcOf c)):=by
 have ha:=wf_arcs hw;have h:=ha.1;have hA:∀(xs:List Y143) (o:Y143),xs.length<=9223372036854775807->u260c261 xs o=some (xs.any fun x=>x.1==o.1&&x.2.1==o.2.1&&x.2.2.1==o.2.2.1):=fun xs o hx=>by
  have h1:u275c261 xs o=_:=idx_some hx (fun i=>(xs.getD i (dflt y143)).1==o.1&&(xs.getD i (dflt y143)).2.1==o.2.1&&(xs.getD i (dflt y143)).2.2.1==o.2.2.1) (fun g i hi=>idx_el hi hx rfl) (fun g=>aE);have h2:u260c261 xs o=_:=has_some h1;rw[any_getD xs (dflt y143) (fun x=>x.1==o.1&&x.2.1==o.2.1&&x.2.2.1==o.2.2.1)] at h2;exact h2
 have key:=lp_all (n:=c.2.2.2.1.length) h (fun i=>!isArcI c.2.2.1.length (pinOf c) (arcOf c i)||dupA (arcOf c) i) (some false) (e:=u243J0 c ()) (F:=u243L1 c) (fun g i hi=>by
  have e3:((i:Int)).toNat=i:=rfl;have hl:(c.2.2.2.1.take i).length<=9223372036854775807:=by rw[List.length_take]; omega
  have e1:=r259 c (arcOf c i) hw (wf_el hi ha);have e2:=hA (c.2.2.2.1.take i) (arcOf c i) hl;rw[take_anyG c.2.2.2.1 (dflt y143) _ i (by omega)] at e2;refine(if_pos (by simpa using hi)).trans ?_;rw[e3,gP ⟨oo,trivial⟩,lE,e1,e2,vS,vS,gP ⟨rfl,fun _=>⟨by omega,by omega,by omega⟩,fun _=>rfl,trivial⟩,gP ⟨oo,trivial⟩];rfl) (fun g=>aE)
 refine key.trans ?_;unfold arcsB u243J0;have e:decide ((c.2.2.2.1.length:Int)<=8)=decide (c.2.2.2.1.length<=8):=by rw[decide_eq_decide]; omega
 rw[e];cases(List.range c.2.2.2.1.length).any fun i=>!isArcI c.2.2.1.length (pinOf c) (arcOf c i)||dupA (arcOf c) i
 ·simp
 ·simp
theorem toNat_pred{n:Nat}(h:1<=n):((n:Int)-1).toNat=n-1:=by omega
theorem r244(c:Y163)(hw:wf y163 c)(h2:2<=c.2.2.1.length)(h5:c.2.2.1.length<=5):u244 c=some (kindB c.2.1 c.2.2.1.length (pinOf c) c.2.2.2.1.length (arcOf c) c.2.2.2.2.1):=by
 have hp:=wf_pins hw;have h:=hp.1;have ht:=hw.2.2.2.2.1.1;have key:=lF (n:=c.2.2.1.length) h (fun i (s:Int)=>(s,(i:Int))) (fun i s=>if(pinOf c i).2.2.2=true then s+1 else s) (fun i s=>0<=s/\s<=i) (J:=u244J0 c) (F:=u244L1 c) (fun g i s hi hI=>by
  have j2:∀s',u244J2 (i:Int) g s'=g (s',((i+1:Nat):Int)):=fun s'=>gP ⟨oo,trivial⟩;have e3:((i:Int)).toNat=i:=rfl;refine(if_pos (by simpa using hi)).trans ?_;rw[e3,gP ⟨oo,trivial⟩,lE,gP ⟨oo,trivial⟩,j2,j2];show(if(pinOf c i).2.2.2=true then _ else _)=g (if(pinOf c i).2.2.2=true then s+1 else s,_);split <;> rfl) (fun i s hi hI=>by
  have hI':0<=s/\s<=(i:Int):=hI;show 0<=(if(pinOf c i).2.2.2=true then s+1 else s)/\(if(pinOf c i).2.2.2=true then s+1 else s)<=((i+1:Nat):Int);split <;> omega) (fun g s _=>aE) 0 oo
 refine key.trans ?_;show u244J0 c (clkN c.2.2.1.length (pinOf c))=_;have hk:∀k0:Int,u244J0 c k0=some (if c.2.1=1 then k0==0&&(c.2.2.2.2.1.length:Int)==1*2 ^ (c.2.2.1.length-1)&&c.2.2.2.2.1.all (inB · 0 1)
  else if c.2.1=2 then k0==1&&(c.2.2.2.2.1.length:Int)==0&&!hasB c.2.2.2.1.length (arcOf c) 1&&!(hasB c.2.2.2.1.length (arcOf c) 2==hasB c.2.2.2.1.length (arcOf c) 3)
  else if c.2.1=3 then k0==1&&(c.2.2.2.2.1.length:Int)==0&&hasB c.2.2.2.1.length (arcOf c) 1&&hasB c.2.2.2.1.length (arcOf c) 2&&!hasB c.2.2.2.1.length (arcOf c) 3
  else false):=fun k0=>by
  rw[u244J0,r262 c hw,r173 _ _ _ ht,r263 c hw,r263 c hw,r263 c hw]
  repeat rw[vS]
  rw[toNat_pred (by omega)];by_cases k1:c.2.1=1
  ·rw[if_pos (beq_iff_eq.2 k1),if_pos k1,gP ⟨fun _=>rfl,fun _=>⟨by omega,pow_in h5⟩,fun _=>rfl,trivial⟩,lE,toNat_pred (by omega)]
  ·rw[if_neg (by simpa using k1),if_neg k1];by_cases k2:c.2.1=2
   ·rw[if_pos (beq_iff_eq.2 k2),if_pos k2,gP ⟨fun _=>rfl,fun _=>rfl,fun _=>rfl,trivial⟩]
   ·rw[if_neg (by simpa using k2),if_neg k2];by_cases k3:c.2.1=3
    ·rw[if_pos (beq_iff_eq.2 k3),if_pos k3,gP ⟨fun _=>rfl,fun _=>rfl,fun _=>rfl,trivial⟩]
    ·rw[if_neg (by simpa using k3),if_neg k3]
 exact hk (clkN c.2.2.1.length (pinOf c))
abbrev cellOk(q:Nat->(Nat->DPin)->DArc->Bool)(c:Y163):Bool:=cellB q c.1 c.2.1 c.2.2.1.length (pinOf c) c.2.2.2.1.length (arcOf c) c.2.2.2.2.1 c.2.2.2.2.2.1 c.2.2.2.2.2.2
theorem r212(c:Y163)(hw:wf y163 c)(hm:c.2.2.1.length<=1048576):u212 c=some (cellOk isArcS c):=by
 have hp:=wf_pins hw;show _=some (cellB isArcS _ _ _ _ _ _ _ _ _);rw[<- cell_eq];unfold u212 cellB;rw[r109 c.1 hw.1,r242 _ hp hm,r243 c hw,r150,r150]
 repeat rw[vS]
 cases hpo:pinsOk c.2.2.1.length (pinOf c) with
 | false =>
   rw[gP ⟨rfl,fun _=>rfl,fun hc=>by simp at hc,fun hc=>by simp at hc,fun hc=>by simp at hc,fun hc=>by simp at hc,trivial⟩];simp
 | true =>
   obtain⟨h2,h5,_⟩:=pins_last hpo;rw[r244 c hw h2 h5,vS,gP ⟨rfl,fun _=>rfl,fun _=>rfl,fun _=>rfl,fun _=>rfl,fun _=>rfl,trivial⟩]
theorem r220(c:Y163)(hw:wf y163 c)(h8:c.2.2.2.1.length<=8)(hk:∀i,i<c.2.2.2.1.length->1<=(arcOf c i).1/\(arcOf c i).1<=5):u220 c=some (fN (kindsF (arcOf c)) c.2.2.2.1.length (List.replicate 6 0)):=by
 have h:=(wf_arcs hw).1;unfold u220;rw[gP ⟨⟨by omega,rfl,by decide,by omega⟩,trivial⟩];have key:=lF (n:=c.2.2.2.1.length) h (fun i (v:List Int)=>((i:Int),v)) (kindsF (arcOf c)) (fun i v=>i<=c.2.2.2.1.length/\v=fN (kindsF (arcOf c)) i (List.replicate 6 0)) (J:=fun v=>some v) (F:=u220L1 c) (fun g i v hi hI=>by
  obtain⟨h1,h2⟩:=kinds_fold (arcOf c) i (fun j hj=>hk j (by omega));obtain⟨k1,k2⟩:=hk i hi;have hlen:v.length=6:=by rw[hI.2]; exact h1
  have hcnt:=h2 (arcOf c i).1.toNat (by omega);have hle:=cntK_le (arcOf c) ((arcOf c i).1.toNat:Int) i;rw[<- hI.2] at hcnt;have e3:((i:Int)).toNat=i:=rfl;refine(if_pos (by simpa using hi)).trans ?_;have hin:in64 (v.getD (arcOf c i).1.toNat 0+1):=by rw[hcnt]; exact oo
  have hix:ix (arcOf c i).1 v.length:=oo;have hlt:(arcOf c i).1.toNat<v.length:=by omega
  rw[e3,gP ⟨oo,hix,hlt,hin,hix,hlt,trivial⟩,lE,gP ⟨oo,trivial⟩];rfl) (fun i v hi hI=>⟨by omega,by rw[hI.2]; rfl⟩) (fun g s _=>aE) (List.replicate 6 0) ⟨by omega,rfl⟩
 exact key
theorem r186(c:Y163)(hw:wf y163 c):u186 c=some (cellOk isArcS c):=by
 have ha:=wf_arcs hw;have h:=ha.1;show _=some (cellB isArcS _ _ _ _ _ _ _ _ _);unfold u186 cellB;rw[r218 c hw,r151 c.1 hw.1,r97,r97]
 repeat rw[vS]
 rw[gP ⟨rfl,trivial⟩,lE,gP ⟨fun _=>rfl,fun _=>rfl,fun _=>rfl,trivial⟩];cases hpo:pinsOk c.2.2.1.length (pinOf c) with
 | false =>
   have e9:(if false=true then(clkN c.2.2.1.length (pinOf c),true) else((0:Int),false))=((0:Int),false):=rfl;rw[e9];refine(if_pos (by rfl)).trans ?_;simp
 | true =>
   obtain⟨h2,h5,_⟩:=pins_last hpo;have e9:(if true=true then(clkN c.2.2.1.length (pinOf c),true) else((0:Int),false))=(clkN c.2.2.1.length (pinOf c),true):=rfl;rw[e9];by_cases hgo:nmB c.1=true/\c.2.2.2.1.length<=8/\inB c.2.2.2.2.2.1 0 100000=true/\inB c.2.2.2.2.2.2 0 100000=true
   ·obtain⟨g1,g2,g3,g4⟩:=hgo;have e0:decide (8 < (c.2.2.2.1.length:Int))=false:=decide_eq_false (by omega);rw[g1,e0,g3,g4];refine(if_neg (by simp)).trans ?_;have key:=lp_all (n:=c.2.2.2.1.length) h (fun i=>!isArcS c.2.2.1.length (pinOf c) (arcOf c i)||dupA (arcOf c) i) (some false) (e:=u186J0 c (clkN c.2.2.1.length (pinOf c),true) ()) (F:=u186L1 c (clkN c.2.2.1.length (pinOf c),true)) (fun g i hi=>by
     have e3:((i:Int)).toNat=i:=rfl;have e1:=r219 c (arcOf c i) hw (wf_el hi ha);have inner:=lp_all (n:=i) (by omega) (fun k=>(arcOf c k).1==(arcOf c i).1&&(arcOf c k).2.1==(arcOf c i).2.1&&(arcOf c k).2.2.1==(arcOf c i).2.2.1) (some false) (e:=g ((i:Int)+1)) (F:=u186L3 c (arcOf c i) (i:Int) g) (fun g3 k hk=>all_el hk (by omega) ⟨oo,fun _=>oo,fun _=>oo,trivial⟩) (fun g3=>by
      refine aE.trans ?_;exact gP ⟨oo,trivial⟩)
     refine(if_pos (by simpa using hi)).trans ?_;rw[e3,gP ⟨oo,trivial⟩,lE,e1,vS,gP ⟨rfl,trivial⟩,inner];unfold dupA;cases isArcS c.2.2.1.length (pinOf c) (arcOf c i) <;> cases(List.range i).any (fun k=>(arcOf c k).1==(arcOf c i).1&&(arcOf c k).2.1==(arcOf c i).2.1&&(arcOf c k).2.2.1==(arcOf c i).2.2.1) <;> rfl) (fun g=>aE)
    refine key.trans ?_;unfold arcsB;rw[decide_eq_true g2];cases hany:(List.range c.2.2.2.1.length).any fun i=>!isArcS c.2.2.1.length (pinOf c) (arcOf c i)||dupA (arcOf c) i with
    | true=>simp
    | false =>
      rw[if_neg (by simp)];have hall:∀i,i<c.2.2.2.1.length->isArcS c.2.2.1.length (pinOf c) (arcOf c i)=true:=fun i hi=>by
       have:=(not_any (n:=c.2.2.2.1.length)).1 (by rw[hany]; rfl) i hi;rw[Bool.or_eq_false_iff,Bool.not_eq_false'] at this;exact this.1
      have hkin:=r220 c hw g2 (fun i hi=>arcS_kind (hall i hi));obtain⟨n6,ncnt⟩:=kinds_fold (arcOf c) c.2.2.2.1.length (fun i hi=>arcS_kind (hall i hi));have c1:=ncnt 1 (by omega);have c2:=ncnt 2 (by omega);have c3:=ncnt 3 (by omega);rw[u186J0,hkin,vS,gP ⟨rfl,trivial⟩,lE];generalize fN (kindsF (arcOf c)) c.2.2.2.1.length (List.replicate 6 0)=v at *
      have q1:((v.getD 1 0)==(0:Int))=!hasB c.2.2.2.1.length (arcOf c) 1:=by
       rw[c1,cntK_has];have:=(cntK_le (arcOf c) 1 c.2.2.2.1.length).1;rw[Bool.eq_iff_iff]; simp; omega
      have q1':decide (0<v.getD 1 0)=hasB c.2.2.2.1.length (arcOf c) 1:=by rw[c1,cntK_has]; rfl
      have q2:decide (0<v.getD 2 0)=hasB c.2.2.2.1.length (arcOf c) 2:=by rw[c2,cntK_has]; rfl
      have q3:decide (0<v.getD 3 0)=hasB c.2.2.2.1.length (arcOf c) 3:=by rw[c3,cntK_has]; rfl
      have q3':((v.getD 3 0)==(0:Int))=!hasB c.2.2.2.1.length (arcOf c) 3:=by
       rw[c3,cntK_has];have:=(cntK_le (arcOf c) 3 c.2.2.2.1.length).1;rw[Bool.eq_iff_iff]; simp; omega
      have i1:ix (1:Int) v.length:=oo;have i2:ix (2:Int) v.length:=oo;have i3:ix (3:Int) v.length:=oo;have n1:Int.toNat (1:Int)<v.length:=by rw[n6]; decide
      have n2:Int.toNat (2:Int)<v.length:=by rw[n6]; decide
      have n3:Int.toNat (3:Int)<v.length:=by rw[n6]; decide
      unfold kindB;by_cases k1:c.2.1=1
      ·rw[if_pos (beq_iff_eq.2 k1),if_pos k1];have ht:=hw.2.2.2.2.1.1;have key2:=lp_all (n:=c.2.2.2.2.1.length) ht (fun i=>!inB (c.2.2.2.2.1.getD i 0) 0 1) (some false) (e:=u186J5 (clkN c.2.2.1.length (pinOf c),true) c ()) (F:=u186L6 c (clkN c.2.2.1.length (pinOf c),true)) (fun g i hi=>all_el hi ht ⟨oo,rfl,trivial⟩) (fun g=>aE);refine key2.trans ?_;rw[any_getD c.2.2.2.2.1 0 (fun x=>!inB x 0 1),<- all_any];have e5:u186J5 (clkN c.2.2.1.length (pinOf c),true) c ()=some (clkN c.2.2.1.length (pinOf c)==0&&(c.2.2.2.2.1.length:Int)==1*2 ^ (c.2.2.1.length-1)):=by
        rw[u186J5,toNat_pred (by omega),gP ⟨fun _=>oo,fun _=>oo,fun _=>⟨by omega,pow_in h5⟩,trivial⟩]
       rw[e5];cases c.2.2.2.2.1.any fun x=>!inB x 0 1 <;> simp
      ·rw[if_neg (by simpa using k1),if_neg k1];by_cases k2:c.2.1=2
       ·rw[if_pos (beq_iff_eq.2 k2),if_pos k2,gP ⟨fun _=>i1,fun _=>n1,fun _=>i2,fun _=>n2,fun _=>i3,fun _=>n3,trivial⟩];have w1:Int.toNat (1:Int)=1:=rfl;have w2:Int.toNat (2:Int)=2:=rfl;have w3:Int.toNat (3:Int)=3:=rfl;rw[w1,w2,w3,q1,q2,q3];cases clkN c.2.2.1.length (pinOf c)==1 <;> cases(c.2.2.2.2.1.length:Int)==0 <;> cases hasB c.2.2.2.1.length (arcOf c) 1 <;> cases hasB c.2.2.2.1.length (arcOf c) 2 <;> cases hasB c.2.2.2.1.length (arcOf c) 3 <;> rfl
       ·rw[if_neg (by simpa using k2),if_neg k2];by_cases k3:c.2.1=3
        ·rw[if_pos (beq_iff_eq.2 k3),if_pos k3,gP ⟨fun _=>i1,fun _=>n1,fun _=>i2,fun _=>n2,fun _=>i3,fun _=>n3,trivial⟩];have w1:Int.toNat (1:Int)=1:=rfl;have w2:Int.toNat (2:Int)=2:=rfl;have w3:Int.toNat (3:Int)=3:=rfl;rw[w1,w2,w3,q1',q2,q3'];cases clkN c.2.2.1.length (pinOf c)==1 <;> cases(c.2.2.2.2.1.length:Int)==0 <;> cases hasB c.2.2.2.1.length (arcOf c) 1 <;> cases hasB c.2.2.2.1.length (arcOf c) 2 <;> cases hasB c.2.2.2.1.length (arcOf c) 3 <;> rfl
        ·rw[if_neg (by simpa using k3),if_neg k3];rfl
   ·have e0:(!nmB c.1||decide (8 < (c.2.2.2.1.length:Int))||!inB c.2.2.2.2.2.1 0 100000||!inB c.2.2.2.2.2.2 0 100000)=true:=by
     rw[<- Bool.not_eq_false];intro hc;simp only[Bool.or_eq_false_iff,Bool.not_eq_false',decide_eq_false_iff_not] at hc;exact hgo ⟨hc.1.1.1,by omega,hc.1.2,hc.2⟩
    refine(if_pos (by simpa using e0)).trans ?_;have e1:¬(nmB c.1=true/\decide (c.2.2.2.1.length<=8)=true/\inB c.2.2.2.2.2.1 0 100000=true/\inB c.2.2.2.2.2.2 0 100000=true):=fun hc=>hgo ⟨hc.1,by simpa using hc.2.1,hc.2.2⟩;refine congrArg some ?_;unfold arcsB
    symm
    rw[<- Bool.not_eq_true];intro hc;simp only[ba] at hc;exact e1 ⟨hc.1.1.1.1.1,hc.1.1.1.2.1,hc.1.1.2,hc.1.2⟩
abbrev celOf(l:List Y163)(i:Nat):Y163:=l.getD i (dflt y163)
abbrev libOk(l:List Y163):Bool:=libB l.length (fun i=>cellOk isArcS (celOf l i)) (fun i=>(celOf l i).1)
theorem cell_name{c:Y163}(h:cellOk isArcS c=true):nmB c.1=true:=by
 have h:cellB isArcS _ _ _ _ _ _ _ _ _=true:=h;unfold cellB at h;simp only[ba] at h;exact h.1.1.1.1.1
theorem r175(l:List Y163)(hw:wf (.sl y163) l)(hm:cnt (.sl y163) l<=1048576):u175 l=some (libOk l):=by
 have h:=hw.1;have hl:=cnt_len hm;have key:=lp_foldE (n:=l.length) h (fun i (s:List ByteArray)=>(s,(i:Int))) (gath fun i=>(celOf l i).1) (fun i=>!cellOk isArcS (celOf l i)) (some false) (fun i s=>s.length=i) (J:=u175J0 l) (F:=u175L1 l) (fun g i s hi hI=>by
  have e3:((i:Int)).toNat=i:=rfl;have hc:cnt y163 (celOf l i)<=1048576:=cnt_el hi hm;have hp:(celOf l i).2.2.1.length<=1048576:=cnt_len (cF (cS (cS hc)));have e1:=r212 (celOf l i) (wf_el hi hw) hp;have ha:=app_ok (b:=16) hi hl (by decide);refine(if_pos (by simpa using hi)).trans ?_;rw[e3,gP ⟨oo,trivial⟩,lE,e1,vS,gP ⟨rfl,trivial⟩,gP ⟨⟨by show s.length+1<=_; omega,by show(s.length+1)*16<=_; omega⟩,trivial⟩,gP ⟨oo,trivial⟩];rfl) (fun i s hi hI _=>by unfold gath; rw[List.length_append,hI]; rfl) (fun g s _=>aE) [] rfl
 refine key.trans ?_;rw[gath_row l (dflt y163) (fun c:Y163=>c.1)];have hn:wf (.sl .str) (l.map fun c:Y163=>c.1):=wf_map h fun x hx=>(hw.2 x hx).1;have e7:∀v:List ByteArray,wf (.sl .str) v->u175J0 l v=some (decide (l.length<=8)&&namesB v.length fun i=>v.getD i (dflt .str)):=fun v hv=>by
  have e8:decide ((l.length:Int)<=8)=decide (l.length<=8):=by rw[decide_eq_decide]; omega
  rw[u175J0,r213 _ hv,vS,gP ⟨fun _=>rfl,trivial⟩,e8]
 rw[e7 _ hn,names_map l (fun c:Y163=>c.1) (dflt y163)];show _=some (libB _ _ _);rw[<- lib_eq (fun i _ hc=>cell_name hc)];split <;> rfl
theorem r132(l:List Y163)(hw:wf (.sl y163) l):u132 l=some (libOk l):=by
 have h:=hw.1;have key:=lp_all (n:=l.length) h (fun i=>!cellOk isArcS (celOf l i)||dupB (fun i=>(celOf l i).1) i) (some false) (e:=u132J0 l ()) (F:=u132L1 l) (fun g i hi=>by
  have e3:((i:Int)).toNat=i:=rfl;have e1:=r186 (celOf l i) (wf_el hi hw);have inner:=lp_all (n:=i) (by omega) (fun k=>decide ((celOf l k).1=(celOf l i).1)) (some false) (e:=g ((i:Int)+1)) (F:=u132L3 l (i:Int) g) (fun g3 k hk=>all_el hk (by omega) ⟨oo,oo,trivial⟩) (fun g3=>by
   refine aE.trans ?_;exact gP ⟨oo,trivial⟩)
  refine(if_pos (by simpa using hi)).trans ?_;rw[e3,e1,vS,gP ⟨oo,rfl,trivial⟩,inner];unfold dupB;cases cellOk isArcS (celOf l i) <;> cases(List.range i).any (fun k=>decide ((celOf l k).1=(celOf l i).1)) <;> rfl) (fun g=>aE)
 refine key.trans ?_;show _=some (libB _ _ _);unfold libB u132J0;have e8:decide ((l.length:Int)<=8)=decide (l.length<=8):=by rw[decide_eq_decide]; omega
 rw[e8];cases(List.range l.length).any (fun i=>!cellOk isArcS (celOf l i)||dupB (fun i=>(celOf l i).1) i) <;> rfl
abbrev insOf(d:Y31)(i:Nat):Y165:=d.1.getD i (dflt y165)
abbrev prtOf(d:Y31)(i:Nat):Y175:=d.2.2.getD i (dflt y175)
abbrev pinsAt(l:List Y163)(x:Int):Nat:=(l.getD x.toNat (dflt y163)).2.2.1.length
abbrev designOk(l:List Y163)(d:Y31):Bool:=designB (libOk l) l.length (pinsAt l) d.1.length d.2.2.length d.2.1.length (insOf d) (prtOf d) (fun i=>d.2.1.getD i (dflt .str))
theorem r178(d:Y31)(hw:wf y31 d)(x:Int):u178 d x=some (inB x 0 ((d.2.1.length:Int)-1)):=by
 have h:=hw.2.1.1;have e:u216 d.2.1=some (d.2.1.length:Int):=rfl;unfold u178;rw[e]
 repeat rw[vS]
 rw[r150,vS,gP ⟨rfl,oo,rfl,trivial⟩]
theorem r177(d:Y31)(l:List Y163)(x:Y165)(hd:wf y31 d)(hl:wf (.sl y163) l)(hx:wf y165 x):u177 d l x=some (instB l.length (pinsAt l) d.2.1.length x):=by
 have h:=hl.1;have hn:=hx.2.2.1;have e:u214 l=some (l.length:Int):=rfl;have e1:∀y,u215 y d=some (!inB y 0 ((d.2.1.length:Int)-1)):=fun y=>by
  unfold u215;rw[r178 d hd,gP ⟨rfl,trivial⟩,vS]
 have h1:u241c215 x.2.2 d=_:=idx_some hn (fun i=>!inB (x.2.2.getD i 0) 0 ((d.2.1.length:Int)-1)) (fun g i hi=>idx_el hi hn (e1 _)) (fun g=>aE);have h2:u210c215 x.2.2 d=_:=has_some h1;rw[any_getD x.2.2 0 (fun y=>!inB y 0 ((d.2.1.length:Int)-1))] at h2;unfold u177;rw[e,h2]
 repeat rw[vS]
 rw[r150,vS,gP ⟨rfl,oo,rfl,fun hc=>by
  have:=inB_iff.1 hc.1;exact oo,fun _=>rfl,trivial⟩,all_any]
 rfl
theorem r176(d:Y31)(hw:wf y31 d)(hm:cnt y31 d<=1048576):u176 d=some (decide (d.1.length<=14)&&decide (d.2.1.length<=30)&&decide (d.2.2.length<=8)&&namesB d.1.length (fun i=>(insOf d i).1)&&namesB d.2.1.length (fun i=>d.2.1.getD i (dflt .str))&&namesB d.2.2.length (fun i=>(prtOf d i).1)):=by
 have hi0:=hw.1.1;have hp0:=hw.2.2.1;have hil:d.1.length<=1048576:=cnt_len (cF hm);have hpl:d.2.2.length<=1048576:=cnt_len (cS (cS hm));have key:=lF (n:=d.1.length) hi0 (fun i (s:List ByteArray)=>(s,(i:Int))) (gath fun i=>(insOf d i).1) (fun i s=>s.length=i) (J:=u176J0 d) (F:=u176L1 d) (fun g i s hi hI=>by
  have e3:((i:Int)).toNat=i:=rfl;have ha:=app_ok (b:=16) hi hil (by decide);refine(if_pos (by simpa using hi)).trans ?_;rw[e3,gP ⟨oo,trivial⟩,lE,gP ⟨⟨by show s.length+1<=_; omega,by show(s.length+1)*16<=_; omega⟩,trivial⟩,gP ⟨oo,trivial⟩];rfl) (fun i s hi hI=>by unfold gath; rw[List.length_append,hI]; rfl) (fun g s _=>aE) [] rfl
 refine key.trans ?_;rw[gath_row d.1 (dflt y165) (fun c:Y165=>c.1)];have hn1:wf (.sl .str) (d.1.map fun c:Y165=>c.1):=wf_map hi0 fun x hx=>(hw.1.2 x hx).1;have hn2:wf (.sl .str) (d.2.2.map fun c:Y175=>c.1):=wf_map hp0 fun x hx=>(hw.2.2.2 x hx).1;have e7:∀v:List ByteArray,wf (.sl .str) v->v.length=d.1.length->u176J0 d v=some (decide (d.1.length<=14)&&decide (d.2.1.length<=30)&&decide (d.2.2.length<=8)&&(namesB v.length fun i=>v.getD i (dflt .str))&&namesB d.2.1.length (fun i=>d.2.1.getD i (dflt .str))&&namesB d.2.2.length (fun i=>(prtOf d i).1)):=fun v hv hvl=>by
  rw[u176J0];have key2:=lF (n:=d.2.2.length) hp0 (fun i (s:List ByteArray)=>(s,(i:Int))) (gath fun i=>(prtOf d i).1) (fun i s=>s.length=i) (J:=u176J2 v d) (F:=u176L3 d v) (fun g i s hi hI=>by
   have e3:((i:Int)).toNat=i:=rfl;have ha:=app_ok (b:=16) hi hpl (by decide);refine(if_pos (by simpa using hi)).trans ?_;rw[e3,gP ⟨oo,trivial⟩,lE,gP ⟨⟨by show s.length+1<=_; omega,by show(s.length+1)*16<=_; omega⟩,trivial⟩,gP ⟨oo,trivial⟩];rfl) (fun i s hi hI=>by unfold gath; rw[List.length_append,hI]; rfl) (fun g s _=>aE) [] rfl
  refine key2.trans ?_;rw[gath_row d.2.2 (dflt y175) (fun c:Y175=>c.1)];have e9:∀z:List ByteArray,wf (.sl .str) z->z.length=d.2.2.length->u176J2 v d z=some (decide (d.1.length<=14)&&decide (d.2.1.length<=30)&&decide (d.2.2.length<=8)&&(namesB v.length fun i=>v.getD i (dflt .str))&&namesB d.2.1.length (fun i=>d.2.1.getD i (dflt .str))&&namesB z.length (fun i=>z.getD i (dflt .str))):=fun z hz hzl=>by
   have a1:decide ((v.length:Int)<=14)=decide (d.1.length<=14):=by rw[decide_eq_decide]; omega
   have a2:decide ((d.2.1.length:Int)<=30)=decide (d.2.1.length<=30):=by rw[decide_eq_decide]; omega
   have a3:decide ((z.length:Int)<=8)=decide (d.2.2.length<=8):=by rw[decide_eq_decide]; omega
   rw[u176J2,r213 _ hv,r213 _ hz,r213 _ hw.2.1,vS,vS,vS,gP ⟨fun _=>rfl,fun _=>rfl,fun _=>rfl,trivial⟩,a1,a2,a3]
  rw[e9 _ hn2 (List.length_map _),names_map d.2.2 (fun c:Y175=>c.1) (dflt y175)]
 rw[e7 _ hn1 (List.length_map _),names_map d.1 (fun c:Y165=>c.1) (dflt y165)]
theorem lib_pins{l:List Y163}(h:libOk l=true){x:Int}(hx:inB x 0 ((l.length:Int)-1)=true):2<=pinsAt l x/\pinsAt l x<=5:=by
 have h:libB _ _ _=true:=h;unfold libB at h;rw[ba] at h;rw[inB_iff] at hx;have:=not_any.1 h.1 x.toNat (by omega);rw[Bool.or_eq_false_iff,Bool.not_eq_false'] at this;have hc:cellB isArcS _ _ _ _ _ _ _ _ _=true:=this.1;unfold cellB at hc;simp only[ba] at hc;have:=pins_last hc.1.1.1.1.2;exact⟨this.1,this.2.1⟩
theorem inst_nets{nc nn:Nat}{pins:Int->Nat}{x:DInst}(h:instB nc pins nn x=true)(hp:∀y,inB y 0 ((nc:Int)-1)=true->2<=pins y):1<=x.2.2.length/\inB (x.2.2.getD (x.2.2.length-1) 0) 0 ((nn:Int)-1)=true:=by
 unfold instB at h;simp only[ba,beq_iff_eq] at h;have h2:=hp _ h.1.1;have h3:1<=x.2.2.length:=by omega
 refine⟨h3,?_⟩;rw[gq,List.getElem?_eq_getElem (by omega)];exact List.all_eq_true.1 h.2 _ (List.getElem_mem _)
theorem r133(l:List Y163)(d:Y31)(hl:wf (.sl y163) l)(hd:wf y31 d):u133 l d=some (!((List.range d.1.length).any fun i=>!instB l.length (pinsAt l) d.2.1.length (insOf d i))&&!((List.range d.2.2.length).any fun i=>!portB d.2.1.length (prtOf d i))):=by
 have h:=hl.1;have hi0:=hd.1.1;have hp0:=hd.2.2.1;have hn0:=hd.2.1.1;have kj:u133J0 d ()=some (!((List.range d.2.2.length).any fun i=>!portB d.2.1.length (prtOf d i))):=by
  have key:=lp_all (n:=d.2.2.length) hp0 (fun i=>!portB d.2.1.length (prtOf d i)) (some false) (e:=some true) (F:=u133L5 d) (fun g i hi=>by
   have e3:((i:Int)).toNat=i:=rfl;refine(if_pos (by simpa using hi)).trans ?_;rw[e3,r97,r97,vS,vS,gP ⟨oo,rfl,fun _=>oo,fun _=>oo,fun _=>rfl,trivial⟩,gP ⟨oo,trivial⟩];unfold portB;rw[Bool.not_and]) (fun g=>aE)
  refine key.trans ?_;cases(List.range d.2.2.length).any fun i=>!portB d.2.1.length (prtOf d i) <;> rfl
 have key:=lp_all (n:=d.1.length) hi0 (fun i=>!instB l.length (pinsAt l) d.2.1.length (insOf d i)) (some false) (e:=u133J0 d ()) (F:=u133L1 d l) (fun g i hi=>by
  have e3:((i:Int)).toNat=i:=rfl;have hx:=wf_el (d:=dflt y165) hi hd.1;have hn:=hx.2.2.1;refine(if_pos (by simpa using hi)).trans ?_;rw[e3,gP ⟨oo,trivial⟩,lE,r97,vS,gP ⟨oo,rfl,fun hc=>by
   have:=hc.1;rw[Bool.not_eq_false'] at this;have:=inB_iff.1 this;exact oo,trivial⟩]
  have inner:=lp_all (n:=(insOf d i).2.2.length) hn (fun k=>!inB ((insOf d i).2.2.getD k 0) 0 ((d.2.1.length:Int)-1)) (some false) (e:=g ((i:Int)+1)) (F:=u133L3 (insOf d i) d (i:Int) g) (fun g3 k hk=>by
   refine(all_el hk hn ⟨oo,oo,rfl,trivial⟩).trans ?_;rfl) (fun g3=>by
   refine aE.trans ?_;exact gP ⟨oo,trivial⟩)
  rw[any_getD (insOf d i).2.2 0 (fun y=>!inB y 0 ((d.2.1.length:Int)-1))] at inner;rw[inner];unfold instB;rw[<- all_any];have n1:((((insOf d i).2.2.length:Nat):Int) != ((pinsAt l (insOf d i).2.1:Nat):Int))=!((((insOf d i).2.2.length:Nat):Int)==((pinsAt l (insOf d i).2.1:Nat):Int)):=rfl;show(if(!inB (insOf d i).2.1 0 ((l.length:Int)-1)||(((insOf d i).2.2.length:Nat):Int) != ((pinsAt l (insOf d i).2.1:Nat):Int))=true then some false else if((insOf d i).2.2.any fun y=>!inB y 0 ((d.2.1.length:Int)-1))=true then some false else g ((i:Int)+1))=_;rw[n1];cases inB (insOf d i).2.1 0 ((l.length:Int)-1) <;> cases((((insOf d i).2.2.length:Nat):Int)==((pinsAt l (insOf d i).2.1:Nat):Int)) <;> cases((insOf d i).2.2.any fun y=>!inB y 0 ((d.2.1.length:Int)-1)) <;> rfl) (fun g=>aE)
 refine key.trans ?_;rw[kj];cases(List.range d.1.length).any fun i=>!instB l.length (pinsAt l) d.2.1.length (insOf d i) <;> rfl
theorem ones_any(v:List Int):(!v.any fun x=>x != 1)=v.all (·==1):=all_any v (fun x=>x==1)
theorem rep_ok{n b:Nat}(h:n<=1048576)(hb:b<=4096):(0<=(n:Int)/\(n:Int)=(n:Int)/\(n:Int).toNat*b<=281474976710656/\(n:Int)<=9223372036854775807)/\True:=by
 have hm:n*b<=1048576*4096:=Nat.mul_le_mul h hb;exact⟨⟨by omega,rfl,by rw[Int.toNat_natCast]; omega,by omega⟩,trivial⟩
theorem inc_ok{v:List Int}{n b:Nat}{x:Int}(h:lowAt v n b)(hb:b<=2097152)(hx:inB x 0 ((n:Int)-1)=true):ix x v.length/\x.toNat<v.length/\in64 (v.getD x.toNat 0+1)/\ix x v.length/\x.toNat<v.length/\True:=by
 obtain⟨h1,h2⟩:=lowAt_ix h hx;have:=h.2 x.toNat;exact⟨h1,h2,oo,h1,h2,trivial⟩
theorem pred_ok{n:Nat}(h1:1<=n)(h:n<=9223372036854775807):in64 ((n:Int)-1)/\ix ((n:Int)-1) n:=⟨oo,oo⟩
theorem r126(l:List Y163)(d:Y31)(hl:wf (.sl y163) l)(hd:wf y31 d)(ml:cnt (.sl y163) l<=1048576)(md:cnt y31 d<=1048576):u126 l d=some (designOk l d):=by
 have hi0:=hd.1.1;have hp0:=hd.2.2.1;have mi:d.1.length<=1048576:=cnt_len (cF md);have mn:d.2.1.length<=1048576:=cnt_len (cF (cS md));have mp:d.2.2.length<=1048576:=cnt_len (cS (cS md));show _=some (designB _ _ _ _ _ _ _ _ _);unfold u126 designB;rw[r175 l hl ml,r176 d hd md,vS,vS,gP ⟨rfl,fun _=>rfl,trivial⟩];cases hlo:libOk l with
 | false=>exact if_pos rfl
 | true =>
   rw[Bool.true_and];cases hno:(decide (d.1.length<=14)&&decide (d.2.1.length<=30)&&decide (d.2.2.length<=8)&&namesB d.1.length (fun i=>(insOf d i).1)&&namesB d.2.1.length (fun i=>d.2.1.getD i (dflt .str))&&namesB d.2.2.length (fun i=>(prtOf d i).1)) with
   | false=>exact if_pos rfl
   | true =>
     refine(if_neg (by simp)).trans ?_;rw[gP (rep_ok mn (by decide)),Int.toNat_natCast];have hpin:∀y,inB y 0 ((l.length:Int)-1)=true->2<=pinsAt l y:=fun y hy=>(lib_pins hlo hy).1;have key:=lp_foldE (n:=d.1.length) hi0 (fun i (v:List Int)=>((i:Int),v)) (instF (insOf d)) (fun i=>!instB l.length (pinsAt l) d.2.1.length (insOf d i)) (some false) (fun i v=>i<=d.1.length/\lowAt v d.2.1.length i) (J:=u126J0 d) (F:=u126L1 d l) (fun g i v hi hI=>by
      have e3:((i:Int)).toNat=i:=rfl;have hx:=wf_el (d:=dflt y165) hi hd.1;refine(if_pos (by simpa using hi)).trans ?_;rw[e3,gP ⟨oo,trivial⟩,lE,r177 d l _ hd hl hx,vS,gP ⟨rfl,trivial⟩];cases hin:instB l.length (pinsAt l) d.2.1.length (insOf d i) with
      | false=>rfl
      | true =>
        obtain⟨g1,g2⟩:=inst_nets hin hpin;have hlen:(insOf d i).2.2.length<=9223372036854775807:=hx.2.2.1;refine(if_neg (by simp)).trans ?_;rw[toNat_pred g1,gP ⟨(pred_ok g1 hlen).1,(pred_ok g1 hlen).2,inc_ok hI.2 (by omega) g2⟩,lE,gP ⟨oo,trivial⟩];rfl) (fun i v hi hI _=>⟨by omega,lowAt_inc hI.2 _⟩) (fun g v _=>aE) (List.replicate d.2.1.length 0) ⟨by omega,lowAt_rep _ _⟩
     refine key.trans ?_;cases hia:(List.range d.1.length).any fun i=>!instB l.length (pinsAt l) d.2.1.length (insOf d i) with
     | true=>simp
     | false =>
       refine(if_neg (by simp)).trans ?_;have hlow:=instF_low (insOf d) d.2.1.length d.1.length;unfold driveN;generalize fN (instF (insOf d)) d.1.length (List.replicate d.2.1.length 0)=v0 at *
       rw[u126J0];have key2:=lp_foldE (n:=d.2.2.length) hp0 (fun i (v:List Int)=>((i:Int),v)) (portF (prtOf d)) (fun i=>!portB d.2.1.length (prtOf d i)) (some false) (fun i v=>i<=d.2.2.length/\lowAt v d.2.1.length (d.1.length+i)) (J:=u126J2) (F:=u126L3 d) (fun g i v hi hI=>by
        have e3:((i:Int)).toNat=i:=rfl;have j4:∀v',u126J4 (i:Int) g v'=g (((i+1:Nat):Int),v'):=fun v'=>gP ⟨oo,trivial⟩;refine(if_pos (by simpa using hi)).trans ?_;rw[e3,gP ⟨oo,trivial⟩,lE,r178 d hd,vS,gP ⟨fun _=>rfl,trivial⟩,j4,j4];have e5:((prtOf d i).2.1 != 1&&(prtOf d i).2.1 != 2||!inB (prtOf d i).2.2 0 ((d.2.1.length:Int)-1))=!portB d.2.1.length (prtOf d i):=by
         unfold portB;rw[Bool.not_and];congr 1;rw[Bool.eq_iff_iff];simp only[ba,bne_iff_ne,Bool.not_eq_true',<- Bool.not_eq_true,inB_iff];omega
        show(if((prtOf d i).2.1 != 1&&(prtOf d i).2.1 != 2||!inB (prtOf d i).2.2 0 ((d.2.1.length:Int)-1))=true then some false else _)=_;rw[e5];cases hpo:portB d.2.1.length (prtOf d i) with
        | false=>rfl
        | true =>
          have hnet:inB (prtOf d i).2.2 0 ((d.2.1.length:Int)-1)=true:=by
           unfold portB at hpo;rw[ba] at hpo;exact hpo.2
          refine(if_neg (by simp)).trans ?_;show _=g (_,portF (prtOf d) i v);unfold portF;by_cases k1:(prtOf d i).2.1=1
          ·rw[if_pos (beq_iff_eq.2 k1),if_pos k1];exact gP (inc_ok hI.2 (by omega) hnet)
          ·rw[if_neg (by simpa using k1),if_neg k1]) (fun i v hi hI _=>⟨by omega,by
          unfold portF;split
          ·exact lowAt_inc hI.2 _
          ·exact lowAt_up hI.2 (by omega)⟩) (fun g v _=>aE) v0 ⟨by omega,hlow⟩
       refine key2.trans ?_;cases hpa:(List.range d.2.2.length).any fun i=>!portB d.2.1.length (prtOf d i) with
       | true=>simp
       | false =>
         refine(if_neg (by simp)).trans ?_;have hv:∀v:List Int,v.length<=9223372036854775807->u126J2 v=some (v.all (·==1)):=fun v hv=>by
          have h1:u217c180 v=_:=idx_some hv (fun i=>v.getD i 0 != 1) (fun g i hi=>idx_el hi hv rfl) (fun g=>aE);have h2:u179c180 v=_:=has_some h1;rw[any_getD v 0 (fun x=>x != 1)] at h2;rw[u126J2,h2,vS,gP ⟨rfl,trivial⟩,ones_any]
         have hlen:(fN (portF (prtOf d)) d.2.2.length v0).length<=9223372036854775807:=by
          have:∀n,(fN (portF (prtOf d)) n v0).length=v0.length:=by
           intro n
           induction n with
           | zero=>rfl
           | succ n ih =>
             rw[fN];unfold portF;split
             ·unfold incAt; rw[List.length_set]; exact ih
             ·exact ih
          rw[this,hlow.1]; omega
         rw[hv _ hlen];rfl
theorem r69(l:List Y163)(d:Y31)(hl:wf (.sl y163) l)(hd:wf y31 d)(md:cnt y31 d<=1048576):u69 l d=some (designOk l d):=by
 have hi0:=hd.1.1;have hp0:=hd.2.2.1;have mi:d.1.length<=1048576:=cnt_len (cF md);have mn:d.2.1.length<=1048576:=cnt_len (cF (cS md));have mp:d.2.2.length<=1048576:=cnt_len (cS (cS md));show _=some (designB _ _ _ _ _ _ _ _ _);unfold u69;rw[r132 l hl,r133 l d hl hd,vS,vS,gP ⟨rfl,fun _=>rfl,trivial⟩];by_cases hgo:libOk l=true/\d.1.length<=14/\d.2.1.length<=30/\d.2.2.length<=8/\((List.range d.1.length).any fun i=>!instB l.length (pinsAt l) d.2.1.length (insOf d i))=false/\((List.range d.2.2.length).any fun i=>!portB d.2.1.length (prtOf d i))=false
 ·obtain⟨hlo,h14,h30,h8,hia,hpa⟩:=hgo;have a1:decide (14 < (d.1.length:Int))=false:=decide_eq_false (by omega);have a2:decide (30 < (d.2.1.length:Int))=false:=decide_eq_false (by omega);have a3:decide (8 < (d.2.2.length:Int))=false:=decide_eq_false (by omega);rw[hlo,a1,a2,a3,hia,hpa];refine(if_neg (by simp)).trans ?_;have hpin:∀y,inB y 0 ((l.length:Int)-1)=true->2<=pinsAt l y:=fun y hy=>(lib_pins hlo hy).1;have hall:∀i,i<d.1.length->instB l.length (pinsAt l) d.2.1.length (insOf d i)=true:=fun i hi=>by
   have:=(not_any (n:=d.1.length) (c:=fun i=>!instB l.length (pinsAt l) d.2.1.length (insOf d i))).1 (by rw[hia]; rfl) i hi
   rwa [Bool.not_eq_false'] at this
  have hpall:∀i,i<d.2.2.length->portB d.2.1.length (prtOf d i)=true:=fun i hi=>by
   have:=(not_any (n:=d.2.2.length) (c:=fun i=>!portB d.2.1.length (prtOf d i))).1 (by rw[hpa]; rfl) i hi
   rwa [Bool.not_eq_false'] at this
  have k10:∀v:List Int,v.length<=9223372036854775807->u69J6 v=some (v.all (·==1)):=fun v hv=>by
   rw[u69J6];have key:=lp_all (n:=v.length) hv (fun i=>v.getD i 0 != 1) (some false) (e:=some true) (F:=u69L10 v) (fun g i hi=>by
    refine(all_el hi hv ⟨oo,by rw[Int.toNat_natCast]; exact hi,trivial⟩).trans ?_;rfl) (fun g=>aE)
   refine key.trans ?_;rw[any_getD v 0 (fun x=>x != 1),<- ones_any];cases v.any fun x=>x != 1 <;> rfl
  have k7:∀v:List Int,lowAt v d.2.1.length d.1.length->u69J4 d v=some ((fN (portF (prtOf d)) d.2.2.length v).all (·==1)):=fun v0 hlow=>by
   rw[u69J4];have key:=lF (n:=d.2.2.length) hp0 (fun i (v:List Int)=>((i:Int),v)) (portF (prtOf d)) (fun i v=>i<=d.2.2.length/\lowAt v d.2.1.length (d.1.length+i)) (J:=u69J6) (F:=u69L7 d) (fun g i v hi hI=>by
    have e3:((i:Int)).toNat=i:=rfl;have j8:∀v',u69J8 (i:Int) g v'=g (((i+1:Nat):Int),v'):=fun v'=>gP ⟨oo,trivial⟩;have hnet:inB (prtOf d i).2.2 0 ((d.2.1.length:Int)-1)=true:=by
     have:=hpall i hi;unfold portB at this;rw[ba] at this;exact this.2
    refine(if_pos (by simpa using hi)).trans ?_;rw[e3,gP ⟨oo,trivial⟩,j8];show(if((prtOf d i).2.1==1)=true then _ else _)=g (_,portF (prtOf d) i v);unfold portF;by_cases k1:(prtOf d i).2.1=1
    ·rw[if_pos (beq_iff_eq.2 k1),if_pos k1];refine(gP ⟨oo,inc_ok hI.2 (by omega) hnet⟩).trans ?_;rw[lE];exact j8 _
    ·rw[if_neg (by simpa using k1),if_neg k1]) (fun i v hi hI=>⟨by omega,by
    unfold portF;split
    ·exact lowAt_inc hI.2 _
    ·exact lowAt_up hI.2 (by omega)⟩) (fun g v _=>aE) v0 ⟨by omega,hlow⟩
   refine key.trans (k10 _ ?_);have:∀n,(fN (portF (prtOf d)) n v0).length=v0.length:=by
    intro n
    induction n with
    | zero=>rfl
    | succ n ih =>
      rw[fN];unfold portF;split
      ·unfold incAt; rw[List.length_set]; exact ih
      ·exact ih
   rw[this,hlow.1]; omega
  have k5:lp (u69L5 d) ((0:Int),List.replicate d.2.1.length 0)=some ((driveN d.1.length d.2.2.length d.2.1.length (insOf d) (prtOf d)).all (·==1)):=by
   have key:=lF (n:=d.1.length) hi0 (fun i (v:List Int)=>((i:Int),v)) (instF (insOf d)) (fun i v=>i<=d.1.length/\lowAt v d.2.1.length i) (J:=u69J4 d) (F:=u69L5 d) (fun g i v hi hI=>by
    have e3:((i:Int)).toNat=i:=rfl;have hx:=wf_el (d:=dflt y165) hi hd.1;obtain⟨g1,g2⟩:=inst_nets (hall i hi) hpin;have hlen:(insOf d i).2.2.length<=9223372036854775807:=hx.2.2.1;refine(if_pos (by simpa using hi)).trans ?_;rw[e3,gP ⟨oo,trivial⟩,lE,toNat_pred g1,gP ⟨(pred_ok g1 hlen).1,(pred_ok g1 hlen).2,inc_ok hI.2 (by omega) g2⟩,lE,gP ⟨oo,trivial⟩];rfl) (fun i v hi hI=>⟨by omega,lowAt_inc hI.2 _⟩) (fun g v _=>aE) (List.replicate d.2.1.length 0) ⟨by omega,lowAt_rep _ _⟩
   refine key.trans (k7 _ (instF_low _ _ _))
  have hn1:wf (.sl .str) (d.1.map fun c:Y165=>c.1):=wf_map hi0 fun x hx=>(hd.1.2 x hx).1;have hn2:wf (.sl .str) (d.2.2.map fun c:Y175=>c.1):=wf_map hp0 fun x hx=>(hd.2.2.2 x hx).1;have k2:∀v z:List ByteArray,wf (.sl .str) v->wf (.sl .str) z->u69J2 d v z=some ((namesB v.length fun i=>v.getD i (dflt .str))&&(namesB z.length fun i=>z.getD i (dflt .str))&&namesB d.2.1.length (fun i=>d.2.1.getD i (dflt .str))&&(driveN d.1.length d.2.2.length d.2.1.length (insOf d) (prtOf d)).all (·==1)):=fun v z hv hz=>by
   rw[u69J2,r134 _ hv,r134 _ hz,r134 _ hd.2.1,vS,vS,vS,gP ⟨rfl,fun _=>rfl,fun _=>rfl,trivial⟩,gP (rep_ok mn (by decide)),Int.toNat_natCast,k5];cases(namesB v.length fun i=>v.getD i (dflt .str)) <;> cases(namesB z.length fun i=>z.getD i (dflt .str)) <;> cases namesB d.2.1.length (fun i=>d.2.1.getD i (dflt .str)) <;> rfl
  have k3:∀v:List ByteArray,wf (.sl .str) v->u69J0 d v=some ((namesB v.length fun i=>v.getD i (dflt .str))&&namesB d.2.2.length (fun i=>(prtOf d i).1)&&namesB d.2.1.length (fun i=>d.2.1.getD i (dflt .str))&&(driveN d.1.length d.2.2.length d.2.1.length (insOf d) (prtOf d)).all (·==1)):=fun v hv=>by
   rw[u69J0];have key:=lF (n:=d.2.2.length) hp0 (fun i (s:List ByteArray)=>((i:Int),s)) (gath fun i=>(prtOf d i).1) (fun i s=>s.length=i) (J:=u69J2 d v) (F:=u69L3 d v) (fun g i s hi hI=>by
    have e3:((i:Int)).toNat=i:=rfl;refine(if_pos (by simpa using hi)).trans ?_;rw[e3,gP ⟨oo,⟨by show s.length+1<=_; omega,by show(s.length+1)*16<=_; omega⟩,trivial⟩,gP ⟨oo,trivial⟩];rfl) (fun i s hi hI=>by unfold gath; rw[List.length_append,hI]; rfl) (fun g s _=>aE) [] rfl
   refine key.trans ?_;rw[gath_row d.2.2 (dflt y175) (fun c:Y175=>c.1),k2 _ _ hv hn2,names_map d.2.2 (fun c:Y175=>c.1) (dflt y175)]
  have key:=lF (n:=d.1.length) hi0 (fun i (s:List ByteArray)=>((i:Int),s)) (gath fun i=>(insOf d i).1) (fun i s=>s.length=i) (J:=u69J0 d) (F:=u69L1 d) (fun g i s hi hI=>by
   have e3:((i:Int)).toNat=i:=rfl;refine(if_pos (by simpa using hi)).trans ?_;rw[e3,gP ⟨oo,⟨by show s.length+1<=_; omega,by show(s.length+1)*16<=_; omega⟩,trivial⟩,gP ⟨oo,trivial⟩];rfl) (fun i s hi hI=>by unfold gath; rw[List.length_append,hI]; rfl) (fun g s _=>aE) [] rfl
  refine key.trans ?_;rw[gath_row d.1 (dflt y165) (fun c:Y165=>c.1),k3 _ hn1,names_map d.1 (fun c:Y165=>c.1) (dflt y165)];unfold designB;rw[hia,hpa,decide_eq_true h14,decide_eq_true h30,decide_eq_true h8];cases namesB d.1.length (fun i=>(insOf d i).1) <;> cases namesB d.2.1.length (fun i=>d.2.1.getD i (dflt .str)) <;> cases namesB d.2.2.length (fun i=>(prtOf d i).1) <;> rfl
 ·have e0:(!libOk l||decide (14 < (d.1.length:Int))||decide (30 < (d.2.1.length:Int))||decide (8 < (d.2.2.length:Int))||!(!((List.range d.1.length).any fun i=>!instB l.length (pinsAt l) d.2.1.length (insOf d i))&&!((List.range d.2.2.length).any fun i=>!portB d.2.1.length (prtOf d i))))=true:=by
   rw[<- Bool.not_eq_false];intro hc;simp only[Bool.or_eq_false_iff,Bool.not_eq_false',decide_eq_false_iff_not,ba,Bool.not_eq_true'] at hc;exact hgo ⟨hc.1.1.1.1,by omega,by omega,by omega,hc.2.1,hc.2.2⟩
  refine(if_pos e0).trans ?_;refine congrArg some ?_
  symm
  rw[<- Bool.not_eq_true];intro hc;unfold designB at hc;simp only[ba,dq,Bool.not_eq_true'] at hc;obtain⟨⟨⟨⟨⟨⟨⟨⟨⟨c1,c2⟩,c3⟩,c4⟩,_⟩,_⟩,_⟩,c5⟩,c6⟩,_⟩:=hc;exact hgo ⟨c1,c2,c3,c4,c5,c6⟩
end Go.Proofs.YtphnknndgfgepaaGreatDoor
end

/- Designs: what the program's functions and the reference's say of them. -/
import Derived.Test.YtlfeppknkfknhaaGreatDoorWA
import Derived.Test.YtlfeppknkfknhaaGreatDoorGE1
import Derived.Test.YtlfeppknkfknhaaGreatDoorFE1b
import Derived.Test.YtlfeppknkfknhaaGreatDoorXK
import Derived.Test.YtlfeppknkfknhaaGreatDoorXF
set_option maxHeartbeats 0
section
namespace Go.Proofs.YtlfeppknkfknhaaGreatDoor
open Go Go.Proofs Go.Proofs.Sv Go.Proofs.Xv Go.Proofs.Xl Go.Proofs.Xd
theorem lib_pins{l:List Y92}(h:libOk l=true){x:Int}(hx:inB x 0 ((l.length:Int)-1)=true):2<=pinsAt l x/\pinsAt l x<=5:=by
 have h:libB _ _ _=true:=h;unfold libB at h;rw[ba] at h;rw[inB_iff] at hx;have:=not_any.1 h.1 x.toNat (by omega);rw[Bool.or_eq_false_iff,Bool.not_eq_false'] at this;have hc:cellB isArcS _ _ _ _ _ _ _ _ _=true:=this.1;unfold cellB at hc;simp only[ba] at hc;have:=pins_last hc.1.1.1.1.2
 grind
theorem inst_nets{nc nn:Nat}{pins:Int->Nat}{x:DInst}(h:instB nc pins nn x=true)(hp:∀y,inB y 0 ((nc:Int)-1)=true->2<=pins y):1<=x.2.2.length/\inB (x.2.2.getD (x.2.2.length-1) 0) 0 ((nn:Int)-1)=true:=by
 grind[instB]
theorem r107(l:List Y92)(d:Y44)(hl:wf (.sl y92) l)(hd:wf y44 d):u107 l d=some (!((List.range d.1.length).any fun i=>!instB l.length (pinsAt l) d.2.1.length (insOf d i))&&!((List.range d.2.2.length).any fun i=>!portB d.2.1.length (prtOf d i))):=by
 have h:=hl.1;have hi0:=hd.1.1;have hp0:=hd.2.2.1;have hn0:=hd.2.1.1;have kj:u107J0 d ()=some (!((List.range d.2.2.length).any fun i=>!portB d.2.1.length (prtOf d i))):=by
  have key:=lp_all (n:=d.2.2.length) hp0 (fun i=>!portB d.2.1.length (prtOf d i)) (some false) (e:=some true) (F:=u107L5 d) (fun g i hi=>by
   have e3:((i:Int)).toNat=i:=rfl;refine(if_pos (by grind)).trans ?_;rw[e3,r80,r80,vS,vS,gP ⟨oo,rfl,fun _=>oo,fun _=>oo,fun _=>rfl,trivial⟩,gP ⟨oo,trivial⟩]
   grind[portB,Bool.not_and]) (fun g=>aE)
  refine key.trans ?_;cases(List.range d.2.2.length).any fun i=>!portB d.2.1.length (prtOf d i) <;> rfl
 have key:=lp_all (n:=d.1.length) hi0 (fun i=>!instB l.length (pinsAt l) d.2.1.length (insOf d i)) (some false) (e:=u107J0 d ()) (F:=u107L1 d l) (fun g i hi=>by
  have e3:((i:Int)).toNat=i:=rfl;have hx:=wf_el (d:=dflt y94) hi hd.1;have hn:=hx.2.2.1;refine(if_pos (by grind)).trans ?_;rw[e3,gP ⟨oo,trivial⟩,lE,r80,vS,gP ⟨oo,rfl,fun hc=>by
   have:=hc.1;rw[Bool.not_eq_false'] at this;have:=inB_iff.1 this;exact oo,trivial⟩]
  have inner:=lp_all (n:=(insOf d i).2.2.length) hn (fun k=>!inB ((insOf d i).2.2.getD k 0) 0 ((d.2.1.length:Int)-1)) (some false) (e:=g ((i:Int)+1)) (F:=u107L3 (insOf d i) d (i:Int) g) (fun g3 k hk=>by
   refine(all_el hk hn ⟨oo,oo,rfl,trivial⟩).trans ?_;rfl) (fun g3=>by
   refine aE.trans ?_;exact gP ⟨oo,trivial⟩)
  rw[any_getD (insOf d i).2.2 0 (fun y=>!inB y 0 ((d.2.1.length:Int)-1))] at inner;rw[inner];unfold instB
  grind[all_any]) (fun g=>aE)
 refine key.trans ?_
 grind
theorem ones_any(v:List Int):(!v.any fun x=>x != 1)=v.all (·==1):=all_any v (fun x=>x==1)
theorem rep_ok{n b:Nat}(h:n<=1048576)(hb:b<=4096):(0<=(n:Int)/\(n:Int)=(n:Int)/\(n:Int).toNat*b<=281474976710656/\(n:Int)<=9223372036854775807)/\True:=by
 have hm:n*b<=1048576*4096:=Nat.mul_le_mul h hb;exact⟨⟨by omega,rfl,by rw[Int.toNat_natCast]; omega,by omega⟩,trivial⟩
theorem inc_ok{v:List Int}{n b:Nat}{x:Int}(h:lowAt v n b)(hb:b<=2097152)(hx:inB x 0 ((n:Int)-1)=true):ix x v.length/\x.toNat<v.length/\in64 (v.getD x.toNat 0+1)/\ix x v.length/\x.toNat<v.length/\True:=by
 obtain⟨h1,h2⟩:=lowAt_ix h hx;have:=h.2 x.toNat;exact⟨h1,h2,oo,h1,h2,trivial⟩
theorem pred_ok{n:Nat}(h1:1<=n)(h:n<=9223372036854775807):in64 ((n:Int)-1)/\ix ((n:Int)-1) n:=⟨oo,oo⟩
theorem r84(l:List Y92)(d:Y44)(hl:wf (.sl y92) l)(hd:wf y44 d)(ml:cnt (.sl y92) l<=1048576)(md:cnt y44 d<=1048576):u84 l d=some (designOk l d):=by
 have hi0:=hd.1.1;have hp0:=hd.2.2.1;have mi:d.1.length<=1048576:=cnt_len (cF md);have mn:d.2.1.length<=1048576:=cnt_len (cF (cS md));have mp:d.2.2.length<=1048576:=cnt_len (cS (cS md));show _=some (designB _ _ _ _ _ _ _ _ _);unfold u84 designB;rw[r111 l hl ml,r112 d hd md,vS,vS,gP ⟨rfl,fun _=>rfl,trivial⟩];cases hlo:libOk l with
 | false=>grind
 | true =>
   rw[Bool.true_and];cases hno:(decide (d.1.length<=14)&&decide (d.2.1.length<=30)&&decide (d.2.2.length<=8)&&namesB d.1.length (fun i=>(insOf d i).1)&&namesB d.2.1.length (fun i=>d.2.1.getD i (dflt .str))&&namesB d.2.2.length (fun i=>(prtOf d i).1)) with
   | false=>grind
   | true =>
     refine(if_neg (by simp)).trans ?_;rw[gP (rep_ok mn (by decide)),Int.toNat_natCast];have hpin:∀y,inB y 0 ((l.length:Int)-1)=true->2<=pinsAt l y:=fun y hy=>(lib_pins hlo hy).1;have key:=lp_foldE (n:=d.1.length) hi0 (fun i (v:List Int)=>((i:Int),v)) (instF (insOf d)) (fun i=>!instB l.length (pinsAt l) d.2.1.length (insOf d i)) (some false) (fun i v=>i<=d.1.length/\lowAt v d.2.1.length i) (J:=u84J0 d) (F:=u84L1 d l) (fun g i v hi hI=>by
      have e3:((i:Int)).toNat=i:=rfl;have hx:=wf_el (d:=dflt y94) hi hd.1;refine(if_pos (by grind)).trans ?_;rw[e3,gP ⟨oo,trivial⟩,lE,r113 d l _ hd hl hx,vS,gP ⟨rfl,trivial⟩];cases hin:instB l.length (pinsAt l) d.2.1.length (insOf d i) with
      | false=>rfl
      | true =>
        obtain⟨g1,g2⟩:=inst_nets hin hpin;have hlen:(insOf d i).2.2.length<=9223372036854775807:=hx.2.2.1;refine(if_neg (by simp)).trans ?_;rw[toNat_pred g1,gP ⟨(pred_ok g1 hlen).1,(pred_ok g1 hlen).2,inc_ok hI.2 (by omega) g2⟩,lE,gP ⟨oo,trivial⟩];rfl) (fun i v hi hI _=>⟨by omega,lowAt_inc hI.2 _⟩) (fun g v _=>aE) (List.replicate d.2.1.length 0) ⟨by omega,lowAt_rep _ _⟩
     refine key.trans ?_;cases hia:(List.range d.1.length).any fun i=>!instB l.length (pinsAt l) d.2.1.length (insOf d i) with
     | true=>simp
     | false =>
       refine(if_neg (by simp)).trans ?_;have hlow:=instF_low (insOf d) d.2.1.length d.1.length;unfold driveN;generalize fN (instF (insOf d)) d.1.length (List.replicate d.2.1.length 0)=v0 at *
       rw[u84J0];have key2:=lp_foldE (n:=d.2.2.length) hp0 (fun i (v:List Int)=>((i:Int),v)) (portF (prtOf d)) (fun i=>!portB d.2.1.length (prtOf d i)) (some false) (fun i v=>i<=d.2.2.length/\lowAt v d.2.1.length (d.1.length+i)) (J:=u84J2) (F:=u84L3 d) (fun g i v hi hI=>by
        have e3:((i:Int)).toNat=i:=rfl;have j4:∀v',u84J4 (i:Int) g v'=g (((i+1:Nat):Int),v'):=fun v'=>gP ⟨oo,trivial⟩;refine(if_pos (by grind)).trans ?_;rw[e3,gP ⟨oo,trivial⟩,lE,r114 d hd,vS,gP ⟨fun _=>rfl,trivial⟩,j4,j4];have e5:((prtOf d i).2.1 != 1&&(prtOf d i).2.1 != 2||!inB (prtOf d i).2.2 0 ((d.2.1.length:Int)-1))=!portB d.2.1.length (prtOf d i):=by
         unfold portB;rw[Bool.not_and];congr 1;rw[Bool.eq_iff_iff];simp only[ba,bne_iff_ne,Bool.not_eq_true',<- Bool.not_eq_true,inB_iff];omega
        show(if((prtOf d i).2.1 != 1&&(prtOf d i).2.1 != 2||!inB (prtOf d i).2.2 0 ((d.2.1.length:Int)-1))=true then some false else _)=_;rw[e5];cases hpo:portB d.2.1.length (prtOf d i) with
        | false=>rfl
        | true =>
          have hnet:inB (prtOf d i).2.2 0 ((d.2.1.length:Int)-1)=true:=by
           unfold portB at hpo;rw[ba] at hpo;exact hpo.2
          refine(if_neg (by simp)).trans ?_;show _=g (_,portF (prtOf d) i v);unfold portF;by_cases k1:(prtOf d i).2.1=1
          ·rw[if_pos (beq_iff_eq.2 k1),if_pos k1];exact gP (inc_ok hI.2 (by omega) hnet)
          grind) (fun i v hi hI _=>⟨by omega,by
          grind[portF,lowAt_inc,lowAt_up]⟩) (fun g v _=>aE) v0 ⟨by omega,hlow⟩
       refine key2.trans ?_;cases hpa:(List.range d.2.2.length).any fun i=>!portB d.2.1.length (prtOf d i) with
       | true=>simp
       | false =>
         refine(if_neg (by simp)).trans ?_;have hv:∀v:List Int,v.length<=9223372036854775807->u84J2 v=some (v.all (·==1)):=fun v hv=>by
          have h1:u139c116 v=_:=idx_some hv (fun i=>v.getD i 0 != 1) (fun g i hi=>idx_el hi hv rfl) (fun g=>aE);have h2:u115c116 v=_:=has_some h1;rw[any_getD v 0 (fun x=>x != 1)] at h2;rw[u84J2,h2,vS,gP ⟨rfl,trivial⟩,ones_any]
         have hlen:(fN (portF (prtOf d)) d.2.2.length v0).length<=9223372036854775807:=by
          have:∀n,(fN (portF (prtOf d)) n v0).length=v0.length:=by
           intro n
           induction n with
           | zero=>rfl
           | succ n ih =>
             grind[fN,portF,incAt,List.length_set]
          rw[this,hlow.1]; omega
         grind
theorem r78(l:List Y92)(d:Y44)(hl:wf (.sl y92) l)(hd:wf y44 d)(md:cnt y44 d<=1048576):u78 l d=some (designOk l d):=by
 have hi0:=hd.1.1;have hp0:=hd.2.2.1;have mi:d.1.length<=1048576:=cnt_len (cF md);have mn:d.2.1.length<=1048576:=cnt_len (cF (cS md));have mp:d.2.2.length<=1048576:=cnt_len (cS (cS md));show _=some (designB _ _ _ _ _ _ _ _ _);unfold u78;rw[r106 l hl,r107 l d hl hd,vS,vS,gP ⟨rfl,fun _=>rfl,trivial⟩];by_cases hgo:libOk l=true/\d.1.length<=14/\d.2.1.length<=30/\d.2.2.length<=8/\((List.range d.1.length).any fun i=>!instB l.length (pinsAt l) d.2.1.length (insOf d i))=false/\((List.range d.2.2.length).any fun i=>!portB d.2.1.length (prtOf d i))=false
 ·obtain⟨hlo,h14,h30,h8,hia,hpa⟩:=hgo;have a1:decide (14 < (d.1.length:Int))=false:=decide_eq_false (by omega);have a2:decide (30 < (d.2.1.length:Int))=false:=decide_eq_false (by omega);have a3:decide (8 < (d.2.2.length:Int))=false:=decide_eq_false (by omega);rw[hlo,a1,a2,a3,hia,hpa];refine(if_neg (by simp)).trans ?_;have hpin:∀y,inB y 0 ((l.length:Int)-1)=true->2<=pinsAt l y:=fun y hy=>(lib_pins hlo hy).1;have hall:∀i,i<d.1.length->instB l.length (pinsAt l) d.2.1.length (insOf d i)=true:=fun i hi=>by
   grind
  have hpall:∀i,i<d.2.2.length->portB d.2.1.length (prtOf d i)=true:=fun i hi=>by
   grind
  have k10:∀v:List Int,v.length<=9223372036854775807->u78J6 v=some (v.all (·==1)):=fun v hv=>by
   rw[u78J6];have key:=lp_all (n:=v.length) hv (fun i=>v.getD i 0 != 1) (some false) (e:=some true) (F:=u78L10 v) (fun g i hi=>by
    refine(all_el hi hv ⟨oo,by omega,trivial⟩).trans ?_;rfl) (fun g=>aE)
   refine key.trans ?_;rw[any_getD v 0 (fun x=>x != 1),<- ones_any]
   grind
  have k7:∀v:List Int,lowAt v d.2.1.length d.1.length->u78J4 d v=some ((fN (portF (prtOf d)) d.2.2.length v).all (·==1)):=fun v0 hlow=>by
   rw[u78J4];have key:=lF (n:=d.2.2.length) hp0 (fun i (v:List Int)=>((i:Int),v)) (portF (prtOf d)) (fun i v=>i<=d.2.2.length/\lowAt v d.2.1.length (d.1.length+i)) (J:=u78J6) (F:=u78L7 d) (fun g i v hi hI=>by
    have e3:((i:Int)).toNat=i:=rfl;have j8:∀v',u78J8 (i:Int) g v'=g (((i+1:Nat):Int),v'):=fun v'=>gP ⟨oo,trivial⟩;have hnet:inB (prtOf d i).2.2 0 ((d.2.1.length:Int)-1)=true:=by
     have:=hpall i hi;unfold portB at this;rw[ba] at this;exact this.2
    refine(if_pos (by grind)).trans ?_;rw[e3,gP ⟨oo,trivial⟩,j8];show(if((prtOf d i).2.1==1)=true then _ else _)=g (_,portF (prtOf d) i v);unfold portF;by_cases k1:(prtOf d i).2.1=1
    ·rw[if_pos (beq_iff_eq.2 k1),if_pos k1];refine(gP ⟨oo,inc_ok hI.2 (by omega) hnet⟩).trans ?_;rw[lE];exact j8 _
    grind) (fun i v hi hI=>⟨by omega,by
    grind[portF,lowAt_inc,lowAt_up]⟩) (fun g v _=>aE) v0 ⟨by omega,hlow⟩
   refine key.trans (k10 _ ?_);have:∀n,(fN (portF (prtOf d)) n v0).length=v0.length:=by
    intro n
    induction n with
    | zero=>rfl
    | succ n ih =>
      grind[fN,portF,incAt,List.length_set]
   rw[this,hlow.1]; omega
  have k5:lp (u78L5 d) ((0:Int),List.replicate d.2.1.length 0)=some ((driveN d.1.length d.2.2.length d.2.1.length (insOf d) (prtOf d)).all (·==1)):=by
   have key:=lF (n:=d.1.length) hi0 (fun i (v:List Int)=>((i:Int),v)) (instF (insOf d)) (fun i v=>i<=d.1.length/\lowAt v d.2.1.length i) (J:=u78J4 d) (F:=u78L5 d) (fun g i v hi hI=>by
    have e3:((i:Int)).toNat=i:=rfl;have hx:=wf_el (d:=dflt y94) hi hd.1;obtain⟨g1,g2⟩:=inst_nets (hall i hi) hpin;have hlen:(insOf d i).2.2.length<=9223372036854775807:=hx.2.2.1;refine(if_pos (by grind)).trans ?_;rw[e3,gP ⟨oo,trivial⟩,lE,toNat_pred g1,gP ⟨(pred_ok g1 hlen).1,(pred_ok g1 hlen).2,inc_ok hI.2 (by omega) g2⟩,lE,gP ⟨oo,trivial⟩];rfl) (fun i v hi hI=>⟨by omega,lowAt_inc hI.2 _⟩) (fun g v _=>aE) (List.replicate d.2.1.length 0) ⟨by omega,lowAt_rep _ _⟩
   refine key.trans (k7 _ (instF_low _ _ _))
  have hn1:wf (.sl .str) (d.1.map fun c:Y94=>c.1):=wf_map hi0 fun x hx=>(hd.1.2 x hx).1;have hn2:wf (.sl .str) (d.2.2.map fun c:Y149=>c.1):=wf_map hp0 fun x hx=>(hd.2.2.2 x hx).1;have k2:∀v z:List ByteArray,wf (.sl .str) v->wf (.sl .str) z->u78J2 d v z=some ((namesB v.length fun i=>v.getD i (dflt .str))&&(namesB z.length fun i=>z.getD i (dflt .str))&&namesB d.2.1.length (fun i=>d.2.1.getD i (dflt .str))&&(driveN d.1.length d.2.2.length d.2.1.length (insOf d) (prtOf d)).all (·==1)):=fun v z hv hz=>by
   rw[u78J2,r108 _ hv,r108 _ hz,r108 _ hd.2.1,vS,vS,vS,gP ⟨rfl,fun _=>rfl,fun _=>rfl,trivial⟩,gP (rep_ok mn (by decide)),Int.toNat_natCast,k5];cases(namesB v.length fun i=>v.getD i (dflt .str)) <;> cases(namesB z.length fun i=>z.getD i (dflt .str)) <;> cases namesB d.2.1.length (fun i=>d.2.1.getD i (dflt .str)) <;> rfl
  have k3:∀v:List ByteArray,wf (.sl .str) v->u78J0 d v=some ((namesB v.length fun i=>v.getD i (dflt .str))&&namesB d.2.2.length (fun i=>(prtOf d i).1)&&namesB d.2.1.length (fun i=>d.2.1.getD i (dflt .str))&&(driveN d.1.length d.2.2.length d.2.1.length (insOf d) (prtOf d)).all (·==1)):=fun v hv=>by
   rw[u78J0];have key:=lF (n:=d.2.2.length) hp0 (fun i (s:List ByteArray)=>((i:Int),s)) (gath fun i=>(prtOf d i).1) (fun i s=>s.length=i) (J:=u78J2 d v) (F:=u78L3 d v) (fun g i s hi hI=>by
    have e3:((i:Int)).toNat=i:=rfl;refine(if_pos (by grind)).trans ?_;rw[e3,gP ⟨oo,⟨by grind,by grind⟩,trivial⟩,gP ⟨oo,trivial⟩];rfl) (fun i s hi hI=>by grind[gath,List.length_append]) (fun g s _=>aE) [] rfl
   refine key.trans ?_;rw[gath_row d.2.2 (dflt y149) (fun c:Y149=>c.1),k2 _ _ hv hn2,names_map d.2.2 (fun c:Y149=>c.1) (dflt y149)]
  have key:=lF (n:=d.1.length) hi0 (fun i (s:List ByteArray)=>((i:Int),s)) (gath fun i=>(insOf d i).1) (fun i s=>s.length=i) (J:=u78J0 d) (F:=u78L1 d) (fun g i s hi hI=>by
   have e3:((i:Int)).toNat=i:=rfl;refine(if_pos (by grind)).trans ?_;rw[e3,gP ⟨oo,⟨by grind,by grind⟩,trivial⟩,gP ⟨oo,trivial⟩];rfl) (fun i s hi hI=>by grind[gath,List.length_append]) (fun g s _=>aE) [] rfl
  refine key.trans ?_;rw[gath_row d.1 (dflt y94) (fun c:Y94=>c.1),k3 _ hn1,names_map d.1 (fun c:Y94=>c.1) (dflt y94)];unfold designB;rw[hia,hpa,decide_eq_true h14,decide_eq_true h30,decide_eq_true h8];cases namesB d.1.length (fun i=>(insOf d i).1) <;> cases namesB d.2.1.length (fun i=>d.2.1.getD i (dflt .str)) <;> cases namesB d.2.2.length (fun i=>(prtOf d i).1) <;> rfl
 ·have e0:(!libOk l||decide (14 < (d.1.length:Int))||decide (30 < (d.2.1.length:Int))||decide (8 < (d.2.2.length:Int))||!(!((List.range d.1.length).any fun i=>!instB l.length (pinsAt l) d.2.1.length (insOf d i))&&!((List.range d.2.2.length).any fun i=>!portB d.2.1.length (prtOf d i))))=true:=by
   rw[<- Bool.not_eq_false];intro hc;simp only[Bool.or_eq_false_iff,Bool.not_eq_false',decide_eq_false_iff_not,ba,Bool.not_eq_true'] at hc;exact hgo ⟨hc.1.1.1.1,by omega,by omega,by omega,hc.2.1,hc.2.2⟩
  refine(if_pos e0).trans ?_;refine congrArg some ?_
  symm
  rw[<- Bool.not_eq_true];intro hc;unfold designB at hc;simp only[ba,dq,Bool.not_eq_true'] at hc;obtain⟨⟨⟨⟨⟨⟨⟨⟨⟨c1,c2⟩,c3⟩,c4⟩,_⟩,_⟩,_⟩,c5⟩,c6⟩,_⟩:=hc;exact hgo ⟨c1,c2,c3,c4,c5,c6⟩
abbrev treeBad(w:Y111)(i:Nat):Bool:=(i==0&&(w.1.getD i 0 != -1||w.2.1.getD 0 0 != 0))||(decide (0<i)&&!inB (w.1.getD i 0) 0 ((i:Int)-1))
theorem r118(w:Y111)(hw:wf y111 w)(hl:w.2.1.length=w.1.length):u118 w=some (!(List.range w.1.length).any (treeBad w)):=by
 have h:=hw.1.1;have key:=lp_all (n:=w.1.length) h (treeBad w) (some false) (e:=some true) (F:=u118L1 w) (fun g i hi=>by
  have e3:((i:Int)).toNat=i:=rfl;have e0:((i:Int)==0)=(i==0):=by rw[Bool.eq_iff_iff,beq_iff_eq,beq_iff_eq]; omega
  have e2:decide ((0:Int) < (i:Int))=decide (0<i):=by rw[decide_eq_decide]; omega
  refine(if_pos (by simpa using hi)).trans ?_;rw[e3,e0,e2,r117,vS,gP ⟨oo,trivial⟩,gP ⟨fun _=>oo,fun _=>oo,fun _=>rfl,trivial⟩,gP ⟨oo,trivial⟩];rfl) (fun g=>aE)
 refine key.trans ?_
 grind
theorem r86(w:Y111)(n:Int)(hw:wf y111 w):u86 w n=some (wireB w n):=by
 obtain⟨⟨h1,_⟩,⟨h2,_⟩,⟨h3,_⟩,h4,_⟩:=id hw;have e:∀xs:List Int,u88 xs=some (xs.length:Int):=fun _=>rfl;unfold u86;rw[e,e,e,e]
 repeat rw[vS]
 rw[gP ⟨rfl,trivial⟩,lE,r117,r91 _ _ _ h2,r91 _ _ _ h3,r91 _ _ _ h4]
 repeat rw[vS]
 by_cases hgo:(inB (w.1.length:Int) 1 8&&(w.2.1.length:Int)==(w.1.length:Int)&&(w.2.2.1.length:Int)==(w.1.length:Int))=true
 ·have hg:=hgo;simp only[ba,beq_iff_eq,inB_iff] at hg;rw[r118 w hw (by omega),vS,gP ⟨rfl,fun _=>rfl,fun _=>rfl,fun _=>rfl,fun _=>rfl,fun _=>rfl,fun _=>rfl,fun _=>oo,fun _=>rfl,trivial⟩,lE];refine congrArg some ?_;rw[hgo];unfold wireB;rw[decide_eq_true (show 1<=w.1.length by omega),decide_eq_true (show w.1.length<=8 by omega),decide_eq_true (show w.2.1.length=w.1.length by omega),decide_eq_true (show w.2.2.1.length=w.1.length by omega)];cases(List.range w.1.length).any (treeBad w) <;> cases w.2.1.all (inB · 0 1000) <;> cases w.2.2.1.all (inB · 0 500) <;> cases(w.2.2.2.length:Int)==n <;> cases w.2.2.2.all (inB · 0 ((w.1.length:Int)-1)) <;> rfl
 ·have hg:(inB (w.1.length:Int) 1 8&&(w.2.1.length:Int)==(w.1.length:Int)&&(w.2.2.1.length:Int)==(w.1.length:Int))=false:=by simpa using hgo
  rw[hg,gP ⟨rfl,fun _=>rfl,fun _=>rfl,fun hc=>by simp at hc,fun hc=>by simp at hc,fun hc=>by simp at hc,fun hc=>by simp at hc,fun hc=>by simp at hc,fun hc=>by simp at hc,trivial⟩,lE];refine congrArg some ?_;rw[hg];simp only[Bool.false_and]
  symm
  rw[<- Bool.not_eq_true];intro hc;unfold wireB at hc;simp only[ba,dq] at hc;refine hgo ?_;simp only[ba,beq_iff_eq,inB_iff];omega
theorem r79(w:Y111)(n:Int)(hw:wf y111 w):u79 w n=some (wireB w n):=by
 obtain⟨⟨h1,_⟩,⟨h2,_⟩,⟨h3,_⟩,h4,_⟩:=id hw;unfold u79;by_cases hgo:1<=w.1.length/\w.1.length<=8/\w.2.1.length=w.1.length/\w.2.2.1.length=w.1.length/\(w.2.2.2.length:Int)=n
 ·obtain⟨g1,g2,g3,g4,g5⟩:=hgo;have e0:(decide ((w.1.length:Int)<1)||decide (8 < (w.1.length:Int))||(w.2.1.length:Int) != (w.1.length:Int)||(w.2.2.1.length:Int) != (w.1.length:Int)||(w.2.2.2.length:Int) != n)=false:=by
   rw[<- Bool.not_eq_true]; simp; omega
  refine(if_neg (by rw[e0]; simp)).trans ?_;have k3:=lp_all (n:=w.2.2.2.length) h4 (fun i=>!inB (w.2.2.2.getD i 0) 0 ((w.1.length:Int)-1)) (some false) (e:=some true) (F:=u79L3 w) (fun g i hi=>all_el hi h4 ⟨oo,oo,rfl,trivial⟩) (fun g=>aE);rw[any_getD w.2.2.2 0 (fun x=>!inB x 0 ((w.1.length:Int)-1))] at k3;have k1:=lp_all (n:=w.1.length) h1 (fun i=>(!inB (w.2.2.1.getD i 0) 0 500||!inB (w.2.1.getD i 0) 0 1000)||treeBad w i) (some false) (e:=u79J0 w ()) (F:=u79L1 w) (fun g i hi=>by
   have e3:((i:Int)).toNat=i:=rfl;have e0:((i:Int)==0)=(i==0):=by rw[Bool.eq_iff_iff,beq_iff_eq,beq_iff_eq]; omega
   have e2:decide ((0:Int) < (i:Int))=decide (0<i):=by rw[decide_eq_decide]; omega
   refine(if_pos (by simpa using hi)).trans ?_;rw[e3,e0,e2,r80,r80,r80]
   repeat rw[vS]
   rw[gP ⟨oo,rfl,fun _=>oo,fun _=>rfl,trivial⟩,gP ⟨fun _=>oo,fun _=>oo,fun _=>oo,fun _=>oo,fun _=>rfl,trivial⟩,gP ⟨oo,trivial⟩]
   grind) (fun g=>aE)
  refine k1.trans ?_;rw[any_or,any_or];have a1:=any_getD w.2.2.1 0 (fun x=>!inB x 0 500);have a2:=any_getD w.2.1 0 (fun x=>!inB x 0 1000);rw[g4] at a1;rw[g3] at a2;rw[a1,a2];unfold u79J0;rw[k3];unfold wireB;rw[decide_eq_true g1,decide_eq_true g2,decide_eq_true g3,decide_eq_true g4,beq_iff_eq.2 g5,<- all_any,<- all_any,<- all_any];cases(List.range w.1.length).any (treeBad w) <;> cases w.2.1.any (fun x=>!inB x 0 1000) <;> cases w.2.2.1.any (fun x=>!inB x 0 500) <;> cases w.2.2.2.any (fun x=>!inB x 0 ((w.1.length:Int)-1)) <;> rfl
 grind[decide,trans,wireB]
theorem r85(d:Y44)(hd:wf y44 d)(h14:d.1.length<=14)(h8:d.2.2.length<=8)(h5:∀i,i<d.1.length->1<=(insOf d i).2.2.length/\(insOf d i).2.2.length<=5):u85 d=some (placesN d.1.length d.2.2.length (insOf d) (prtOf d)):=by
 have hi0:=hd.1.1;have hp0:=hd.2.2.1;unfold u85;have k5:∀s:List Y156,s.length<=70->u85J0 d s=some (fN (portP (prtOf d)) d.2.2.length s):=fun s0 hs=>by
  rw[u85J0];exact lF (n:=d.2.2.length) hp0 (fun i (s:List Y156)=>((i:Int),s)) (portP (prtOf d)) (fun i s=>s.length=s0.length+i) (J:=fun s=>some s) (F:=u85L5 d) (fun g i s hi hI=>by
   have e3:((i:Int)).toNat=i:=rfl;refine(if_pos (by grind)).trans ?_;rw[e3,gP ⟨oo,trivial⟩,lE,gP ⟨⟨by grind,by grind⟩,trivial⟩,gP ⟨oo,trivial⟩];rfl) (fun i s hi hI=>by grind[portP,List.length_append]) (fun g s _=>aE) s0 rfl
 have key:=lF (n:=d.1.length) hi0 (fun i (s:List Y156)=>(s,(i:Int))) (placesF (insOf d)) (fun i s=>s.length<=5*i) (J:=u85J0 d) (F:=u85L1 d) (fun g i s hi hI=>by
  have e3:((i:Int)).toNat=i:=rfl;have hx:=(h5 i hi).2;have hn:(insOf d i).2.2.length<=9223372036854775807:=by omega
  refine(if_pos (by grind)).trans ?_;rw[e3,gP ⟨oo,trivial⟩,lE];have inner:=lF (n:=(insOf d i).2.2.length) hn (fun k (s:List Y156)=>((k:Int),s)) (instP (insOf d i) i) (fun k z=>z.length=s.length+k) (J:=u85J2 (i:Int) g) (F:=u85L3 (i:Int) (insOf d i) g) (fun g3 k z hk hz=>by
   have e4:((k:Int)).toNat=k:=rfl;refine(if_pos (by grind)).trans ?_;rw[e4,gP ⟨oo,trivial⟩,gP ⟨oo,⟨by grind,by grind⟩,trivial⟩,lE];exact gP ⟨oo,trivial⟩) (fun k z hk hz=>by grind[instP,List.length_append]) (fun g3 z _=>aE) s rfl
  refine inner.trans ?_;exact gP ⟨oo,trivial⟩) (fun i s hi hI=>by
  grind[placesF,instP_len]) (fun g s _=>aE) [] (Nat.zero_le _)
 refine key.trans (k5 _ ?_);have:=placesF_len (x:=insOf d) (ni:=d.1.length) (fun i hi=>(h5 i hi).2) d.1.length (Nat.le_refl _);omega
theorem r50(d:Y44)(hd:wf y44 d)(h14:d.1.length<=14)(h8:d.2.2.length<=8)(h5:∀i,i<d.1.length->1<=(insOf d i).2.2.length/\(insOf d i).2.2.length<=5):u50 d=some (placesN d.1.length d.2.2.length (insOf d) (prtOf d)):=by
 have hi0:=hd.1.1;have hp0:=hd.2.2.1;unfold u50;have k5:∀s:List Y146,s.length<=70->u50J0 d s=some (fN (portP (prtOf d)) d.2.2.length s):=fun s0 hs=>by
  rw[u50J0];exact lF (n:=d.2.2.length) hp0 (fun i (s:List Y146)=>((i:Int),s)) (portP (prtOf d)) (fun i s=>s.length=s0.length+i) (J:=fun s=>some s) (F:=u50L5 d) (fun g i s hi hI=>by
   have e3:((i:Int)).toNat=i:=rfl;refine(if_pos (by grind)).trans ?_;rw[e3,gP ⟨oo,oo,⟨by grind,by grind⟩,trivial⟩,lE];exact gP ⟨oo,trivial⟩) (fun i s hi hI=>by grind[portP,List.length_append]) (fun g s _=>aE) s0 rfl
 have key:=lF (n:=d.1.length) hi0 (fun i (s:List Y146)=>((i:Int),s)) (placesF (insOf d)) (fun i s=>s.length<=5*i) (J:=u50J0 d) (F:=u50L1 d) (fun g i s hi hI=>by
  have e3:((i:Int)).toNat=i:=rfl;have hx:=(h5 i hi).2;have hn:(insOf d i).2.2.length<=9223372036854775807:=by omega
  refine(if_pos (by grind)).trans ?_;rw[e3,gP ⟨oo,trivial⟩,lE];have inner:=lF (n:=(insOf d i).2.2.length) hn (fun k (s:List Y146)=>((k:Int),s)) (instP (insOf d i) i) (fun k z=>z.length=s.length+k) (J:=u50J2 (i:Int) g) (F:=u50L3 (i:Int) (insOf d i) g) (fun g3 k z hk hz=>by
   have e4:((k:Int)).toNat=k:=rfl;refine(if_pos (by grind)).trans ?_;rw[e4,gP ⟨oo,oo,⟨by grind,by grind⟩,trivial⟩,lE];exact gP ⟨oo,trivial⟩) (fun k z hk hz=>by grind[instP,List.length_append]) (fun g3 z _=>aE) s rfl
  refine inner.trans ?_;exact gP ⟨oo,trivial⟩) (fun i s hi hI=>by
  grind[placesF,instP_len]) (fun g s _=>aE) [] (Nat.zero_le _)
 refine key.trans (k5 _ ?_);have:=placesF_len (x:=insOf d) (ni:=d.1.length) (fun i hi=>(h5 i hi).2) d.1.length (Nat.le_refl _);omega
abbrev plcs(d:Y44):List DPlace:=placesN d.1.length d.2.2.length (insOf d) (prtOf d)
abbrev plcOf(d:Y44)(i:Nat):DPlace:=(plcs d).getD i (dflt y156)
abbrev wirOf(b:Y47)(i:Nat):Y111:=b.2.2.getD i (dflt y111)
def blockOk(b:Y47):Bool:=designOk b.1 b.2.1&&decide (b.2.2.length=b.2.1.2.1.length)&&!(List.range b.2.2.length).any fun i=>!wireB (wirOf b i) (cntP (plcOf b.2.1) i (plcs b.2.1).length)
structure DF(l:List Y92)(d:Y44):Prop where
 lib:libOk l=true
 fac:DesignFacts l.length (pinsAt l) d.1.length d.2.2.length d.2.1.length (insOf d) (prtOf d)
 pin:∀i,i<d.1.length->1<=(insOf d i).2.2.length/\(insOf d i).2.2.length<=5
 plc:netsIn d.2.1.length (plcs d)
 len:(plcs d).length<=78
theorem df_of{l:List Y92}{d:Y44}(h:designOk l d=true):DF l d:=by
 obtain⟨h1,h2⟩:=design_facts h;have hp:∀i,i<d.1.length->1<=(insOf d i).2.2.length/\(insOf d i).2.2.length<=5:=fun i hi=>by
  have hin:=h2.inst i hi;have g1:=(inst_nets hin (fun y hy=>(lib_pins h1 hy).1)).1;unfold instB at hin;simp only[ba,beq_iff_eq] at hin
  grind[lib_pins]
 have hn:=h2.net;refine⟨h1,h2,hp,portP_in hn.2 (placesF_in hn.1 d.1.length (Nat.le_refl _)) d.2.2.length (Nat.le_refl _),?_⟩;have:=placesF_len (x:=insOf d) (ni:=d.1.length) (fun i hi=>(hp i hi).2) d.1.length (Nat.le_refl _);have h14:=h2.ni14;have h8:=h2.np8;unfold plcs placesN
 grind[portP_len]
theorem r57(b:Y47)(hw:wf y47 b)(hm:cnt y47 b<=1048576):u57 b=some (blockOk b):=by
 have hl:=hw.1;have hd:=hw.2.1;have h0:=hw.2.2.1;have mw:b.2.2.length<=1048576:=cnt_len (cS (cS hm));unfold u57 blockOk;rw[r84 b.1 b.2.1 hl hd (cF hm) (cF (cS hm)),vS,gP ⟨rfl,trivial⟩];cases hdo:designOk b.1 b.2.1 with
 | false=>grind
 | true =>
   have df:=df_of hdo;by_cases hlen:b.2.2.length=b.2.1.2.1.length
   ·have e0:((b.2.2.length:Int) != (b.2.1.2.1.length:Int))=false:=by rw[hlen]; simp
    rw[e0,decide_eq_true hlen];refine(if_neg (by simp)).trans ?_;rw[gP (rep_ok mw (by decide)),Int.toNat_natCast,r85 b.2.1 hd df.fac.ni14 df.fac.np8 df.pin,vS,gP ⟨rfl,trivial⟩,lE];have hpl:(plcs b.2.1).length<=9223372036854775807:=by have:=df.len; omega
    have hin:∀i,i < (plcs b.2.1).length->inB (plcOf b.2.1 i).2.2.1 0 ((b.2.2.length:Int)-1)=true:=fun i hi=>by
     rw[hlen]; exact df.plc _ (getD_mem hi)
    have key:=lF (n:=(plcs b.2.1).length) hpl (fun i (v:List Int)=>((i:Int),v)) (sinkF (plcOf b.2.1)) (fun i v=>i<=(plcs b.2.1).length/\lowAt v b.2.2.length i) (J:=u57J0 b) (F:=u57L1 (plcs b.2.1) b) (fun g i v hi hI=>by
     have e3:((i:Int)).toNat=i:=rfl;have j2:∀v',u57J2 (i:Int) g v'=g (((i+1:Nat):Int),v'):=fun v'=>gP ⟨oo,trivial⟩;refine(if_pos (by grind)).trans ?_;rw[e3,gP ⟨oo,hi,trivial⟩,lE,j2];show(if(!(plcOf b.2.1 i).2.2.2)=true then _ else _)=g (_,sinkF (plcOf b.2.1) i v);unfold sinkF;cases hdr:(plcOf b.2.1 i).2.2.2 with
     | true=>rfl
     | false =>
       refine(if_pos rfl).trans ?_;refine(gP (inc_ok hI.2 (by have:=df.len; omega) (hin i hi))).trans ?_;rw[lE];exact j2 _) (fun i v hi hI=>⟨by omega,by
     grind[sinkF,lowAt_inc,lowAt_up]⟩) (fun g v _=>aE) (List.replicate b.2.2.length 0) ⟨by omega,lowAt_rep _ _⟩
    refine key.trans ?_;obtain⟨s1,s2⟩:=sink_fold (plcOf b.2.1) b.2.2.length (plcs b.2.1).length hin;generalize fN (sinkF (plcOf b.2.1)) (plcs b.2.1).length (List.replicate b.2.2.length 0)=v at *
    rw[u57J0];have key2:=lp_all (n:=b.2.2.length) h0 (fun i=>!wireB (wirOf b i) (cntP (plcOf b.2.1) i (plcs b.2.1).length)) (some false) (e:=some true) (F:=u57L4 v b) (fun g i hi=>by
     have e3:((i:Int)).toNat=i:=rfl;refine(if_pos (by grind)).trans ?_;rw[e3,gP ⟨oo,trivial⟩,lE,s2 i hi,r86 _ _ (wf_el hi hw.2.2),vS,gP ⟨oo,by omega,rfl,trivial⟩,gP ⟨oo,trivial⟩]) (fun g=>aE)
    grind
   grind
theorem r46(d:Y44)(hd:wf y44 d){l:List Y92}(df:DF l d)(t:Int):u46 d t=some (fN (sinkL (plcOf d) t) (plcs d).length []):=by
 have hl:=df.len;unfold u46;rw[r50 d hd df.fac.ni14 df.fac.np8 df.pin,vS,gP ⟨rfl,trivial⟩,lE];exact lF (n:=(plcs d).length) (by omega) (fun i (s:List Int)=>((i:Int),s)) (sinkL (plcOf d) t) (fun i s=>s.length<=i) (J:=fun s=>some s) (F:=u46L1 (plcs d) t) (fun g i s hi hI=>by
  have e3:((i:Int)).toNat=i:=rfl;have j2:∀s',u46J2 (i:Int) g s'=g (((i+1:Nat):Int),s'):=fun v'=>gP ⟨oo,trivial⟩;refine(if_pos (by grind)).trans ?_;have hI':s.length<=i:=hI;rw[e3,gP ⟨oo,hi,fun _=>oo,fun _=>hi,trivial⟩,gP ⟨⟨by grind,by grind⟩,trivial⟩,j2,j2];show _=g (_,sinkL (plcOf d) t i s);unfold sinkL
  grind) (fun i s hi hI=>by
  grind[sinkL,List.length_append]) (fun g s _=>aE) [] (Nat.le_refl _)
theorem r41(b:Y47)(hw:wf y47 b)(hm:cnt y47 b<=1048576):u41 b=some (blockOk b):=by
 have hl:=hw.1;have hd:=hw.2.1;have h0:=hw.2.2.1;unfold u41 blockOk;rw[r78 b.1 b.2.1 hl hd (cF (cS hm)),vS,gP ⟨rfl,trivial⟩];cases hdo:designOk b.1 b.2.1 with
 | false=>grind
 | true =>
   have df:=df_of hdo;by_cases hlen:b.2.2.length=b.2.1.2.1.length
   ·have e0:((b.2.2.length:Int) != (b.2.1.2.1.length:Int))=false:=by rw[hlen]; simp
    rw[e0,decide_eq_true hlen];refine(if_neg (by simp)).trans ?_;have key2:=lp_all (n:=b.2.2.length) h0 (fun i=>!wireB (wirOf b i) (cntP (plcOf b.2.1) i (plcs b.2.1).length)) (some false) (e:=some true) (F:=u41L1 b) (fun g i hi=>by
     have e3:((i:Int)).toNat=i:=rfl;refine(if_pos (by grind)).trans ?_;rw[e3,r46 b.2.1 hd df,vS,sinkL_len,r79 _ _ (wf_el hi hw.2.2),gP ⟨oo,rfl,rfl,trivial⟩,lE,sinkL_len,r79 _ _ (wf_el hi hw.2.2),vS,gP ⟨oo,trivial⟩]) (fun g=>aE)
    grind
   grind
theorem block_design{b:Y47}(h:blockOk b=true):designOk b.1 b.2.1=true/\b.2.2.length=b.2.1.2.1.length/\∀i,i<b.2.2.length->wireB (wirOf b i) (cntP (plcOf b.2.1) i (plcs b.2.1).length)=true:=by
 grind[blockOk,hi]
abbrev sinksV(d:Y44)(t:Int):List Int:=fN (sinkL (plcOf d) t) (plcs d).length []
def capV(l:List Y92)(d:Y44)(p:DPlace):Int:=if p.1<0 then 0 else((l.getD (insOf d p.1.toNat).2.1.toNat (dflt y92)).2.2.1.getD p.2.1.toNat (dflt y194)).2.2.1
theorem plc_mem{d:Y44}{i:Nat}(h:i < (plcs d).length):plcOf d i∈plcs d:=getD_mem h
theorem lib_cell'{l:List Y92}(h:libOk l=true){i:Nat}(hi:i<l.length):cellOk isArcS (celOf l i)=true:=by
 have h:libB _ _ _=true:=h;unfold libB at h;rw[ba] at h;have:=not_any.1 h.1 i hi;rw[Bool.or_eq_false_iff,Bool.not_eq_false'] at this;exact this.1
theorem plc_pin{l:List Y92}{d:Y44}(df:DF l d){p:DPlace}(hp:p∈plcs d):(p.1 = -1/\0<=p.2.1/\p.2.1.toNat<d.2.2.length) ∨
  (0<=p.1/\p.1.toNat<d.1.length/\0<=(insOf d p.1.toNat).2.1/\(insOf d p.1.toNat).2.1.toNat<l.length/\0<=p.2.1/\p.2.1.toNat < (l.getD (insOf d p.1.toNat).2.1.toNat (dflt y92)).2.2.1.length):=by
 rcases places_kind d.1.length d.2.2.length (insOf d) (prtOf d) p hp with h | ⟨h1,h2,h3,h4⟩
 ·exact .inl h
 ·have hin:=df.fac.inst p.1.toNat h2;unfold instB at hin;simp only[ba,beq_iff_eq] at hin;have h5:=inB_iff.1 hin.1.1;have h6:=hin.1.2;refine .inr ⟨h1,h2,h5.1,by omega,h3,?_⟩;have h6:((insOf d p.1.toNat).2.2.length:Int)=((l.getD (insOf d p.1.toNat).2.1.toNat (dflt y92)).2.2.1.length:Int):=h6;omega
theorem pin_cap{l:List Y92}{d:Y44}(df:DF l d){p:DPlace}(hp:p∈plcs d):0<=capV l d p/\capV l d p<=500:=by
 unfold capV;split
 ·exact⟨by decide,by decide⟩
 ·rename_i hn;rcases plc_pin df hp with h | ⟨h1,h2,h3,h4,h5,h6⟩
  ·omega
  ·have hc:cellB isArcS _ _ _ _ _ _ _ _ _=true:=lib_cell' df.lib h4;unfold cellB pinsOk at hc;simp only[ba] at hc;have:=not_any.1 hc.1.1.1.1.2.2 p.2.1.toNat h6;rw[Bool.not_eq_false'] at this;unfold pinB at this;rw[ba] at this;exact inB_iff.1 this.1
theorem sinksV_at{d:Y44}{t:Int}{k:Nat}(h:k < (sinksV d t).length):0<=(sinksV d t).getD k 0/\((sinksV d t).getD k 0).toNat < (plcs d).length:=by
 obtain⟨j,h1,h2,_⟩:=sinkL_in (plcOf d) t (plcs d).length _ (getD_mem (d:=0) h);rw[h1];exact⟨Int.natCast_nonneg _,by simpa using h2⟩
structure NetOk(b:Y47)(i:Nat):Prop where
 df:DF b.1 b.2.1
 lt:i<b.2.2.length
 wf:WireFacts (wirOf b i) ((sinksV b.2.1 i).length:Int)
theorem net_ok{b:Y47}(h:blockOk b=true){i:Nat}(hi:i<b.2.2.length):NetOk b i:=by
 obtain⟨h1,h2,h3⟩:=block_design h;refine⟨df_of h1,hi,?_⟩;rw[sinkL_len];exact wire_facts (h3 i hi)
def nodeS(b:Y47)(i k:Nat):Int:=(wirOf b i).2.2.2.getD k 0
def capS(b:Y47)(i k:Nat):Int:=capV b.1 b.2.1 (plcOf b.2.1 ((sinksV b.2.1 i).getD k 0).toNat)
def parS(b:Y47)(i k:Nat):Int:=(wirOf b i).1.getD k 0
def resS(b:Y47)(i k:Nat):Int:=(wirOf b i).2.1.getD k 0
def loadsV(b:Y47)(i:Nat):List Int:=loadsD (wirOf b i).2.2.1 (wirOf b i).1.length (sinksV b.2.1 i).length (nodeS b i) (capS b i) (parS b i)
theorem NetOk.sn{b:Y47}{i:Nat}(h:NetOk b i):(wirOf b i).2.2.2.length=(sinksV b.2.1 i).length:=by have:=h.wf.snk; omega
theorem NetOk.s78{b:Y47}{i:Nat}(h:NetOk b i):(sinksV b.2.1 i).length<=78:=by
 have h1:=h.df.len;have h2:=cntP_le (plcOf b.2.1) i (plcs b.2.1).length;have h3:=sinkL_len (plcOf b.2.1) i (plcs b.2.1).length;have h4:((sinksV b.2.1 i).length:Int)=cntP (plcOf b.2.1) i (plcs b.2.1).length:=h3;omega
theorem NetOk.capIn{b:Y47}{i:Nat}(h:NetOk b i){k:Nat}(hk:k < (sinksV b.2.1 i).length):0<=nodeS b i k/\(nodeS b i k).toNat < (wirOf b i).1.length/\0<=capS b i k/\capS b i k<=500:=by
 have h1:=h.wf.snkIn k (by rw[h.sn]; exact hk);have h2:=pin_cap h.df (plc_mem (sinksV_at hk).2);exact⟨h1.1,h1.2,h2.1,h2.2⟩
theorem NetOk.low{b:Y47}{i:Nat}(h:NetOk b i):∀m,m<=(sinksV b.2.1 i).length->Low (fN (capF (nodeS b i) (capS b i)) m (wirOf b i).2.2.1) (wirOf b i).1.length (500*((wirOf b i).1.length:Int)+500*(m:Int)):=fun m hm=>capF_low (low_all h.wf.cap h.wf.capOk) m (fun k hk=>h.capIn (by omega))
theorem NetOk.pull{b:Y47}{i:Nat}(h:NetOk b i):∀k,k<=(wirOf b i).1.length-1->Pull (fN (pullF (parS b i) (wirOf b i).1.length) k (fN (capF (nodeS b i) (capS b i)) (sinksV b.2.1 i).length (wirOf b i).2.2.1)) (wirOf b i).1.length k 43000:=by
 have h1:=h.low _ (Nat.le_refl _);have h2:=h.s78;have h3:=h.wf.n8;have h4:Low (fN (capF (nodeS b i) (capS b i)) (sinksV b.2.1 i).length (wirOf b i).2.2.1) (wirOf b i).1.length 43000:=⟨h1.len,h1.pos,by have:=h1.sum; omega⟩;exact pull_fold h4 (by decide) (fun k h0 hk=>h.wf.par k h0 hk)
theorem NetOk.loads{b:Y47}{i:Nat}(h:NetOk b i):(loadsV b i).length=(wirOf b i).1.length/\∀j,0<=(loadsV b i).getD j 0/\(loadsV b i).getD j 0<=43000:=by
 have:=h.pull _ (Nat.le_refl _);exact⟨this.len,fun j=>⟨this.pos j,this.bd j⟩⟩
abbrev celI(b:Y47)(i:Nat):Y92:=b.1.getD (insOf b.2.1 i).2.1.toNat (dflt y92)
theorem inst_cell'{b:Y47}(df:DF b.1 b.2.1){i:Nat}(hi:i<b.2.1.1.length):ix (insOf b.2.1 i).2.1 b.1.length/\cellOk isArcS (celI b i)=true/\(insOf b.2.1 i).2.2.length=(celI b i).2.2.1.length:=by
 have:=df.fac.inst i hi;unfold instB at this;rw[ba,ba,beq_iff_eq] at this;have h1:=inB_iff.1 this.1.1;have h2:=this.1.2;have h3:((insOf b.2.1 i).2.2.length:Int)=((celI b i).2.2.1.length:Int):=h2;exact⟨⟨h1.1,by omega⟩,lib_cell' df.lib (by omega),by omega⟩
theorem cell_arcs{c:Y92}(h:cellOk isArcS c=true):2<=c.2.2.1.length/\c.2.2.1.length<=5/\c.2.2.2.1.length<=8/\∀j,j<c.2.2.2.1.length->0<=(arcOf c j).2.1/\(arcOf c j).2.1 < (c.2.2.1.length:Int)-1/\0<=(arcOf c j).2.2.1/\(arcOf c j).2.2.1 < (c.2.2.1.length:Int):=by
 have h:cellB isArcS _ _ _ _ _ _ _ _ _=true:=h;unfold cellB arcsB at h;simp only[ba,dq] at h;have hp:=pins_last h.1.1.1.1.2;refine⟨hp.1,hp.2.1,h.1.1.1.2.1,fun j hj=>?_⟩;have:=not_any.1 h.1.1.1.2.2 j hj;rw[Bool.or_eq_false_iff,Bool.not_eq_false'] at this;have ha:=this.1;unfold isArcS at ha;rw[ba,ba] at ha;have h1:=inB_iff.1 ha.1.1;have h2:=inB_iff.1 ha.1.2;omega
theorem r121(l:List Y92)(d:Y44)(df:DF l d){p:DPlace}(hp:p∈plcs d):u121 d l p=some (capV l d p):=by
 unfold u121 capV;rcases plc_pin df hp with h | ⟨h1,h2,h3,h4,h5,h6⟩
 ·grind
 ·refine(if_neg (by grind)).trans ?_;rw[if_neg (by omega),gP ⟨oo,⟨h3,by grind⟩,⟨h5,by grind⟩,trivial⟩];rfl
theorem r120(d:Y44)(hd:wf y44 d){l:List Y92}(df:DF l d)(t:Int):u120 d t=some (sinksV d t):=by
 have hl:=df.len;unfold u120;rw[r85 d hd df.fac.ni14 df.fac.np8 df.pin,vS,gP ⟨rfl,trivial⟩,lE];exact lF (n:=(plcs d).length) (by omega) (fun i (s:List Int)=>(s,(i:Int))) (sinkL (plcOf d) t) (fun i s=>s.length<=i) (J:=fun s=>some s) (F:=u120L1 t (plcs d)) (fun g i s hi hI=>by
  have e3:((i:Int)).toNat=i:=rfl;have j2:∀s',u120J2 (i:Int) g s'=g (s',((i+1:Nat):Int)):=fun v'=>gP ⟨oo,trivial⟩;refine(if_pos (by grind)).trans ?_;have hI':s.length<=i:=hI;rw[e3,gP ⟨oo,hi,trivial⟩,lE,gP ⟨⟨by grind,by grind⟩,trivial⟩,j2,j2];show _=g (sinkL (plcOf d) t i s,_);unfold sinkL
  grind) (fun i s hi hI=>by
  grind[sinkL,List.length_append]) (fun g s _=>aE) [] (Nat.le_refl _)
theorem r95(xs:List Int)(h:xs.length<=1048576):u95 xs=some xs:=gP ⟨oo,trivial⟩
theorem r89(b:Y47)(hw:wf y47 b){i:Nat}(h:NetOk b i):u89 b (i:Int)=some (loadsV b i):=by
 have hd:=hw.2.1;have df:=h.df;have hb:=hw.2.2.1;have hi:=h.lt;have n1:=h.wf.n1;have n8:=h.wf.n8;have hsn:=h.sn;have hs:=h.s78;have hcl:=h.wf.cap;unfold u89;have e3:((i:Int)).toNat=i:=rfl;rw[gP ⟨oo,trivial⟩,lE,e3,r95 _ (by grind),vS,gP ⟨rfl,trivial⟩,lE,r85 b.2.1 hd df.fac.ni14 df.fac.np8 df.pin,vS,gP ⟨rfl,trivial⟩,lE,r120 b.2.1 hd df,vS,gP ⟨rfl,trivial⟩,lE];have key:=lF (n:=(sinksV b.2.1 i).length) (by omega) (fun k (s:List Int)=>((k:Int),s)) (capF (nodeS b i) (capS b i)) (fun k v=>Low v (wirOf b i).1.length (500*((wirOf b i).1.length:Int)+500*(k:Int))) (J:=u89J0 (wirOf b i)) (F:=u89L1 b (plcs b.2.1) (sinksV b.2.1 i) (wirOf b i)) (fun g k v hk hI=>by
  have e4:((k:Int)).toNat=k:=rfl;obtain⟨c1,c2,c3,c4⟩:=h.capIn hk;obtain⟨c5,c6⟩:=sinksV_at hk;have hv:=hI.bd (by omega) (nodeS b i k).toNat;have c1':0<=(wirOf b i).2.2.2.getD k 0:=c1;have c2':((wirOf b i).2.2.2.getD k 0).toNat<v.length:=by rw[hI.len]; exact c2
  refine(if_pos (by grind)).trans ?_;rw[e4,gP ⟨oo,hk,trivial⟩,r121 b.1 b.2.1 df (plc_mem c6),vS];rw[gP ⟨oo,⟨c1',by omega⟩,c2',⟨c5,by omega⟩,c6,rfl,⟨by grind[nodeS,capS],by grind[nodeS,capS]⟩,⟨c1',by omega⟩,c2',trivial⟩,lE];exact gP ⟨oo,trivial⟩) (fun k v hk hI=>by
  obtain⟨c1,c2,c3,c4⟩:=h.capIn hk;have:=hI.add c2 c3;refine⟨this.len,this.pos,Int.le_trans this.sum ?_⟩;omega) (fun g s _=>aE) (wirOf b i).2.2.1 (by
  have:=h.low 0 (Nat.zero_le _);exact this)
 refine key.trans ?_;have hl0:=(h.low _ (Nat.le_refl _)).len;have hp0:=h.pull 0 (Nat.zero_le _);have hL:loadsV b i=fN (pullF (parS b i) (wirOf b i).1.length) ((wirOf b i).1.length-1) (fN (capF (nodeS b i) (capS b i)) (sinksV b.2.1 i).length (wirOf b i).2.2.1):=rfl;rw[hL];have hpl:=h.pull;generalize fN (capF (nodeS b i) (capS b i)) (sinksV b.2.1 i).length (wirOf b i).2.2.1=v0 at hl0 hp0 hpl ⊢;rw[u89J0,hl0,gP ⟨oo,trivial⟩];have e5:(((wirOf b i).1.length:Int)-1,v0)=(fun(k:Nat) (s:List Int)=>(((wirOf b i).1.length:Int)-1-(k:Int),s)) 0 v0:=by simp
 rw[e5];exact lF (n:=(wirOf b i).1.length-1) (by omega) (fun(k:Nat) (s:List Int)=>(((wirOf b i).1.length:Int)-1-(k:Int),s)) (pullF (parS b i) (wirOf b i).1.length) (fun k v=>Pull v (wirOf b i).1.length k 43000) (J:=fun s=>some s) (F:=u89L3 (wirOf b i)) (fun g k v hk hI=>by
  have hp:=h.wf.par ((wirOf b i).1.length-1-k) (by omega) (by omega);have hp':0<=(wirOf b i).1.getD ((wirOf b i).1.length-1-k) 0/\((wirOf b i).1.getD ((wirOf b i).1.length-1-k) 0).toNat < (wirOf b i).1.length-1-k:=hp;have hlen:=hI.len;have e6:((wirOf b i).1.length:Int)-1-(k:Int)=(((wirOf b i).1.length-1-k:Nat):Int):=by omega
  have e7:((((wirOf b i).1.length-1-k:Nat):Int)).toNat=(wirOf b i).1.length-1-k:=rfl;have b1:=hI.pos ((wirOf b i).1.getD ((wirOf b i).1.length-1-k) 0).toNat;have b2:=hI.bd ((wirOf b i).1.getD ((wirOf b i).1.length-1-k) 0).toNat;have b3:=hI.pos ((wirOf b i).1.length-1-k);have b4:=hI.bd ((wirOf b i).1.length-1-k);have e8:((wirOf b i).1.length:Int)-1-((k+1:Nat):Int)=(((wirOf b i).1.length-1-k:Nat):Int)-1:=by omega
  show u89L3 (wirOf b i) g (((wirOf b i).1.length:Int)-1-(k:Int),v)=g (((wirOf b i).1.length:Int)-1-((k+1:Nat):Int),pullF (parS b i) (wirOf b i).1.length k v);rw[e8,e6];refine(if_pos (decide_eq_true (by omega))).trans ?_;rw[e7,gP ⟨oo,⟨hp'.1,by omega⟩,by omega,oo,by omega,oo,⟨hp'.1,by omega⟩,by omega,trivial⟩,lE];exact gP ⟨oo,trivial⟩) (fun k v hk hI=>pull_step hI hk (h.wf.par _ (by omega) (by omega))) (fun g s _=>by
  have e9:((wirOf b i).1.length:Int)-1-(((wirOf b i).1.length-1:Nat):Int)=0:=by omega
  show u89L3 (wirOf b i) g (((wirOf b i).1.length:Int)-1-(((wirOf b i).1.length-1:Nat):Int),s)=some s;rw[e9];have:u89L3 (wirOf b i) g (0,s)=u89J2 s:=by
   rw[u89L3];exact if_neg (by decide)
  exact this.trans rfl) v0 hp0
def delaysV(b:Y47)(i:Nat):List Int:=delaysD (wirOf b i).1.length (parS b i) (resS b i) (fun k=>(loadsV b i).getD k 0)
def exactV(b:Y47)(i:Nat):List Int:=fN (exF (delaysV b i) (nodeS b i)) (sinksV b.2.1 i).length []
theorem NetOk.del{b:Y47}{i:Nat}(h:NetOk b i):∀k,k<=(wirOf b i).1.length-1->(fN (delF (parS b i) (resS b i) (fun k=>(loadsV b i).getD k 0)) k [0]).length=k+1/\∀j,0<=(fN (delF (parS b i) (resS b i) (fun k=>(loadsV b i).getD k 0)) k [0]).getD j 0/\(fN (delF (parS b i) (resS b i) (fun k=>(loadsV b i).getD k 0)) k [0]).getD j 0<=1000*43000*(k:Int) :=
 delF_in (n:=(wirOf b i).1.length) (fun k hk=>h.wf.resIn k hk) (fun k _=>h.loads.2 k) (by decide)
theorem NetOk.delays{b:Y47}{i:Nat}(h:NetOk b i):(delaysV b i).length=(wirOf b i).1.length/\∀j,0<=(delaysV b i).getD j 0/\(delaysV b i).getD j 0<=301000000:=by
 have h1:=h.del _ (Nat.le_refl _);have n1:=h.wf.n1;have n8:=h.wf.n8;refine⟨h1.1.trans (by omega),fun j=>⟨(h1.2 j).1,Int.le_trans (h1.2 j).2 (by omega)⟩⟩
theorem r122(b:Y47)(hw:wf y47 b){i:Nat}(h:NetOk b i):u122 b (i:Int)=some (delaysV b i):=by
 have hi:=h.lt;have hb:=hw.2.2.1;have n1:=h.wf.n1;have n8:=h.wf.n8;have hr:=h.wf.res;obtain⟨ll,lb⟩:=h.loads;have e3:((i:Int)).toNat=i:=rfl;unfold u122;rw[r89 b hw h,vS,gP ⟨oo,rfl,trivial⟩,lE,e3];show gd ((0<=((loadsV b i).length:Int)/\((loadsV b i).length:Int)=((loadsV b i).length:Int)/\((loadsV b i).length:Int).toNat*8<=281474976710656/\((loadsV b i).length:Int)<=9223372036854775807)/\True) (lp (u122L1 (wirOf b i) (loadsV b i)) (1,List.replicate ((loadsV b i).length:Int).toNat 0))=_;rw[ll,gP ⟨⟨by omega,rfl,by omega,by omega⟩,trivial⟩];have e5:((1:Int),List.replicate ((wirOf b i).1.length:Int).toNat (0:Int))=(fun(k:Nat) (s:List Int)=>(((k+1:Nat):Int),s++List.replicate ((wirOf b i).1.length-1-k) 0)) 0 [0]:=by
  show((1:Int),List.replicate (wirOf b i).1.length (0:Int))=_;have:(wirOf b i).1.length=((wirOf b i).1.length-1)+1:=by omega
  rw[this,List.replicate_succ];rfl
 rw[e5];refine(lF (n:=(wirOf b i).1.length-1) (by omega) (fun(k:Nat) (s:List Int)=>(((k+1:Nat):Int),s++List.replicate ((wirOf b i).1.length-1-k) 0)) (delF (parS b i) (resS b i) (fun k=>(loadsV b i).getD k 0)) (fun k s=>s.length=k+1/\∀j,0<=s.getD j 0/\s.getD j 0<=1000*43000*(k:Int)) (J:=fun s=>some s) (F:=u122L1 (wirOf b i) (loadsV b i)) (fun g k s hk hI=>?_) (fun k s hk hI=>?_) (fun g s hI=>?_) [0] ?_)
 ·obtain⟨hl,hs⟩:=hI;have hp:=h.wf.par (k+1) (by omega) (by omega);have hfl:(s++List.replicate ((wirOf b i).1.length-1-k) (0:Int)).length=(wirOf b i).1.length:=by rw[List.length_append,List.length_replicate]; omega
  have e4:(((k+1:Nat):Int)).toNat=k+1:=rfl;have hg:=fill_get (n:=(wirOf b i).1.length) hl hp.2;have r1:=h.wf.resIn (k+1) (by omega);have l1:=lb (k+1);have hm:=mul_le r1.1 r1.2 l1.1 l1.2;have hs1:=hs ((wirOf b i).1.getD (k+1) 0).toNat;show u122L1 (wirOf b i) (loadsV b i) g (((k+1:Nat):Int),s++List.replicate ((wirOf b i).1.length-1-k) 0)=g (((k+1+1:Nat):Int),delF (parS b i) (resS b i) (fun k=>(loadsV b i).getD k 0) k s++List.replicate ((wirOf b i).1.length-1-(k+1)) 0);have e6:delF (parS b i) (resS b i) (fun k=>(loadsV b i).getD k 0) k s++List.replicate ((wirOf b i).1.length-1-(k+1)) 0=(s++List.replicate ((wirOf b i).1.length-1-k) 0).set (k+1) (s.getD ((wirOf b i).1.getD (k+1) 0).toNat 0+(wirOf b i).2.1.getD (k+1) 0*(loadsV b i).getD (k+1) 0):=(fill_one hl (by omega)).symm;rw[e6,<- hg];generalize s++List.replicate ((wirOf b i).1.length-1-k) (0:Int)=v at hfl hg ⊢;refine(if_pos (by grind)).trans ?_;rw[e4,gP ⟨oo,⟨hp.1,by omega⟩,by omega,oo,oo,by omega,oo,oo,oo,by omega,trivial⟩,lE];exact gP ⟨oo,trivial⟩
 ·obtain⟨hl,hs⟩:=hI;have r1:=h.wf.resIn (k+1) (by omega);have l1:=lb (k+1);have hm:=mul_le r1.1 r1.2 l1.1 l1.2
  grind[parS,delF,List.length_append,resS,loadsV,Nat.lt_or_ge,getD_left,getD_right,List.getD_cons_zero,List.getD_cons_succ,List.getD_nil]
 ·have e9:(wirOf b i).1.length-1-((wirOf b i).1.length-1)=0:=by omega
  show u122L1 (wirOf b i) (loadsV b i) g ((((wirOf b i).1.length-1+1:Nat):Int),s++List.replicate ((wirOf b i).1.length-1-((wirOf b i).1.length-1)) 0)=some s;rw[e9,List.replicate_zero,List.append_nil,<- hI.1];exact aE
 grind
theorem r90(b:Y47)(hw:wf y47 b){i:Nat}(h:NetOk b i):u90 b (i:Int)=some (exactV b i):=by
 have hi:=h.lt;have hb:=hw.2.2.1;have hsn:=h.sn;have hs:=h.s78;obtain⟨dl,db⟩:=h.delays;have e3:((i:Int)).toNat=i:=rfl;unfold u90;rw[r122 b hw h,vS,gP ⟨rfl,trivial⟩,lE,gP ⟨oo,trivial⟩,lE,e3];unfold exactV;rw[<- hsn];exact lF (n:=(wirOf b i).2.2.2.length) (by omega) (fun(k:Nat) (s:List Int)=>(s,(k:Int))) (exF (delaysV b i) (nodeS b i)) (fun k s=>s.length=k) (J:=fun s=>some s) (F:=u90L1 (delaysV b i) (wirOf b i)) (fun g k s hk hI=>by
  have e4:((k:Int)).toNat=k:=rfl;have h1:=h.wf.snkIn k hk;have hI:s.length=k:=hI;refine(if_pos (by grind)).trans ?_;rw[e4,gP ⟨oo,trivial⟩,gP ⟨⟨h1.1,by omega⟩,by omega,⟨by grind,by grind⟩,trivial⟩,lE];exact gP ⟨oo,trivial⟩) (fun k s hk hI=>by
  grind[exF,List.length_append]) (fun g s _=>aE) [] rfl
theorem r119(a:Y97):u119 a=some (transV a.1 a.2.2.2.1):=by
 unfold u119 transV;split
 ·rfl
 split
 ·rfl
 split
 ·rfl
 split
 ·rfl
 split
 ·rfl
 ·rfl
theorem r87(b:Y47)(df:DF b.1 b.2.1){i:Nat}(hi:i<b.2.1.1.length)(f:Int)(h0:0<=f)(h1:f<=1000):u87 b (insOf b.2.1 i) f=some (cellLinksD f (arcOf (celI b i)) (celI b i).2.2.2.1.length):=by
 obtain⟨x1,x2,x3⟩:=inst_cell' df hi;obtain⟨c1,c2,c3,c4⟩:=cell_arcs x2;unfold u87;rw[gP ⟨x1,trivial⟩,lE];show lp (u87L1 f (celI b i)) ([],0)=_;generalize celI b i=c at c1 c2 c3 c4;refine lF (n:=c.2.2.2.1.length) (by omega) (fun(j:Nat) (s:List DLink)=>(s,(j:Int))) (carcF f (arcOf c)) (fun j s=>s.length<=4*j) (J:=fun s=>some s) (F:=u87L1 f c) (fun g j s hj hI=>?_) (fun j s hj hI=>?_) (fun g s _=>aE) [] (Nat.le_refl _)
 ·have e4:((j:Int)).toNat=j:=rfl;obtain⟨a1,a2,a3,a4⟩:=c4 j hj;have hI:s.length<=4*j:=hI;refine(if_pos (by simpa using hj)).trans ?_;rw[e4,gP ⟨oo,trivial⟩,lE,r119,vS,gP ⟨rfl,trivial⟩,lE];show lp (u87L3 f (arcOf c j) (j:Int) (transV (arcOf c j).1 (arcOf c j).2.2.2.1) g) (0,s)=g (carcF f (arcOf c) j s,_);obtain⟨t1,t2⟩:=transV_ok (arcOf c j).1 (arcOf c j).2.2.2.1;have ec:carcF f (arcOf c) j s=fN (clinkF f (arcOf c j).2.1 (arcOf c j).2.2.1 (j:Int) (transV (arcOf c j).1 (arcOf c j).2.2.2.1)) (transV (arcOf c j).1 (arcOf c j).2.2.2.1).length s:=rfl;rw[ec];generalize transV (arcOf c j).1 (arcOf c j).2.2.2.1=tr at t1 t2;generalize arcOf c j=a at a1 a2 a3 a4;refine(lF (n:=tr.length) (by omega) (fun(k:Nat) (s:List DLink)=>((k:Int),s)) (clinkF f a.2.1 a.2.2.1 (j:Int) tr) (fun k z=>z.length=s.length+k) (J:=fun z=>u87J2 (j:Int) g z) (F:=u87L3 f a (j:Int) tr g) (fun g3 k z hk hz=>?_) (fun k z hk hz=>?_) (fun g3 z _=>aE) s rfl).trans ?_
  ·have e5:((k:Int)).toNat=k:=rfl;have ht:=t2 _ (getD_mem (d:=((0,0):Int×Int)) hk);have hz:z.length=s.length+k:=hz;refine(if_pos (by simpa using hk)).trans ?_;rw[e5,gP ⟨oo,hk,trivial⟩,lE];show gd _ _=_;rw[gP ⟨oo,oo,oo,⟨by show _<=2*(f+a.2.1)+(tr.getD k (0,0)).1; omega,by show 2*(f+a.2.1)+(tr.getD k (0,0)).1<=_; omega⟩,oo,oo,oo,⟨by show _<=2*(f+a.2.2.1)+(tr.getD k (0,0)).2; omega,by show 2*(f+a.2.2.1)+(tr.getD k (0,0)).2<=_; omega⟩,⟨by show z.length+1<=_; omega,by show(z.length+1)*32<=_; omega⟩,trivial⟩,lE];exact gP ⟨oo,trivial⟩
  ·have hz:z.length=s.length+k:=hz;unfold clinkF;rw[List.length_append,hz]; rfl
  ·exact gP ⟨oo,trivial⟩
 ·have hI:s.length<=4*j:=hI;have:=carcF_len f (arcOf c) j s;show _<=4*(j+1);omega
def instLV(b:Y47)(i:Nat)(s:Int×List DLink):Int×List DLink:=instLF (fun i=>(insOf b.2.1 i).2.2.length) (fun i=>arcOf (celI b i)) (fun i=>(celI b i).2.2.2.1.length) i s
def drvV(b:Y47)(i:Nat):Int:=drvN (plcOf b.2.1) i (plcs b.2.1).length
def clinksV(b:Y47):List DLink:=(fN (instLV b) b.2.1.1.length (0,[])).2
def lV(b:Y47):List DLink:=fN (netLF (drvV b) (fun i=>sinksV b.2.1 i)) b.2.2.length (clinksV b)
def loadsL(b:Y47):List Int:=fN (appF fun i=>(loadsV b i).getD 0 0) b.2.2.length []
def delaysL(b:Y47):List (List Int):=fN (appF fun i=>exactV b i) b.2.2.length []
def viewV(b:Y47):Y158:=(b,plcs b.2.1,lV b,loadsL b,delaysL b,[])
theorem instLV_in{b:Y47}(df:DF b.1 b.2.1)(m:Nat)(hm:m<=b.2.1.1.length):0<=(fN (instLV b) m (0,[])).1/\(fN (instLV b) m (0,[])).1<=5*(m:Int)/\(fN (instLV b) m (0,[])).2.length<=32*m :=
 instLF_in (n:=b.2.1.1.length) (fun i hi=>⟨(df.pin i hi).2,(cell_arcs (inst_cell' df hi).2.1).2.2.1⟩) m hm
def stepV(b:Y47)(i:Nat)(s:List Int×List (List Int)×List DLink):List Int×List (List Int)×List DLink:=(s.1++[(loadsV b i).getD 0 0],s.2.1++[exactV b i],netLF (drvV b) (fun i=>sinksV b.2.1 i) i s.2.2)
theorem stepV_fold(b:Y47)(z:List DLink):∀m,fN (stepV b) m ([],[],z)=(fN (appF fun i=>(loadsV b i).getD 0 0) m [],fN (appF fun i=>exactV b i) m [],fN (netLF (drvV b) (fun i=>sinksV b.2.1 i)) m z)
 | 0=>rfl
 | m+1=>by
   show stepV b m (fN (stepV b) m ([],[],z))=_;rw[stepV_fold b z m]; rfl
theorem r58(b:Y47)(hw:wf y47 b)(hb:blockOk b=true):u58 b=some (viewV b):=by
 obtain⟨hd0,hlen,hwire⟩:=block_design hb;have df:=df_of hd0;have hd:=hw.2.1;have h14:=df.fac.ni14;have h30:=df.fac.nn30;have hpl:=df.len;have hin:b.2.1.1.length<=9223372036854775807:=by omega
 have eN:∀l,u88 l=some (l.length:Int):=fun _=>rfl;unfold u58;rw[r85 b.2.1 hd df.fac.ni14 df.fac.np8 df.pin,vS,gP ⟨rfl,trivial⟩,lE];refine(lF (n:=b.2.1.1.length) hin (fun(i:Nat) (s:Int×List DLink)=>(s.1,(i:Int),s.2)) (instLV b) (fun i s=>0<=s.1/\s.1<=5*(i:Int)/\s.2.length<=32*i) (J:=fun s=>u58J0 (plcs b.2.1) b s.2) (F:=u58L1 b (plcs b.2.1)) (fun g i s hi hI=>?_) (fun i s hi hI=>?_) (fun g s _=>aE) (0,[]) ⟨Int.le_refl _,Int.le_refl _,Nat.le_refl _⟩).trans ?_
 ·have e3:((i:Int)).toNat=i:=rfl;obtain⟨f,z⟩:=s;obtain⟨i1,i2,i3⟩:=hI;have i1:0<=f:=i1;have i2:f<=5*(i:Int):=i2;have i3:z.length<=32*i:=i3;have hp:=df.pin i hi;have hcl:=cellLinksD_len f (arcOf (celI b i)) (celI b i).2.2.2.1.length;have hc8:=(cell_arcs (inst_cell' df hi).2.1).2.2.1;refine(if_pos (by grind)).trans ?_;rw[e3,gP ⟨oo,trivial⟩,lE];show gd ((u87 b (insOf b.2.1 i) f).isSome=true/\_/\True) _=_;rw[r87 b df hi f i1 (by omega),vS,gP ⟨rfl,oo,trivial⟩,lE];show gd ((u88 (insOf b.2.1 i).2.2).isSome=true/\in64 (f+vl (u88 (insOf b.2.1 i).2.2))/\True) _=_;rw[eN,vS,gP ⟨rfl,oo,trivial⟩,lE];exact gP ⟨oo,trivial⟩
 ·obtain⟨f,z⟩:=s;obtain⟨i1,i2,i3⟩:=hI;have i1:0<=f:=i1;have i2:f<=5*(i:Int):=i2;have i3:z.length<=32*i:=i3;have hp:=df.pin i hi;have hcl:=cellLinksD_len f (arcOf (celI b i)) (celI b i).2.2.2.1.length;have hc8:=(cell_arcs (inst_cell' df hi).2.1).2.2.1;refine⟨by show 0<=f+((insOf b.2.1 i).2.2.length:Int); omega,by show f+((insOf b.2.1 i).2.2.length:Int)<=_; omega,?_⟩;show(z++cellLinksD f (arcOf (celI b i)) (celI b i).2.2.2.1.length).length<=_
  grind
 have hz:=(instLV_in df _ (Nat.le_refl _)).2.2;have ecl:clinksV b=(fN (instLV b) b.2.1.1.length (0,[])).2:=rfl;unfold viewV lV loadsL delaysL;rw[ecl];generalize (fN (instLV b) b.2.1.1.length (0,[])).2=z at hz;show u58J0 (plcs b.2.1) b z=_;have hn30:b.2.2.length<=30:=by omega
 rw[u58J0,gP ⟨⟨by omega,rfl,by omega,by omega⟩,trivial⟩,gP ⟨⟨by omega,rfl,by omega,by omega⟩,trivial⟩];show lp (u58L3 (plcs b.2.1) b z) (0,List.replicate b.2.2.length [],List.replicate b.2.2.length 0)=_;have hnet:∀i,i < (plcs b.2.1).length->inB (plcOf b.2.1 i).2.2.1 0 ((b.2.2.length:Int)-1)=true:=fun i hi=>by rw[hlen]; exact df.plc _ (plc_mem hi)
 have gf:=grid_fold (plcOf b.2.1) b.2.2.length;refine(lF (n:=(plcs b.2.1).length) (by omega) (fun(i:Nat) (s:List (List Int)×List Int)=>((i:Int),s.1,s.2)) (gridF (plcOf b.2.1)) (fun i s=>s.1.length=b.2.2.length/\s.2.length=b.2.2.length/\∀k:Nat,(s.1.getD k []).length<=i) (J:=fun s=>u58J2 b (plcs b.2.1) z s) (F:=u58L3 (plcs b.2.1) b z) (fun g i s hi hI=>?_) (fun i s hi hI=>?_) (fun g s _=>aE) (List.replicate b.2.2.length [],List.replicate b.2.2.length 0) ⟨List.length_replicate,List.length_replicate,fun k=>?_⟩).trans ?_
 ·obtain⟨gr,dr⟩:=s;obtain⟨g1,g2,g3⟩:=hI;have g1:gr.length=b.2.2.length:=g1;have g2:dr.length=b.2.2.length:=g2;have g3:∀k:Nat,(gr.getD k []).length<=i:=g3;have hp:=inB_iff.1 (hnet i hi);have e3:((i:Int)).toNat=i:=rfl;have j4:∀x y,u58J4 (i:Int) g (x,y)=g (((i+1:Nat):Int),y,x):=fun x y=>gP ⟨oo,trivial⟩;have g4:=g3 (plcOf b.2.1 i).2.2.1.toNat;refine(if_pos (by grind)).trans ?_;rw[e3,gP ⟨oo,hi,trivial⟩,lE];show(if(plcOf b.2.1 i).2.2.2=true then _ else _)=g (_,(gridF (plcOf b.2.1) i (gr,dr)).1,(gridF (plcOf b.2.1) i (gr,dr)).2);unfold gridF;cases(plcOf b.2.1 i).2.2.2 with
  | true =>
    rw[if_pos rfl,if_pos rfl];show gd (ix (plcOf b.2.1 i).2.2.1 dr.length/\_/\True) _=_;rw[gP ⟨oo,by grind,trivial⟩,j4]
  | false =>
    rw[if_neg (by simp),if_neg (by simp)];show gd (ix (plcOf b.2.1 i).2.2.1 gr.length/\_) _=_;rw[gP ⟨oo,by grind,⟨by grind,by grind⟩,⟨by grind,by grind⟩,⟨by grind,rfl⟩,trivial⟩,lE,j4]
 ·obtain⟨gr,dr⟩:=s;obtain⟨g1,g2,g3⟩:=hI;have g1:gr.length=b.2.2.length:=g1;have g2:dr.length=b.2.2.length:=g2;have g3:∀k:Nat,(gr.getD k []).length<=i:=g3;have hp:=inB_iff.1 (hnet i hi);unfold gridF
  grind[List.length_set,getD_set,List.length_append]
 ·grind
 obtain⟨gl,dl,gd'⟩:=gf (plcs b.2.1).length hnet;generalize fN (gridF (plcOf b.2.1)) (plcs b.2.1).length (List.replicate b.2.2.length [],List.replicate b.2.2.length 0)=s at gl dl gd';obtain⟨gr,dr⟩:=s;have gl:gr.length=b.2.2.length:=gl;have dl:dr.length=b.2.2.length:=dl;have hgr:∀k:Nat,k<b.2.2.length->gr.getD k []=sinksV b.2.1 k:=fun k hk=>(gd' k hk).1;have hdr:∀k:Nat,k<b.2.2.length->dr.getD k 0=drvV b k:=fun k hk=>(gd' k hk).2;show lp (u58L6 dr gr b (plcs b.2.1)) (0,[],[],z)=_;refine(lF (n:=b.2.2.length) (by omega) (fun(i:Nat) (s:List Int×List (List Int)×List DLink)=>((i:Int),s.1,s.2.1,s.2.2)) (stepV b) (fun i s=>s.1.length=i/\s.2.1.length=i/\s.2.2.length<=500+160*i) (J:=fun s=>some (b,plcs b.2.1,s.2.2,s.1,s.2.1,[])) (F:=u58L6 dr gr b (plcs b.2.1)) (fun g i s hi hI=>?_) (fun i s hi hI=>?_) (fun g s _=>aE) ([],[],z) ⟨rfl,rfl,by grind⟩).trans ?_
 ·obtain⟨s1,s2,s3⟩:=s;obtain⟨i1,i2,i3⟩:=hI;have i1:s1.length=i:=i1;have i2:s2.length=i:=i2;have i3:s3.length<=500+160*i:=i3;have hno:=net_ok hb hi;have n1:=hno.wf.n1;have hs78:=hno.s78;have hll:=hno.loads.1;have e3:((i:Int)).toNat=i:=rfl;refine(if_pos (by grind)).trans ?_;rw[r89 b hw hno,vS,gP ⟨rfl,oo,by omega,⟨by grind,by grind⟩,trivial⟩,lE,r90 b hw hno,vS,gP ⟨rfl,⟨by grind,by grind⟩,trivial⟩,lE,gP ⟨oo,trivial⟩];have hsn:=hgr i hi;have hdn:=hdr i hi;have hdv:=drvN_in (plcOf b.2.1) i (plcs b.2.1).length;have hdv:0<=drvV b i/\drvV b i<=((plcs b.2.1).length:Int):=hdv;show lp (u58L8 dr (i:Int) gr s2 (exactV b i) s1 (loadsV b i) g) (0,s3)=g (_,s1++[(loadsV b i).getD 0 0],s2++[exactV b i],netLF (drvV b) (fun i=>sinksV b.2.1 i) i s3);refine(lF (n:=(sinksV b.2.1 i).length) (by omega) (fun(k:Nat) (s:List DLink)=>((k:Int),s)) (wsinkF (drvV b i) (sinksV b.2.1 i)) (fun k y=>y.length=s3.length+2*k) (J:=fun y=>u58J7 (i:Int) g (s2++[exactV b i],s1++[(loadsV b i).getD 0 0],y)) (F:=u58L8 dr (i:Int) gr s2 (exactV b i) s1 (loadsV b i) g) (fun g8 k y hk hy=>?_) (fun k y hk hy=>?_) (fun g8 y _=>?_) s3 rfl).trans ?_
  ·have hy:y.length=s3.length+2*k:=hy;obtain⟨k1,k2⟩:=sinksV_at hk;have e4:((k:Int)).toNat=k:=rfl;show u58L8 dr (i:Int) gr s2 (exactV b i) s1 (loadsV b i) g g8 ((k:Int),y)=_;rw[u58L8,e3,hsn,if_pos (by grind),gP ⟨oo,trivial⟩];show _=g8 (_,wsinkF (drvV b i) (sinksV b.2.1 i) k y);refine(lF (n:=2) (by decide) (fun(t:Nat) (x:List DLink)=>((t:Int),x)) (wlinkF (drvV b i) ((sinksV b.2.1 i).getD k 0) (k:Int)) (fun t x=>x.length=y.length+t) (J:=fun x=>u58J9 (k:Int) g8 x) (F:=u58L10 dr (i:Int) gr (k:Int) g8) (fun g10 t x ht hx=>?_) (fun t x ht hx=>?_) (fun g10 x _=>?_) y rfl).trans ?_
   ·have hx:x.length=y.length+t:=hx;show u58L10 dr (i:Int) gr (k:Int) g8 g10 ((t:Int),x)=_;rw[u58L10,e3,e4,hsn,hdn,if_pos (decide_eq_true (by omega)),gP ⟨oo,by omega,oo,oo,oo,oo,⟨by grind,by grind⟩,trivial⟩,lE];exact gP ⟨oo,trivial⟩
   ·grind[wlinkF,List.length_append]
   ·grind[u58L10]
   ·exact gP ⟨oo,trivial⟩
  ·grind[wsinkF_len]
  ·show u58L8 dr (i:Int) gr s2 (exactV b i) s1 (loadsV b i) g g8 (((sinksV b.2.1 i).length:Int),y)=_
   grind[u58L8]
  ·exact gP ⟨oo,trivial⟩
 ·obtain⟨s1,s2,s3⟩:=s;obtain⟨i1,i2,i3⟩:=hI;have i1:s1.length=i:=i1;have i2:s2.length=i:=i2;have i3:s3.length<=500+160*i:=i3;have hs78:=(net_ok hb hi).s78;refine⟨by show(s1++_).length=_; grind,by show(s2++_).length=_; grind,?_⟩;show(netLF (drvV b) (fun i=>sinksV b.2.1 i) i s3).length<=_;unfold netLF
  grind[wsink_len]
 ·rw[stepV_fold]
end Go.Proofs.YtlfeppknkfknhaaGreatDoor
end
section
namespace Go.Proofs.Xd
open Go Go.Proofs Go.Proofs.Xl
def cLink(f:Int)(a:DArc)(j:Nat)(t:Nat):DLink:=(2*(f+a.2.1)+((transV a.1 a.2.2.2.1).getD t (0,0)).1,2*(f+a.2.2.1)+((transV a.1 a.2.2.2.1).getD t (0,0)).2,1,(j:Int))
def wLink(d s:Int)(k t:Nat):DLink:=(2*d+(t:Int),2*s+(t:Int),2,(k:Int))
theorem clinkF_mem{f a b x:Int}{tr:List (Int×Int)}{s:List DLink}{l:DLink}:∀k,l∈fN (clinkF f a b x tr) k s->l∈s∨∃t,t<k/\l=(2*(f+a)+(tr.getD t (0,0)).1,2*(f+b)+(tr.getD t (0,0)).2,1,x)
 | 0,h=>.inl h
 | k+1,h=>by
   rcases List.mem_append.1 (show l∈fN (clinkF f a b x tr) k s++[_] from h) with h | h
   ·rcases clinkF_mem k h with h | ⟨t,ht,e⟩
    ·exact .inl h
    ·exact .inr ⟨t,by omega,e⟩
   ·exact .inr ⟨k,by omega,List.mem_singleton.1 h⟩
theorem carcF_mem{f:Int}{arcs:Nat->DArc}{s:List DLink}{l:DLink}:∀m,l∈fN (carcF f arcs) m s->l∈s∨∃j t,j<m/\t < (transV (arcs j).1 (arcs j).2.2.2.1).length/\l=cLink f (arcs j) j t
 | 0,h=>.inl h
 | m+1,h=>by
   rcases clinkF_mem _ (show l∈fN (clinkF f _ _ (m:Int) _) _ (fN (carcF f arcs) m s) from h) with h | ⟨t,ht,e⟩
   ·rcases carcF_mem m h with h | ⟨j,t,hj,ht,e⟩
    ·exact .inl h
    ·exact .inr ⟨j,t,by omega,ht,e⟩
   ·exact .inr ⟨m,t,by omega,ht,e⟩
theorem instLF_fst{nets:Nat->Nat}{arcs:Nat->Nat->DArc}{ms:Nat->Nat}{x:Nat->DInst}(hx:∀i,nets i=(x i).2.2.length):∀m,(fN (instLF nets arcs ms) m (0,[])).1=(offs x m:Int)
 | 0=>rfl
 | m+1=>by
   show(fN (instLF nets arcs ms) m (0,[])).1+(nets m:Int)=((offs x m+(x m).2.2.length:Nat):Int);rw[instLF_fst hx m,hx m]; omega
theorem instLF_mem{nets:Nat->Nat}{arcs:Nat->Nat->DArc}{ms:Nat->Nat}{x:Nat->DInst}(hx:∀i,nets i=(x i).2.2.length){l:DLink}:∀m,l∈(fN (instLF nets arcs ms) m (0,[])).2->∃i j t,i<m/\j<ms i/\t < (transV (arcs i j).1 (arcs i j).2.2.2.1).length/\l=cLink (offs x i:Int) (arcs i j) j t
 | 0,h=>by cases h
 | m+1,h=>by
   rcases List.mem_append.1 (show l∈(fN (instLF nets arcs ms) m (0,[])).2++cellLinksD _ _ _ from h) with h | h
   ·obtain⟨i,j,t,hi,hr⟩:=instLF_mem hx m h;exact⟨i,j,t,by omega,hr⟩
   ·rcases carcF_mem _ h with h | ⟨j,t,hj,ht,e⟩
    ·cases h
    ·rw[instLF_fst hx m] at e;exact⟨m,j,t,by omega,hj,ht,e⟩
theorem wsinkF_mem{d:Int}{sn:List Int}{z:List DLink}{l:DLink}:∀k,l∈fN (wsinkF d sn) k z->l∈z∨∃j t,j<k/\t<2/\l=wLink d (sn.getD j 0) j t
 | 0,h=>.inl h
 | k+1,h=>by
   have h:l∈(fN (wsinkF d sn) k z++[wLink d (sn.getD k 0) k 0])++[wLink d (sn.getD k 0) k 1]:=h;rcases List.mem_append.1 h with h | h
   ·rcases List.mem_append.1 h with h | h
    ·rcases wsinkF_mem k h with h | ⟨j,t,hj,ht,e⟩
     ·exact .inl h
     ·exact .inr ⟨j,t,by omega,ht,e⟩
    ·exact .inr ⟨k,0,by omega,by omega,List.mem_singleton.1 h⟩
   ·exact .inr ⟨k,1,by omega,by omega,List.mem_singleton.1 h⟩
theorem netLF_mem{d:Nat->Int}{sn:Nat->List Int}{z:List DLink}{l:DLink}:∀m,l∈fN (netLF d sn) m z->l∈z∨∃i j t,i<m/\j < (sn i).length/\t<2/\l=wLink (d i) ((sn i).getD j 0) j t
 | 0,h=>.inl h
 | m+1,h=>by
   rcases wsinkF_mem _ (show l∈fN (wsinkF (d m) (sn m)) _ (fN (netLF d sn) m z) from h) with h | ⟨j,t,hj,ht,e⟩
   ·rcases netLF_mem m h with h | ⟨i,j,t,hi,hr⟩
    ·exact .inl h
    ·exact .inr ⟨i,j,t,by omega,hr⟩
   ·exact .inr ⟨m,j,t,by omega,hj,ht,e⟩
theorem clinkF_app(f a b x:Int)(tr:List (Int×Int))(s:List DLink):∀k,fN (clinkF f a b x tr) k s=s++fN (clinkF f a b x tr) k []
 | 0=>(List.append_nil _).symm
 | k+1=>by
   show fN (clinkF f a b x tr) k s++[_]=s++(fN (clinkF f a b x tr) k []++[_]);rw[clinkF_app f a b x tr s k,List.append_assoc]
theorem carcF_app(f:Int)(arcs:Nat->DArc)(s:List DLink):∀m,fN (carcF f arcs) m s=s++cellLinksD f arcs m
 | 0=>(List.append_nil _).symm
 | m+1=>by
   show carcF f arcs m (fN (carcF f arcs) m s)=s++carcF f arcs m (cellLinksD f arcs m);rw[carcF_app f arcs s m];unfold carcF;rw[clinkF_app,clinkF_app _ _ _ _ _ (cellLinksD f arcs m),List.append_assoc]
end Go.Proofs.Xd
end
section
namespace Go.Proofs.YtlfeppknkfknhaaGreatDoor
open Go Go.Proofs Go.Proofs.Sv Go.Proofs.Xv Go.Proofs.Xl Go.Proofs.Xd
theorem r47(l:List DLink)(f t a b k i:Int)(hf:0<=f/\f<=1000)(ht:0<=t/\t<=1000)(ha:0<=a/\a<=1)(hb:0<=b/\b<=1)(hl:l.length<=100000):u47 l f t a b k i=some (l++[(2*f+a,2*t+b,k,i)]) :=
 gP ⟨oo,oo,oo,oo,⟨by grind,by grind⟩,trivial⟩
def fitsV(k s:Int)(x y:Nat):Bool:=if(k==1)=true then s==3||(s==1)==((x:Int)==(y:Int)) else if(k==2)=true then(x:Int)==0 else if(k==3)=true then(x:Int)==1 else false
def arcE(k s f t i:Int)(x y:Nat)(l:List DLink):List DLink:=if fitsV k s x y=true then l++[(2*f+(x:Int),2*t+(y:Int),1,i)] else l
theorem arcE_len(k s f t i:Int)(x y:Nat)(l:List DLink):(arcE k s f t i x y l).length<=l.length+1:=by
 grind[arcE]
theorem arcE_fold(k s f t i:Int)(x:Nat)(l:List DLink):∀n,(fN (arcE k s f t i x) n l).length<=l.length+n
 | 0=>Nat.le_refl _
 | n+1=>by
   have h:=arcE_fold k s f t i x l n
   grind[arcE_len,fN,arcE]
theorem r43(a:Y97)(l:List DLink)(f t i:Int)(hf:0<=f/\f<=1000)(ht:0<=t/\t<=1000)(hl:l.length<=90000):u43 l a f t i=some (fN (fun x s=>fN (arcE a.1 a.2.2.2.1 f t i x) 2 s) 2 l):=by
 unfold u43;refine lF (n:=2) (by decide) (fun(x:Nat) (s:List DLink)=>((x:Int),s)) (fun x s=>fN (arcE a.1 a.2.2.2.1 f t i x) 2 s) (fun x s=>s.length<=l.length+2*x) (J:=fun s=>some s) (F:=u43L1 f t i a) (fun g x s hx hI=>?_) (fun x s hx hI=>?_) (fun g s _=>by
  show u43L1 f t i a g (((2:Nat):Int),s)=_;rw[u43L1];exact if_neg (by decide)) l (Nat.le_refl _)
 ·have hI:s.length<=l.length+2*x:=hI;refine(if_pos (decide_eq_true (by omega))).trans ?_;refine(lF (n:=2) (by decide) (fun(y:Nat) (s:List DLink)=>((y:Int),s)) (arcE a.1 a.2.2.2.1 f t i x) (fun y s=>s.length<=l.length+2*x+y) (J:=fun s=>u43J2 (x:Int) g s) (F:=u43L3 f t (x:Int) i a g) (fun g' y s hy hI=>?_) (fun y s hy hI=>?_) (fun g' s _=>by
   grind[u43L3]) s hI).trans ?_
  ·have hI:s.length<=l.length+2*x+y:=hI;have j4:∀v,u43J4 (y:Int) g' v=g' (((y+1:Nat):Int),v):=fun v=>gP ⟨oo,trivial⟩;have j5:∀v,u43J5 (y:Int) s f t (x:Int) i g' v=g' (((y+1:Nat):Int),if v=true then s++[(2*f+(x:Int),2*t+(y:Int),1,i)] else s):=fun v=>by
    cases v with
    | true=>rw[u43J5,if_pos rfl,if_pos rfl,r47 s f t x y 1 i hf ht (by omega) (by omega) (by omega),gP ⟨rfl,trivial⟩,vS,lE,j4]
    | false=>grind[u43J5]
   refine(if_pos (decide_eq_true (by omega))).trans ?_
   grind[arcE,fitsV]
  ·grind[arcE_len]
  ·exact gP ⟨oo,trivial⟩
 grind[arcE_fold]
theorem arc_eq{k s:Int}(h:(k=1/\(s=1∨s=2∨s=3))∨k=2∨k=3)(fo A B i:Int)(l:List DLink):fN (fun x z=>fN (arcE k s (fo+A) (fo+B) i x) 2 z) 2 l=fN (clinkF fo A B i (transV k s)) (transV k s).length l:=by
 rcases h with ⟨rfl,rfl | rfl | rfl⟩ | rfl | rfl <;> rfl
theorem r44(d:Y44)(hd:wf y44 d){l:List Y92}(df:DF l d){i k:Nat}(hi:i<d.1.length)(hk:k < (insOf d i).2.2.length):u44 d (i:Int) (k:Int)=some ((offs (insOf d) i+k:Nat):Int)/\offs (insOf d) i+k < (plcs d).length:=by
 have hl:=df.len;have hlt:offs (insOf d) i+k < (plcs d).length:=by
  have:=offs_lt (insOf d) hi hk;unfold plcs;rw[places_len]; omega
 refine⟨?_,hlt⟩;unfold u44;rw[r50 d hd df.fac.ni14 df.fac.np8 df.pin,vS,gP ⟨rfl,trivial⟩,lE];have ho:∀j,j < (plcs d).length->((plcOf d j).1==(i:Int)&&(plcOf d j).2.1==(k:Int))=decide (j=offs (insOf d) i+k):=fun j hj=>place_only d.1.length d.2.2.length (insOf d) (prtOf d) (dflt y156) hi hk hj;have key:=idx_some (n:=(plcs d).length) (by omega) (fun j=>(plcOf d j).1==(i:Int)&&(plcOf d j).2.1==(k:Int)) (F:=u44L1 (plcs d) (i:Int) (k:Int)) (fun g j hj=>by
  have e3:((j:Int)).toNat=j:=rfl;refine(if_pos (by grind)).trans ?_;rw[e3,gP ⟨oo,hj,(fun _=>oo),(fun _=>hj),trivial⟩,gP ⟨oo,trivial⟩]) (fun g=>aE)
 grind
theorem drv_cnt{b:Y47}(hb:blockOk b=true){t:Nat}(ht:t<b.2.2.length):cntF (drvB (plcOf b.2.1) t) (plcs b.2.1).length=1:=by
 obtain⟨hd,hlen,_⟩:=block_design hb;have df:=df_of hd;have hD:designB _ _ _ _ _ _ _ _ _=true:=hd;unfold designB at hD;rw[ba] at hD;have hx:∀i,i<b.2.1.1.length->1<=(insOf b.2.1 i).2.2.length/\inB ((insOf b.2.1 i).2.2.getD ((insOf b.2.1 i).2.2.length-1) 0) 0 ((b.2.1.2.1.length:Int)-1)=true:=fun i hi=>by
  have h1:=(df.pin i hi).1;exact⟨h1,df.fac.net.1 i hi _ (by omega)⟩
 obtain⟨p1,p2⟩:=port_cnt (d:=dflt y156) hx (fun i hi=>df.fac.net.2 i hi) b.2.1.2.2.length (Nat.le_refl _);have hall:=all_getD (p:=fun x=>x==1) hD.2 (i:=t) (by
  grind[driveN])
 have h1:(driveN b.2.1.1.length b.2.1.2.2.length b.2.1.2.1.length (insOf b.2.1) (prtOf b.2.1)).getD t 0=1:=beq_iff_eq.1 hall;have h2:=p2 t (by omega);unfold driveN at h1
 grind[places_len,Int.ofNat.inj]
theorem r45(b:Y47)(hw:wf y47 b)(hb:blockOk b=true){t:Nat}(ht:t<b.2.2.length):u45 b.2.1 (t:Int)=some (drvV b t)/\0<=drvV b t/\(drvV b t).toNat < (plcs b.2.1).length:=by
 have df:=df_of (block_design hb).1;have hl:=df.len;obtain⟨i,h1,h2,h3,h4⟩:=drv_one (drv_cnt hb ht);have hv:drvV b t=(i:Int):=h4;refine⟨?_,by omega,by omega⟩;unfold u45;rw[r50 b.2.1 hw.2.1 df.fac.ni14 df.fac.np8 df.pin,vS,gP ⟨rfl,trivial⟩,lE];have key:=idx_some (n:=(plcs b.2.1).length) (by omega) (drvB (plcOf b.2.1) t) (F:=u45L1 (plcs b.2.1) (t:Int)) (fun g j hj=>by
  have e3:((j:Int)).toNat=j:=rfl;refine(if_pos (by grind)).trans ?_;rw[e3,gP ⟨oo,hj,(fun _=>oo),(fun _=>hj),trivial⟩,gP ⟨oo,trivial⟩];rfl) (fun g=>aE)
 grind
theorem arc_facts{c:Y92}(h:cellOk isArcS c=true){j:Nat}(hj:j<c.2.2.2.1.length):isArcS c.2.2.1.length (pinOf c) (arcOf c j)=true:=by
 grind[cellB,isArcS,arcsB]
theorem arc_comb{n:Nat}{p:Nat->DPin}{a:DArc}(h:isArcS n p a=true)(hk:a.1<=3):((a.1=1/\(a.2.2.2.1=1∨a.2.2.2.1=2∨a.2.2.2.1=3))∨a.1=2∨a.1=3)/\areTables a.2.2.2.2.1 true=true/\areTables a.2.2.2.2.2 true=true:=by
 unfold isArcS at h;simp only[ba] at h;obtain⟨_,h⟩:=h;by_cases h1:a.1=1
 ·rw[if_pos h1] at h;simp only[ba] at h
  grind[inB_iff]
 grind
theorem trans_none{k s:Int}(h:3<k):transV k s=[]:=by
 grind[transV]
def cellF(b:Y47)(i:Nat)(s:List DLink):List DLink:=s++cellLinksD (offs (insOf b.2.1) i) (arcOf (celI b i)) (celI b i).2.2.2.1.length
theorem cellF_fold(b:Y47):∀n,fN (cellF b) n []=(fN (instLV b) n (0,[])).2
 | 0=>rfl
 | n+1=>by
   show cellF b n (fN (cellF b) n [])=(fN (instLV b) n (0,[])).2++cellLinksD (fN (instLV b) n (0,[])).1 (arcOf (celI b n)) (celI b n).2.2.2.1.length;have h1:(fN (instLV b) n (0,[])).1=(offs (insOf b.2.1) n:Int):=instLF_fst (fun _=>rfl) n;rw[cellF_fold b n,h1]; rfl
theorem sink_place{b:Y47}(df:DF b.1 b.2.1){t:Int}{k:Nat}(hk:k < (sinksV b.2.1 t).length):0<=(sinksV b.2.1 t).getD k 0/\(sinksV b.2.1 t).getD k 0<=1000:=by
 have:=sinksV_at hk;have:=df.len;omega
theorem r20(b:Y47)(hw:wf y47 b)(hb:blockOk b=true):u20 b=some (lV b):=by
 obtain⟨hd0,hlen,hwire⟩:=block_design hb;have df:=df_of hd0;have hd:=hw.2.1;have h14:=df.fac.ni14;have h30:=df.fac.nn30;have hpl:=df.len;unfold u20;refine(lF (n:=b.2.1.1.length) (by omega) (fun(i:Nat) (s:List DLink)=>((i:Int),s)) (cellF b) (fun i s=>s.length<=32*i) (J:=u20J0 b) (F:=u20L1 b) (fun g i s hi hI=>?_) (fun i s hi hI=>?_) (fun g s _=>aE) [] (Nat.le_refl _)).trans ?_
 ·have hI:s.length<=32*i:=hI;have e3:((i:Int)).toNat=i:=rfl;obtain⟨x1,x2,x3⟩:=inst_cell' df hi;obtain⟨c1,c2,c3,c4⟩:=cell_arcs x2;have hfind:=fun k hk=>r44 b.2.1 hd df (i:=i) (k:=k) hi hk;refine(if_pos (by grind)).trans ?_;rw[e3,gP ⟨oo,x1,trivial⟩,lE];refine(lF (n:=(celI b i).2.2.2.1.length) (by omega) (fun(j:Nat) (z:List DLink)=>((j:Int),z)) (carcF (offs (insOf b.2.1) i) (arcOf (celI b i))) (fun j z=>z.length<=s.length+4*j) (J:=u20J2 (i:Int) g) (F:=u20L3 (celI b i) b (i:Int) g) (fun g' j z hj hz=>?_) (fun j z hj hz=>?_) (fun g' z _=>aE) s (Nat.le_refl _)).trans ?_
  ·have hz:z.length<=s.length+4*j:=hz;have e4:((j:Int)).toNat=j:=rfl;obtain⟨a1,a2,a3,a4⟩:=c4 j hj;have ha:=arc_facts x2 hj;have j4:∀v,u20J4 (j:Int) g' v=g' (((j+1:Nat):Int),v):=fun v=>gP ⟨oo,trivial⟩;refine(if_pos (by grind)).trans ?_;rw[e4,gP ⟨oo,trivial⟩];show(if decide ((arcOf (celI b i) j).1<=3)=true then _ else _)=g' (((j+1:Nat):Int),carcF (offs (insOf b.2.1) i) (arcOf (celI b i)) j z);by_cases hk:(arcOf (celI b i) j).1<=3
   ·refine(if_pos (decide_eq_true hk)).trans ?_;obtain⟨k1,k2,k3⟩:=arc_comb ha hk;obtain⟨A,hA⟩:∃A:Nat,(arcOf (celI b i) j).2.1=(A:Int):=⟨(arcOf (celI b i) j).2.1.toNat,by omega⟩;obtain⟨B,hB⟩:∃B:Nat,(arcOf (celI b i) j).2.2.1=(B:Int):=⟨(arcOf (celI b i) j).2.2.1.toNat,by omega⟩;obtain⟨fA,lA⟩:=hfind A (by omega);obtain⟨fB,lB⟩:=hfind B (by omega);have hs:=r43 (arcOf (celI b i) j) z ((offs (insOf b.2.1) i+A:Nat):Int) ((offs (insOf b.2.1) i+B:Nat):Int) (j:Int) (by omega) (by omega) (by omega);have ee:=arc_eq k1 (offs (insOf b.2.1) i:Int) (A:Int) (B:Int) (j:Int) z;rw[<- Int.natCast_add,<- Int.natCast_add] at ee;rw[ee] at hs;show gd (ix (j:Int) (celI b i).2.2.2.1.length/\ix (j:Int) (celI b i).2.2.2.1.length/\(u44 b.2.1 (i:Int) (arcOf (celI b i) j).2.1).isSome=true/\ix (j:Int) (celI b i).2.2.2.1.length/\(u44 b.2.1 (i:Int) (arcOf (celI b i) j).2.2.1).isSome=true/\(u43 z (arcOf (celI b i) j) (vl (u44 b.2.1 (i:Int) (arcOf (celI b i) j).2.1)) (vl (u44 b.2.1 (i:Int) (arcOf (celI b i) j).2.2.1)) (j:Int)).isSome=true/\True) (lt (vl (u43 z (arcOf (celI b i) j) (vl (u44 b.2.1 (i:Int) (arcOf (celI b i) j).2.1)) (vl (u44 b.2.1 (i:Int) (arcOf (celI b i) j).2.2.1)) (j:Int))) fun v=>u20J4 (j:Int) g' v)=_;rw[hA,hB,fA,fB,vS,vS,hs,vS,gP ⟨oo,oo,rfl,oo,rfl,rfl,trivial⟩,lE,j4]
    grind[carcF]
   ·refine(if_neg (by grind)).trans ?_;rw[j4];unfold carcF;rw[trans_none (by omega)];rfl
  ·grind[carcF_len]
  ·rw[carcF_app];exact gP ⟨oo,trivial⟩
 ·have hI:s.length<=32*i:=hI;obtain⟨x1,x2,x3⟩:=inst_cell' df hi;have c3:=(cell_arcs x2).2.2.1;have:=cellLinksD_len (offs (insOf b.2.1) i) (arcOf (celI b i)) (celI b i).2.2.2.1.length
  grind[cellF,List.length_append]
 ·have hcl:(fN (cellF b) b.2.1.1.length []).length<=500:=by
   have:=instLV_in df b.2.1.1.length (Nat.le_refl _);rw[cellF_fold];omega
  have hcv:fN (cellF b) b.2.1.1.length []=clinksV b:=cellF_fold b _;unfold lV;rw[hcv] at hcl ⊢;generalize clinksV b=z at hcl ⊢;unfold u20J0;rw[hlen];refine lF (n:=b.2.1.2.1.length) (by omega) (fun(i:Nat) (s:List DLink)=>((i:Int),s)) (netLF (drvV b) (fun i=>sinksV b.2.1 i)) (fun i s=>s.length<=500+160*i) (J:=fun s=>some s) (F:=u20L6 b) (fun g i s hi hI=>?_) (fun i s hi hI=>?_) (fun g s _=>aE) z hcl
  ·have hI:s.length<=500+160*i:=hI;have hi':i<b.2.2.length:=by omega
   have hs78:=(net_ok hb hi').s78;obtain⟨d1,d2,d3⟩:=r45 b hw hb hi';have es:u46 b.2.1 (i:Int)=some (sinksV b.2.1 i):=r46 b.2.1 hd df _;refine(if_pos (by grind)).trans ?_;rw[d1,vS,gP ⟨rfl,trivial⟩,lE,es,vS,gP ⟨rfl,trivial⟩,lE];refine(lF (n:=(sinksV b.2.1 i).length) (by omega) (fun(k:Nat) (y:List DLink)=>((k:Int),y)) (wsinkF (drvV b i) (sinksV b.2.1 i)) (fun k y=>y.length=s.length+2*k) (J:=u20J7 (i:Int) g) (F:=u20L8 (drvV b i) (sinksV b.2.1 i) (i:Int) g) (fun g8 k y hk hy=>?_) (fun k y hk hy=>?_) (fun g8 y _=>aE) s rfl).trans ?_
   ·have hy:y.length=s.length+2*k:=hy;have e4:((k:Int)).toNat=k:=rfl;have hsp:=sink_place df hk;have p1:=r47 y (drvV b i) ((sinksV b.2.1 i).getD k 0) 0 0 2 (k:Int) (by omega) hsp oo oo (by omega);have p2:=r47 (y++[(2*drvV b i+0,2*(sinksV b.2.1 i).getD k 0+0,2,(k:Int))]) (drvV b i) ((sinksV b.2.1 i).getD k 0) 1 1 2 (k:Int) (by omega) hsp oo oo (by grind);refine(if_pos (by grind)).trans ?_;rw[e4,p1,vS,gP ⟨oo,hk,rfl,trivial⟩,lE,p2,vS,gP ⟨oo,hk,rfl,trivial⟩,lE];exact gP ⟨oo,trivial⟩
   ·grind[wsinkF_len]
   ·exact gP ⟨oo,trivial⟩
  ·have hI:s.length<=500+160*i:=hI;have hs78:=(net_ok hb (show i<b.2.2.length by omega)).s78;unfold netLF
   grind[wsink_len]
theorem links_len{b:Y47}(hb:blockOk b=true):(lV b).length<=6000:=by
 have df:=df_of (block_design hb).1;have h14:=df.fac.ni14;have h1:=instLV_in df b.2.1.1.length (Nat.le_refl _);have h2:=netL_len (drvV b) (fun i=>sinksV b.2.1 i) (clinksV b) (n:=b.2.2.length) (c:=78) (fun i hi=>(net_ok hb hi).s78) b.2.2.length (Nat.le_refl _);have h3:=(block_design hb).2.1;have h30:=df.fac.nn30;have h4:(clinksV b).length=(fN (instLV b) b.2.1.1.length (0,[])).2.length:=rfl
 grind[lV]
theorem link_is{b:Y47}{l:DLink}(h:l∈lV b):(∃i j t,i<b.2.1.1.length/\j < (celI b i).2.2.2.1.length/\t < (transV (arcOf (celI b i) j).1 (arcOf (celI b i) j).2.2.2.1).length/\l=cLink (offs (insOf b.2.1) i:Int) (arcOf (celI b i) j) j t) ∨
  ∃i k t,i<b.2.2.length/\k < (sinksV b.2.1 i).length/\t<2/\l=wLink (drvV b i) ((sinksV b.2.1 i).getD k 0) k t:=by
 rcases netLF_mem _ h with h | h
 ·exact .inl (instLF_mem (fun _=>rfl) _ h)
 grind
theorem drvN_lt(pl:Nat->DPlace)(t:Int):∀m,0<m->drvN pl t m<m
 | 1,_=>by
   have e:drvN pl t 1=if((pl 0).2.2.1==t&&(pl 0).2.2.2)=true then((0:Nat):Int) else 0:=rfl
   rw[e];split <;> simp
 | m+2,_=>by
   have e:drvN pl t (m+2)=if((pl (m+1)).2.2.1==t&&(pl (m+1)).2.2.2)=true then((m+1:Nat):Int) else drvN pl t (m+1):=rfl
   have:=drvN_lt pl t (m+1) (by omega);omega
theorem link_nodes{b:Y47}(hb:blockOk b=true){l:DLink}(h:l∈lV b):0<=l.1/\l.1<2*((plcs b.2.1).length:Int)/\0<=l.2.1/\l.2.1<2*((plcs b.2.1).length:Int):=by
 obtain⟨hd,hlen,_⟩:=block_design hb;have df:=df_of hd;rcases link_is h with ⟨i,j,t,hi,hj,ht,rfl⟩ | ⟨i,k,t,hi,hk,ht,rfl⟩
 ·obtain⟨x1,x2,x3⟩:=inst_cell' df hi;obtain⟨c1,c2,c3,c4⟩:=cell_arcs x2;obtain⟨a1,a2,a3,a4⟩:=c4 j hj;obtain⟨A,hA⟩:∃A:Nat,(arcOf (celI b i) j).2.1=(A:Int):=⟨(arcOf (celI b i) j).2.1.toNat,by omega⟩;obtain⟨B,hB⟩:∃B:Nat,(arcOf (celI b i) j).2.2.1=(B:Int):=⟨(arcOf (celI b i) j).2.2.1.toNat,by omega⟩;have hAn:A < (insOf b.2.1 i).2.2.length:=by omega
  have hBn:B < (insOf b.2.1 i).2.2.length:=by omega
  have lA:offs (insOf b.2.1) i+A < (plcs b.2.1).length:=by
   have:=offs_lt (insOf b.2.1) hi hAn;unfold plcs;rw[places_len]; omega
  have lB:offs (insOf b.2.1) i+B < (plcs b.2.1).length:=by
   have:=offs_lt (insOf b.2.1) hi hBn;unfold plcs;rw[places_len]; omega
  have tr:=(transV_ok _ _).2 _ (getD_mem (d:=(0,0)) ht);have e1:(cLink (offs (insOf b.2.1) i:Int) (arcOf (celI b i) j) j t).1=2*((offs (insOf b.2.1) i:Int)+(A:Int))+((transV (arcOf (celI b i) j).1 (arcOf (celI b i) j).2.2.2.1).getD t (0,0)).1:=by
   rw[<- hA]; rfl
  have e2:(cLink (offs (insOf b.2.1) i:Int) (arcOf (celI b i) j) j t).2.1=2*((offs (insOf b.2.1) i:Int)+(B:Int))+((transV (arcOf (celI b i) j).1 (arcOf (celI b i) j).2.2.2.1).getD t (0,0)).2:=by
   rw[<- hB]; rfl
  omega
 ·obtain⟨q,h1,h2,h3,_⟩:=sinkL_in (plcOf b.2.1) i (plcs b.2.1).length _ (getD_mem (d:=0) hk);have h1:(sinksV b.2.1 i).getD k 0=(q:Int):=h1;have d1:=(drvN_in (plcOf b.2.1) i (plcs b.2.1).length).1;have d2:=drvN_lt (plcOf b.2.1) i (plcs b.2.1).length (by omega);have e1:(wLink (drvV b i) ((sinksV b.2.1 i).getD k 0) k t).1=2*drvN (plcOf b.2.1) i (plcs b.2.1).length+(t:Int):=rfl;have e2:(wLink (drvV b i) ((sinksV b.2.1 i).getD k 0) k t).2.1=2*(q:Int)+(t:Int):=by
   rw[<- h1]; rfl
  omega
section
variable (b:Y47)
def nodN:Nat:=2*(plcs b.2.1).length
def frN(i:Nat):Nat:=((lV b).getD i (dflt y148)).1.toNat
def toN(i:Nat):Nat:=((lV b).getD i (dflt y148)).2.1.toNat
theorem frto(hb:blockOk b=true){i:Nat}(hi:i < (lV b).length):((lV b).getD i (dflt y148)).1=(frN b i:Int)/\((lV b).getD i (dflt y148)).2.1=(toN b i:Int)/\frN b i<nodN b/\toN b i<nodN b:=by
 obtain⟨h1,h2,h3,h4⟩:=link_nodes hb (getD_mem (d:=dflt y148) hi)
 grind[frN,toN,nodN]
theorem nod_le(hb:blockOk b=true):nodN b<=1000000:=by
 have hl:=(df_of (block_design hb).1).len
 grind[nodN]
theorem r61(hb:blockOk b=true):u61 (viewV b)=some (nodN b:Int):=by
 have hl:=(df_of (block_design hb).1).len;have e:∀s:List Y156,u94 s=some (s.length:Int):=fun _=>rfl;unfold u61;rw[e,vS,gP ⟨rfl,⟨by omega,by show 2*((plcs b.2.1).length:Int)<=_; omega⟩,trivial⟩,lE];unfold nodN;rw[Int.natCast_mul];rfl
theorem r22(hw:wf y47 b)(hb:blockOk b=true):u22 b=some (nodN b:Int):=by
 have df:=df_of (block_design hb).1;have hl:=df.len;unfold u22;rw[r50 b.2.1 hw.2.1 df.fac.ni14 df.fac.np8 df.pin,vS,gP ⟨rfl,⟨by omega,by grind⟩,trivial⟩,lE]
 grind[nodN,Int.natCast_mul]
end
def hasB(l:List Int)(x:Int):Bool:=(List.range l.length).any fun j=>l.getD j 0==x
theorem r51(l:List Int)(x:Int)(hl:l.length<=9223372036854775807):u51 l x=some (hasB l x):=by
 have key:=lp_all hl (fun j=>l.getD j 0==x) (some true) (e:=some false) (F:=u51L1 l x) (fun g i hi=>by
  have e3:((i:Int)).toNat=i:=rfl;refine(if_pos (decide_eq_true (by omega))).trans ((gP ⟨oo,trivial⟩).trans ?_);rw[e3];by_cases h:(l.getD i 0==x)=true
  ·simp_all
  ·rw[if_neg h,if_neg h];exact gP ⟨oo,trivial⟩) (fun g=>if_neg (by simp))
 refine key.trans ?_
 grind[hasB,List.range]
def liveV(M:Nat)(br:List Int):List Bool:=fN (appF fun k=>!hasB br (k:Int)) M []
theorem r23(ls:List Y148)(br:List Int)(h1:ls.length<=1048576)(h2:br.length<=1048576):u23 ls br=some (liveV ls.length br):=by
 refine(lF (n:=ls.length) (by omega) (fun i (s:List Bool)=>((i:Int),s)) (appF fun k=>!hasB br (k:Int)) (fun i s=>s.length=i) (J:=fun s=>some s) (F:=u23L1 br ls) (fun g i s hi hs=>?_) (fun i s _ hs=>by show(s++[_]).length=_; grind) (fun g s _=>if_neg (by simp)) [] rfl).trans rfl;have e3:((i:Int)).toNat=i:=rfl;refine(if_pos (decide_eq_true (by omega))).trans ?_;rw[r51 br _ (by omega),vS];refine(gP ⟨rfl,⟨by grind,by grind⟩,trivial⟩).trans ?_;exact gP ⟨oo,trivial⟩
def brokB(M:Nat)(br:List Int):Bool:=br.all (inB · 0 ((M:Int)-1))&&incB br
theorem inc_nil:u93 []=some true:=by
 unfold u93;refine lp_zero (fun n hn=>?_);obtain⟨m,rfl⟩:∃m,n=m+1:=⟨n-1,by omega⟩;rfl
theorem r930(xs:List Int)(h:xs.length<=9223372036854775807):u93 xs=some (incB xs):=by
 cases xs with
 | nil=>exact inc_nil
 | cons x r=>grind[r93]
theorem r59{b:Y47}(hb:blockOk b=true)(br:List Int)(h:br.length<=1048576):u59 (viewV b) br=some (brokB (lV b).length br):=by
 have hl:=links_len hb;have e:u92 (viewV b).2.2.1=some ((lV b).length:Int):=rfl;unfold u59;rw[e,vS,r91 br 0 _ (by omega),vS,r930 br (by omega),vS,gP ⟨rfl,oo,rfl,(fun _=>rfl),trivial⟩];rfl
theorem r42(M:Nat)(br:List Int)(hM:M<=1048576)(h:br.length<=1048576):u42 br (M:Int)=some (brokB M br):=by
 have key:=lp_all (n:=br.length) (by omega) (fun i=>!inB (br.getD i 0) 0 ((M:Int)-1)||(decide (0<i)&&decide (br.getD i 0<=br.getD (i-1) 0))) (some false) (e:=some true) (F:=u42L1 br (M:Int)) (fun g i hi=>by
  have e3:((i:Int)).toNat=i:=rfl;have e4:((i:Int)-1).toNat=i-1:=by omega
  refine(if_pos (decide_eq_true (by omega))).trans ?_;rw[r80,vS,e3,e4];refine(gP ⟨oo,oo,rfl,(fun hc=>oo),(fun hc=>⟨by have:=of_decide_eq_true hc.1; omega,by omega⟩),(fun _=>oo),trivial⟩).trans ?_;have ed:decide ((0:Int) < (i:Int))=decide (0<i):=by
   rw[decide_eq_decide]; omega
  rw[ed];by_cases hc:(!inB (br.getD i 0) 0 ((M:Int)-1)||(decide (0<i)&&decide (br.getD i 0<=br.getD (i-1) 0)))=true
  ·rw[if_pos hc,if_pos hc]
  ·rw[if_neg hc,if_neg hc];exact gP ⟨oo,trivial⟩) (fun g=>if_neg (by simp))
 refine key.trans ?_;have e:brokB M br=!((List.range br.length).any fun i=>!inB (br.getD i 0) 0 ((M:Int)-1)||(decide (0<i)&&decide (br.getD i 0<=br.getD (i-1) 0))):=by
  unfold brokB incB;rw[Bool.eq_iff_iff];simp only[ba,Bool.not_eq_true',<- Bool.not_eq_true,List.any_eq_true,List.all_eq_true,List.mem_range,Bool.or_eq_true];constructor
  ·grind
  ·intro hn;refine⟨fun x hx=>?_,fun⟨i,hi,hc⟩=>hn ⟨i,hi,.inr hc⟩⟩;obtain⟨i,hi,rfl⟩:=List.getElem_of_mem hx
   simp_all
 grind
theorem foldN_foldl{σ:Type}(g:σ->Nat->σ)(l:List Nat)(s:σ):fN (fun i s=>g s (l.getD i 0)) l.length s=l.foldl g s:=by
 have key:∀n,n<=l.length->fN (fun i s=>g s (l.getD i 0)) n s=(l.take n).foldl g s:=by
  intro n
  induction n with
  | zero=>intro _; rfl
  | succ n ih =>
    intro hn;have e:l.take (n+1)=l.take n++[l.getD n 0]:=by
     rw[List.take_add_one,gq,List.getElem?_eq_getElem (by omega)];rfl
    rw[e,List.foldl_append,<- ih (by omega)];rfl
 have:=key l.length (Nat.le_refl _)
 rwa [List.take_length] at this
theorem tr_fold(M:Nat):∀m,m<=M->(fN (fun i (s:List Bool)=>s.set i true) m (List.replicate M false)).length=M/\∀k,k<m->(fN (fun i (s:List Bool)=>s.set i true) m (List.replicate M false)).getD k false=true:=by
 intro m
 induction m with
 | zero=>exact fun _=>⟨List.length_replicate,fun k hk=>by omega⟩
 | succ m ih =>
   intro hm;obtain⟨h1,h2⟩:=ih (by omega);refine⟨by show(List.set _ _ _).length=M; grind,fun k hk=>?_⟩;show(List.set _ _ _).getD k false=true;rw[setB_get _ (by omega)]
   grind
theorem br_fold(br:List Int)(s:List Bool):∀m,(∀j,j<m->(br.getD j 0).toNat<s.length)->(fN (fun i (s:List Bool)=>s.set (br.getD i 0).toNat false) m s).length=s.length/\∀k,(fN (fun i (s:List Bool)=>s.set (br.getD i 0).toNat false) m s).getD k false=(s.getD k false&&!(List.range m).any fun j=>(br.getD j 0).toNat==k):=by
 intro m
 induction m with
 | zero=>exact fun _=>⟨rfl,fun k=>by show s.getD k false=_; simp⟩
 | succ m ih =>
   intro hm;obtain⟨h1,h2⟩:=ih (fun j hj=>hm j (by omega));refine⟨by show(List.set _ _ _).length=_; grind,fun k=>?_⟩;show(List.set _ _ _).getD k false=_
   grind
def idxV(p:Nat->Bool)(M:Nat):List Int:=((List.range M).filter p).map fun i:Nat=>(i:Int)
theorem idxV_fold(p:Nat->Bool):∀m,fN (fun i (s:List Int)=>if p i=true then s++[(i:Int)] else s) m []=idxV p m
 | 0=>rfl
 | m+1=>by
   show(if p m=true then fN _ m []++[(m:Int)] else fN _ m [])=_;rw[idxV_fold p m];unfold idxV;rw[List.range_succ,List.filter_append,List.map_append]
   grind
theorem idxV_len(p:Nat->Bool)(M:Nat):(idxV p M).length<=M/\(idxV p M).length=((List.range M).filter p).length:=by
 unfold idxV
 grind
theorem idxV_get(p:Nat->Bool)(M i:Nat):(idxV p M).getD i 0=((((List.range M).filter p).getD i 0:Nat):Int):=by
 grind[idxV,List.range]
theorem filt_lt{p:Nat->Bool}{M i:Nat}(h:i < ((List.range M).filter p).length):((List.range M).filter p).getD i 0<M:=by
 grind[getD_mem]
section
variable {b:Y47}
theorem r60(hb:blockOk b=true){br:List Int}(hbr:brokB (lV b).length br=true)(hl:br.length<=1048576):u60 (viewV b) br=some (viewV b,liveV (lV b).length br):=by
 have hM:=links_len hb;have hbr:=hbr;unfold brokB at hbr;rw[ba] at hbr;have hin:∀j,j<br.length->0<=br.getD j 0/\br.getD j 0 < ((lV b).length:Int):=fun j hj=>by
  grind[inB_iff,all_getD]
 obtain⟨t1,t2⟩:=tr_fold (lV b).length (lV b).length (Nat.le_refl _);obtain⟨f1,f2⟩:=br_fold br (fN (fun i (s:List Bool)=>s.set i true) (lV b).length (List.replicate (lV b).length false)) br.length (fun j hj=>by
  have:=hin j hj;omega)
 have hres:fN (fun i (s:List Bool)=>s.set (br.getD i 0).toNat false) br.length (fN (fun i (s:List Bool)=>s.set i true) (lV b).length (List.replicate (lV b).length false))=liveV (lV b).length br:=by
  refine list_eq false (by rw[f1,t1]; exact(appF_len _ _).symm) (fun k hk=>?_);have hk:k < (lV b).length:=by rw[f1,t1] at hk; exact hk
  rw[f2,t2 k hk,Bool.true_and];refine Eq.trans ?_ (appF_get (fun k=>!hasB br (k:Int)) false _ k hk).symm;congr 1;unfold hasB;rw[Bool.eq_iff_iff,List.any_eq_true,List.any_eq_true];constructor
  ·grind
  ·grind
 unfold u60;have eM:((viewV b).2.2.1.length:Int)=((lV b).length:Int):=rfl;rw[eM,Int.toNat_natCast];refine(gP ⟨⟨by omega,rfl,by omega,by omega⟩,trivial⟩).trans ?_;rw[lE,List.length_replicate];refine(lF (n:=(lV b).length) (by omega) (fun i (s:List Bool)=>((i:Int),s)) (fun i s=>s.set i true) (fun _ s=>s.length=(lV b).length) (J:=fun s=>u60J0 br (viewV b) s) (F:=u60L1 br (viewV b) ((lV b).length:Int)) (fun g i s hi hs=>?_) (fun i s _ hs=>by grind) (fun g s _=>if_neg (by simp)) (List.replicate (lV b).length false) List.length_replicate).trans ?_
 ·have e3:((i:Int)).toNat=i:=rfl;refine(if_pos (decide_eq_true (by omega))).trans ?_;refine(gP ⟨oo,by omega,trivial⟩).trans ?_;exact gP ⟨oo,trivial⟩
 ·show u60J0 br (viewV b) _=_;rw[u60J0];refine(lF (n:=br.length) (by omega) (fun i (s:List Bool)=>((i:Int),s)) (fun i s=>s.set (br.getD i 0).toNat false) (fun _ s=>s.length=(lV b).length) (J:=fun s=>some (viewV b,s)) (F:=u60L3 br (viewV b)) (fun g i s hi hs=>?_) (fun i s _ hs=>by grind) (fun g s _=>if_neg (by simp)) _ t1).trans ?_
  ·have e3:((i:Int)).toNat=i:=rfl;have:=hin i hi;refine(if_pos (decide_eq_true (by omega))).trans ?_;refine(gP ⟨oo,trivial⟩).trans ?_;rw[e3];refine(gP ⟨oo,by omega,trivial⟩).trans ?_;exact gP ⟨oo,trivial⟩
  grind
end
section
variable {b:Y47}
end
section
variable {b:Y47}
theorem live_len(M:Nat)(br:List Int):(liveV M br).length=M:=appF_len _ _
end
def codeG(b:Y47)(br:List Int):Int:=if blockOk b=true then(if brokB (lV b).length br=true then 0 else 2) else 1
theorem r19(b:Y47)(hw:wf y47 b)(hm:cnt y47 b<=1048576)(br:List Int)(hl:br.length<=1048576):u19 b br=some (codeG b br):=by
 unfold u19 codeG;rw[r41 b hw hm,vS,gP ⟨rfl,trivial⟩];cases hb:blockOk b with
 | false=>rfl
 | true =>
   have hM:=links_len hb;refine(if_neg (by simp)).trans ?_;rw[r20 b hw hb,vS,r42 _ br (by omega) hl,gP ⟨rfl,rfl,trivial⟩,lE,r42 _ br (by omega) hl,vS]
   grind
theorem r27(b:Y47)(hw:wf y47 b)(hm:cnt y47 b<=1048576)(br:List Int)(hl:br.length<=1048576):u27 b br=some (if codeG b br=0 then .inr ((viewV b,liveV (lV b).length br),0) else .inl (codeG b br)):=by
 unfold u27 codeG;rw[r57 b hw hm,vS,gP ⟨rfl,trivial⟩];cases hb:blockOk b with
 | false=>rfl
 | true =>
   refine(if_neg (by simp)).trans ?_;rw[r58 b hw hb,vS,gP ⟨rfl,trivial⟩,lE,r59 hb br hl,vS,gP ⟨rfl,trivial⟩];cases hr:brokB (lV b).length br with
   | false=>rfl
   | true =>
     refine(if_neg (by simp)).trans ?_;rw[r60 hb hr hl,vS,gP ⟨rfl,trivial⟩,lE];rfl
theorem codeG_ok{b:Y47}{br:List Int}(h:codeG b br=0):blockOk b=true/\brokB (lV b).length br=true:=by
 unfold codeG at h;split at h
 ·rename_i hb;split at h
  ·rename_i hr; exact⟨hb,hr⟩
  ·cases h
 ·cases h
section
variable {b:Y47}
end
end Go.Proofs.YtlfeppknkfknhaaGreatDoor
end
section
namespace Go.Proofs.Xd
open Go.Proofs.Xl
inductive Rch(M:Nat)(fr to:Nat->Nat)(lv:Nat->Bool)(s:Nat):Nat->Prop
 | refl:Rch M fr to lv s s
 | step {i:Nat}:Rch M fr to lv s (fr i)->i<M->lv i=true->Rch M fr to lv s (to i)
theorem Rch.trans{M:Nat}{fr to:Nat->Nat}{lv:Nat->Bool}{a b c:Nat}(h:Rch M fr to lv a b)(k:Rch M fr to lv b c):Rch M fr to lv a c:=by
 induction k with
 | refl=>exact h
 | step _ hi hl ih=>exact ih.step hi hl
theorem Rch.one{M:Nat}{fr to:Nat->Nat}{lv:Nat->Bool}{i:Nat}(hi:i<M)(hl:lv i=true):Rch M fr to lv (fr i) (to i):=Rch.refl.step hi hl
theorem Rch.head{M:Nat}{fr to:Nat->Nat}{lv:Nat->Bool}{i c:Nat}(hi:i<M)(hl:lv i=true)(k:Rch M fr to lv (to i) c):Rch M fr to lv (fr i) c:=(Rch.one hi hl).trans k
theorem Rch.back{M:Nat}{fr to:Nat->Nat}{lv:Nat->Bool}{a b:Nat}(h:Rch M fr to lv a b):Rch M to fr lv b a:=by
 induction h with
 | refl=>exact .refl
 | step _ hi hl ih=>grind[Rch.head]
theorem Rch.lt{M N:Nat}{fr to:Nat->Nat}{lv:Nat->Bool}(ht:∀i,i<M->to i<N){a b:Nat}(h:Rch M fr to lv a b)(ha:a<N):b<N:=by
 cases h with
 | refl=>exact ha
 | step _ hi _=>grind
section
variable (M N:Nat) (fr to:Nat->Nat) (lv:Nat->Bool)
def RB(s:Nat)(L:List Bool):Prop:=L.length=N/\∀v,v<N->(L.getD v false=true↔Rch M fr to lv s v)
theorem RB.uniq{M N:Nat}{fr to:Nat->Nat}{lv:Nat->Bool}{s:Nat}{L K:List Bool}(h:RB M N fr to lv s L)(k:RB M N fr to lv s K):L=K :=
 list_eq false (h.1.trans k.1.symm) fun i hi=>by
  have hi':i<N:=by rw[<- h.1]; exact hi
  rw[Bool.eq_iff_iff,h.2 i hi',k.2 i hi']
structure RI(s:Nat)(r:List Bool):Prop where
 len:r.length=N
 src:r.getD s false=true
 snd:∀v,r.getD v false=true->Rch M fr to lv s v
theorem RI.done{M N:Nat}{fr to:Nat->Nat}{lv:Nat->Bool}{s:Nat}{r:List Bool}(h:RI M N fr to lv s r)(hc:∀i,i<M->lv i=true->r.getD (fr i) false=true->r.getD (to i) false=true):RB M N fr to lv s r :=
 ⟨h.len,fun v hv=>⟨h.snd v,fun hr=>by
   clear hv
   induction hr with
   | refl=>exact h.src
   | step _ hi hl ih=>grind⟩⟩
def cntT(r:List Bool):Nat:=r.countP id
theorem cntT_set{r:List Bool}{i:Nat}(hi:i<r.length)(h:r.getD i false=false):cntT (r.set i true)=cntT r+1:=by
 grind[List.getD_cons_zero,cntT]
theorem cntT_le(r:List Bool):cntT r<=r.length:=List.countP_le_length
def swS(k:Nat)(s:List Bool×Bool):List Bool×Bool:=if(lv k&&s.1.getD (fr k) false&&!s.1.getD (to k) false)=true then(s.1.set (to k) true,true) else s
theorem sw_fold(ht:∀i,i<M->to i<N){s:Nat}{r:List Bool}(h:RI M N fr to lv s r):∀m,m<=M->RI M N fr to lv s (fN (swS fr to lv) m (r,false)).1 /\
  ((fN (swS fr to lv) m (r,false)).2=false->(fN (swS fr to lv) m (r,false)).1=r/\∀i,i<m->lv i=true->r.getD (fr i) false=true->r.getD (to i) false=true) /\
  ((fN (swS fr to lv) m (r,false)).2=true->cntT r<cntT (fN (swS fr to lv) m (r,false)).1)/\cntT r<=cntT (fN (swS fr to lv) m (r,false)).1:=by
 intro m
 induction m with
 | zero=>intro _; exact⟨h,fun _=>⟨rfl,fun i hi=>by omega⟩,(fun h=>by cases h),Nat.le_refl _⟩
 | succ m ih =>
   intro hm;obtain⟨i1,i2,i3,i4⟩:=ih (by omega);show RI M N fr to lv s (swS fr to lv m (fN (swS fr to lv) m (r,false))).1/\((swS fr to lv m (fN (swS fr to lv) m (r,false))).2=false->(swS fr to lv m (fN (swS fr to lv) m (r,false))).1=r/\_)/\((swS fr to lv m (fN (swS fr to lv) m (r,false))).2=true->_<cntT (swS fr to lv m (fN (swS fr to lv) m (r,false))).1)/\_<=cntT (swS fr to lv m (fN (swS fr to lv) m (r,false))).1;generalize fN (swS fr to lv) m (r,false)=q at i1 i2 i3 i4 ⊢;unfold swS;split
   ·rename_i hc;simp only[ba,Bool.not_eq_true'] at hc;obtain⟨⟨c1,c2⟩,c3⟩:=hc;have hlt:to m<q.1.length:=by rw[i1.len]; exact ht m (by omega)
    have hcs:=cntT_set hlt c3;refine⟨⟨by rw[List.length_set,i1.len],?_,fun v hv=>?_⟩,(fun h=>by cases h),fun _=>by show cntT r<cntT (q.1.set (to m) true); omega,by show cntT r<=cntT (q.1.set (to m) true); omega⟩
    ·show(q.1.set (to m) true).getD s false=true;rw[setB_get true hlt];split
     ·rfl
     ·exact i1.src
    ·rw[setB_get true hlt] at hv;split at hv
     ·rename_i e;subst e;exact(i1.snd _ c2).step (by omega) c1
     ·exact i1.snd v hv
   grind
theorem sweep_lp{ρ:Type}(ht:∀i,i<M->to i<N)(hN:N<=1000000){s:Nat}(hs:s<N){F:(List Bool×Bool->Option ρ)->List Bool×Bool->Option ρ}{J:List Bool->Option ρ}
  (hF:∀g (q:List Bool×Bool),q.1.length=N->F g q=if q.2=true then g (fN (swS fr to lv) M (q.1,false)) else J q.1):∃L,RB M N fr to lv s L/\lp F ((List.replicate N false).set s true,true)=J L:=by
 have h0:RI M N fr to lv s ((List.replicate N false).set s true):=by
  have hl:s < (List.replicate N false).length:=by rw[List.length_replicate]; exact hs
  refine⟨by rw[List.length_set,List.length_replicate],by rw[setB_get true hl,if_pos rfl],fun v hv=>?_⟩;rw[setB_get true hl] at hv;split at hv
  ·rename_i e; subst e; exact .refl
  ·grind
 obtain⟨q,⟨_,hq⟩,hc,he⟩:=lp_meas (J:=fun q:List Bool×Bool=>J q.1) (fun q=>2*(N-cntT q.1)+q.2.toNat) (fun q=>RI M N fr to lv s q.1/\(q.2=false->RB M N fr to lv s q.1)) (fun q=>q.2) (fun q=>fN (swS fr to lv) M (q.1,false))
  (fun g q hq=>hF g q hq.1.len) (fun q hq hc=>by
    obtain⟨i1,i2,i3,i4⟩:=sw_fold M N fr to lv ht hq.1 M (Nat.le_refl _);refine⟨⟨i1,fun h=>?_⟩,?_⟩
    ·obtain⟨e,hh⟩:=i2 h;rw[e];exact hq.1.done hh
    ·have l1:=cntT_le (fN (swS fr to lv) M (q.1,false)).1;rw[i1.len] at l1;show 2*(N-cntT (fN (swS fr to lv) M (q.1,false)).1)+(fN (swS fr to lv) M (q.1,false)).2.toNat<2*(N-cntT q.1)+q.2.toNat;rw[hc];cases h:(fN (swS fr to lv) M (q.1,false)).2 with
     | true=>grind
     | false=>grind) (((List.replicate N false).set s true),true) ⟨h0,fun h=>by cases h⟩ (by grind)
 grind
def cntU(r:List Bool):Nat:=(List.range M).countP fun i=>lv i&&!r.getD (fr i) false
def nxtV(v:Nat):List Int:=((List.range M).filter fun i=>lv i&&fr i==v).map fun i=>(to i:Int)
structure QI(s:Nat)(q:List Int×List Bool):Prop where
 len:q.2.length=N
 mem:∀x∈q.1,0<=x/\x.toNat<N/\Rch M fr to lv s x.toNat
 snd:∀v,q.2.getD v false=true->Rch M fr to lv s v
 src:q.2.getD s false=true∨(s:Int)∈q.1
 cls:∀i,i<M->lv i=true->q.2.getD (fr i) false=true->q.2.getD (to i) false=true∨(to i:Int)∈q.1
 cnt:q.1.length+cntU M fr lv q.2<=M+1
def quN(q:List Int×List Bool):List Int×List Bool:=if q.2.getD (q.1.getD 0 0).toNat false=true then(q.1.drop 1,q.2) else(q.1.drop 1++nxtV M fr to lv (q.1.getD 0 0).toNat,q.2.set (q.1.getD 0 0).toNat true)
theorem cntU_set{r:List Bool}{x:Nat}(hx:x<r.length)(h:r.getD x false=false):cntU M fr lv r=(nxtV M fr to lv x).length+cntU M fr lv (r.set x true):=by
 have e:(nxtV M fr to lv x).length=(List.range M).countP fun i=>lv i&&fr i==x:=by
  unfold nxtV;rw[List.length_map,List.countP_eq_length_filter]
 rw[e];unfold cntU;refine countP_split _ _ _ _ fun i _=>?_
 grind
theorem qu_step(ht:∀i,i<M->to i<N){s:Nat}{q:List Int×List Bool}(h:QI M N fr to lv s q)(hq:0<q.1.length):QI M N fr to lv s (quN M fr to lv q)/\(quN M fr to lv q).1.length+cntU M fr lv (quN M fr to lv q).2<q.1.length+cntU M fr lv q.2:=by
 obtain⟨o,r⟩:=q;cases o with
 | nil=>grind
 | cons x t =>
   obtain⟨x0,x1,x2⟩:=h.mem x (by simp);have hl:=h.len;have hx:x.toNat<r.length:=by rw[show r.length=N from hl]; exact x1
   unfold quN;simp only[List.getD_cons_zero,List.drop_succ_cons,List.drop_zero];by_cases hr:r.getD x.toNat false=true
   ·rw[if_pos hr];have hxx:(x.toNat:Int)=x:=by omega
    refine⟨⟨hl,fun y hy=>h.mem y (List.mem_cons_of_mem _ hy),h.snd,?_,fun i hi hv hf=>?_,?_⟩,?_⟩
    ·rcases h.src with h' | h'
     ·grind
     grind
    ·rcases h.cls i hi hv hf with h' | h'
     ·grind
     grind
    ·have h9:(x :: t).length+cntU M fr lv r<=M+1:=h.cnt;rw[List.length_cons] at h9;show t.length+cntU M fr lv r<=_;omega
    grind
   ·rw[if_neg hr];have hr:r.getD x.toNat false=false:=by simpa using hr
    have hcu:=cntU_set M fr to lv hx hr;have hget:=fun v=>setB_get (v:=v) true hx;refine⟨⟨by grind,fun y hy=>?_,fun v hv=>?_,?_,fun i hi hv hf=>?_,?_⟩,?_⟩
    ·rcases List.mem_append.1 hy with hy | hy
     ·exact h.mem y (List.mem_cons_of_mem _ hy)
     ·unfold nxtV at hy;obtain⟨i,hi,rfl⟩:=List.mem_map.1 hy;rw[List.mem_filter,List.mem_range] at hi;simp only[ba,beq_iff_eq] at hi;exact⟨by omega,by grind,by
       rw[Int.toNat_natCast];refine Rch.step ?_ hi.1 hi.2.1
       grind⟩
    ·have hv:(r.set x.toNat true).getD v false=true:=hv;rw[hget] at hv;split at hv
     ·grind
     ·exact h.snd v hv
    ·show(r.set x.toNat true).getD s false=true∨_;rw[hget];split
     ·grind
     ·rename_i hne;rcases h.src with h' | h'
      ·grind
      grind
    ·have hf:(r.set x.toNat true).getD (fr i) false=true:=hf;show(r.set x.toNat true).getD (to i) false=true∨(to i:Int)∈t++nxtV M fr to lv x.toNat;rw[hget] at hf ⊢;by_cases e:fr i=x.toNat
     ·right;refine List.mem_append_right _ ?_;unfold nxtV
      grind
     ·rw[if_neg e] at hf;by_cases e2:to i=x.toNat
      ·grind
      ·rw[if_neg e2];rcases h.cls i hi hv hf with h' | h'
       ·grind
       grind
    ·have:=h.cnt;simp only[List.length_cons] at this;show(t++nxtV M fr to lv x.toNat).length+cntU M fr lv (r.set x.toNat true)<=_;rw[List.length_append];omega
    grind
theorem queue_lp{ρ:Type}(ht:∀i,i<M->to i<N)(hM:M<=2000000){s:Nat}(hs:s<N){F:(List Int×List Bool->Option ρ)->List Int×List Bool->Option ρ}{J:List Bool->Option ρ}
  (hF:∀g (q:List Int×List Bool),q.2.length=N->(∀x∈q.1,0<=x/\x.toNat<N)->q.1.length<=M+1->F g q=if decide (0<q.1.length)=true then g (quN M fr to lv q) else J q.2):∃L,RB M N fr to lv s L/\lp F ([(s:Int)],List.replicate N false)=J L:=by
 have hrep:∀v,(List.replicate N false).getD v false=false:=fun v=>by
  grind
 have h0:QI M N fr to lv s ([(s:Int)],List.replicate N false):=by
  refine⟨by simp,fun x hx=>?_,fun v hv=>?_,.inr (by simp),fun i _ _ hf=>?_,?_⟩
  ·rw[List.mem_singleton.1 hx];exact⟨by omega,by omega,by rw[Int.toNat_natCast]; exact .refl⟩
  ·grind
  ·grind
  ·grind[cntU,List.replicate,countP_rng]
 obtain⟨q,hq,hc,he⟩:=lp_meas (J:=fun q:List Int×List Bool=>J q.2) (fun q=>q.1.length+cntU M fr lv q.2) (QI M N fr to lv s) (fun q=>decide (0<q.1.length)) (quN M fr to lv)
  (fun g q hq=>hF g q hq.len (fun x hx=>⟨(hq.mem x hx).1,(hq.mem x hx).2.1⟩) (by have:=hq.cnt; omega)) (fun q hq hc=>qu_step M N fr to lv ht hq (of_decide_eq_true hc)) _ h0 (by have h9:[(s:Int)].length+cntU M fr lv (List.replicate N false)<=M+1:=h0.cnt; show [(s:Int)].length+cntU M fr lv (List.replicate N false)<=_; omega)
 have hnil:q.1=[]:=List.eq_nil_of_length_eq_zero (by grind);refine⟨q.2,RI.done ⟨hq.len,?_,hq.snd⟩ fun i hi hl hf=>?_,he⟩
 ·rcases hq.src with h | h
  ·exact h
  grind
 ·rcases hq.cls i hi hl hf with h | h
  ·exact h
  grind
end
end Go.Proofs.Xd
end
section
namespace Go.Proofs.YtlfeppknkfknhaaGreatDoor
open Go Go.Proofs Go.Proofs.Sv Go.Proofs.Xv Go.Proofs.Xl Go.Proofs.Xd
theorem lp_mk{σ τ ρ:Type}(mk:σ->τ){F:(τ->Option ρ)->τ->Option ρ}{G:(σ->Option ρ)->σ->Option ρ}(h:∀g s,F g (mk s)=G (fun s=>g (mk s)) s)(s:σ):lp F (mk s)=lp G s:=by
 have key:∀n s,itF F n (mk s)=itF G n s:=by
  intro n
  induction n with
  | zero=>intro s; rfl
  | succ n ih =>
    intro s;show F (itF F n) (mk s)=G (itF G n) s
    simp_all
 exact key _ s
theorem nxtV_succ(fr to:Nat->Nat)(lv:Nat->Bool)(v k:Nat):nxtV (k+1) fr to lv v=if(lv k&&fr k==v)=true then nxtV k fr to lv v++[(to k:Int)] else nxtV k fr to lv v:=by
 unfold nxtV;rw[List.range_succ,List.filter_append,List.map_append]
 grind
theorem nxtV_len(fr to:Nat->Nat)(lv:Nat->Bool)(v k:Nat):(nxtV k fr to lv v).length<=k:=by
 grind[nxtV,List.length_map,List.length_filter_le,List.range,List.length_range]
def grF(fr to:Nat->Nat)(lv:Nat->Bool)(k:Nat)(s:List (List Int)):List (List Int):=if lv k=true then s.set (fr k) (s.getD (fr k) []++[(to k:Int)]) else s
theorem setL_get{o:List (List Int)}{i v:Nat}(x:List Int)(hi:i<o.length):(o.set i x).getD v []=if v=i then x else o.getD v []:=by
 grind
theorem grF_step{N:Nat}(fr to:Nat->Nat)(lv:Nat->Bool){k:Nat}{s:List (List Int)}(hf:fr k<N)(hs:s.length=N/\∀v,s.getD v []=nxtV k fr to lv v):(grF fr to lv k s).length=N/\∀v,(grF fr to lv k s).getD v []=nxtV (k+1) fr to lv v:=by
 obtain⟨h1,h2⟩:=hs;unfold grF;cases hl:lv k with
 | false =>
   refine⟨h1,fun v=>?_⟩;rw[nxtV_succ,hl,if_neg (by simp),if_neg (by simp)]
   grind
 | true =>
   rw[if_pos rfl];refine⟨by grind,fun v=>?_⟩;rw[setL_get _ (by omega),nxtV_succ,hl]
   grind
section
variable {b:Y47}
def srcN(b:Y47)(fw:Bool):Nat->Nat:=if fw=true then frN b else toN b
def dstN(b:Y47)(fw:Bool):Nat->Nat:=if fw=true then toN b else frN b
theorem srcN_lt(hb:blockOk b=true)(fw:Bool){i:Nat}(hi:i < (lV b).length):srcN b fw i<nodN b/\dstN b fw i<nodN b:=by
 obtain⟨_,_,h1,h2⟩:=frto b hb hi;cases fw
 ·exact⟨h2,h1⟩
 ·exact⟨h1,h2⟩
theorem r48(hb:blockOk b=true){lv:List Bool}(hlv:lv.length=(lV b).length){s:Nat}(hs:s<nodN b)(fw:Bool):∃L,RB (lV b).length (nodN b) (srcN b fw) (dstN b fw) (fun i=>lv.getD i false) s L/\u48 (nodN b:Int) (lV b) lv (s:Int) fw=some L:=by
 have hM:=links_len hb;have hN:=nod_le b hb;unfold u48;have e0:((nodN b:Int)).toNat=nodN b:=rfl;have e1:((s:Int)).toNat=s:=rfl;rw[e0,e1,gP ⟨⟨by omega,rfl,by omega,by omega⟩,trivial⟩,gP ⟨by rw[List.length_replicate]; exact oo,by grind,trivial⟩];obtain⟨L,h1,h2⟩:=sweep_lp (ρ:=List Bool) (lV b).length (nodN b) (srcN b fw) (dstN b fw) (fun i=>lv.getD i false) (fun i hi=>(srcN_lt hb fw hi).2) hN hs (F:=fun g q=>u48L1 lv fw (lV b) (fun t=>g (t.2,t.1)) (q.2,q.1)) (J:=fun L=>some L) (fun g q hq=>by
  obtain⟨r,c⟩:=q;cases c with
  | false=>rfl
  | true =>
    refine Eq.trans (if_pos (c:=(true:Bool)=true) (t:=lp (u48L2 lv fw (lV b) fun t=>g (t.2,t.1)) (false,0,r)) (e:=u48J0 r) rfl) ?_;show _=g (fN (swS (srcN b fw) (dstN b fw) fun i=>lv.getD i false) (lV b).length (r,false));refine lF (n:=(lV b).length) (by omega) (fun(k:Nat) (s:List Bool×Bool)=>(s.2,(k:Int),s.1)) (swS (srcN b fw) (dstN b fw) fun i=>lv.getD i false) (fun _ s=>s.1.length=nodN b) (J:=fun s=>g (s.1,s.2)) (F:=u48L2 lv fw (lV b) fun t=>g (t.2,t.1)) (fun g' k s hk hI=>?_) (fun k s hk hI=>?_) (fun g' s _=>aE) (r,false) hq
    ·obtain⟨a1,a2,_,_⟩:=frto b hb hk;obtain⟨l1,l2⟩:=srcN_lt hb fw hk;have hI:s.1.length=nodN b:=hI;have e3:((k:Int)).toNat=k:=rfl;have key:u48J4 (k:Int) s.1 s.2 lv g' ((srcN b fw k:Int),(dstN b fw k:Int))=g' ((swS (srcN b fw) (dstN b fw) (fun i=>lv.getD i false) k s).2,((k+1:Nat):Int),(swS (srcN b fw) (dstN b fw) (fun i=>lv.getD i false) k s).1):=by
      refine(gP ⟨oo,(fun _=>oo),(fun _=>by omega),(fun _=>oo),(fun _=>by omega),trivial⟩).trans ?_;unfold swS;by_cases h:(lv.getD k false&&s.1.getD (srcN b fw k) false&&!s.1.getD (dstN b fw k) false)=true
      ·rw[if_pos h];refine(if_pos h).trans ?_;refine(gP ⟨oo,by omega,trivial⟩).trans ?_;exact gP ⟨oo,trivial⟩
      ·rw[if_neg h];refine(if_neg h).trans ?_;exact gP ⟨oo,trivial⟩
     refine(if_pos (by grind)).trans ?_;refine(gP ⟨oo,oo,trivial⟩).trans ?_;rw[lE,e3];cases fw with
     | false =>
       refine(if_pos rfl).trans ?_;rw[a1,a2];exact key
     | true =>
       refine(if_neg (by simp)).trans ?_;rw[a1,a2];exact key
    grind[nodN,swS,set,List.length_set])
 refine⟨L,h1,Eq.trans ?_ h2⟩;exact lp_mk (fun q:List Bool×Bool=>(q.2,q.1)) (fun g s=>rfl) ((List.replicate (nodN b) false).set s true,true)
theorem r62c63(hb:blockOk b=true){lv:List Bool}(hlv:lv.length=(lV b).length){s':Nat}(hs:s'<nodN b):∃L,RB (lV b).length (nodN b) (srcN b true) (dstN b true) (fun i=>lv.getD i false) s' L/\u62c63 (viewV b,lv) [(s':Int)]=some L:=by
 have hM:=links_len hb;have hN:=nod_le b hb;unfold u62c63;have e0:((nodN b:Int)).toNat=nodN b:=rfl;have en:u61 ((viewV b,lv):Y158×List Bool).1=some (nodN b:Int):=r61 b hb;rw[en,vS,e0,gP ⟨rfl,⟨by omega,rfl,by omega,by omega⟩,trivial⟩,lE];have hg0:(List.replicate (nodN b) ([]:List Int)).length=nodN b/\∀v,(List.replicate (nodN b) ([]:List Int)).getD v []=nxtV 0 (srcN b true) (dstN b true) (fun i=>lv.getD i false) v:=⟨List.length_replicate,fun v=>by
  rw[gq,List.getElem?_replicate];split <;> rfl⟩
 obtain⟨L,h1,h2⟩:=queue_lp (ρ:=List Bool) (lV b).length (nodN b) (srcN b true) (dstN b true) (fun i=>lv.getD i false) (fun i hi=>(srcN_lt hb true hi).2) (by omega) hs (F:=u62c63L4 (fN (grF (srcN b true) (dstN b true) fun i=>lv.getD i false) (lV b).length (List.replicate (nodN b) []))) (J:=fun L=>some L) (fun g q hq hm hl=>by
  obtain⟨o,r⟩:=q;have hgr:∀m,m<=(lV b).length->(fN (grF (srcN b true) (dstN b true) fun i=>lv.getD i false) m (List.replicate (nodN b) [])).length=nodN b/\∀v,(fN (grF (srcN b true) (dstN b true) fun i=>lv.getD i false) m (List.replicate (nodN b) [])).getD v []=nxtV m (srcN b true) (dstN b true) (fun i=>lv.getD i false) v:=by
   intro m
   induction m with
   | zero=>intro _; exact hg0
   | succ m ih=>intro hm; exact grF_step _ _ _ (srcN_lt hb true (by omega)).1 (ih (by omega))
  obtain⟨g1,g2⟩:=hgr _ (Nat.le_refl _);generalize fN (grF (srcN b true) (dstN b true) fun i=>lv.getD i false) (lV b).length (List.replicate (nodN b) [])=gr at g1 g2;have hq:r.length=nodN b:=hq;have hl:o.length<=(lV b).length+1:=hl;by_cases h0:0<o.length
  ·refine Eq.trans ?_ (if_pos (decide_eq_true h0)).symm;obtain⟨x0,x1⟩:=hm (o.getD 0 0) (getD_mem h0);refine(if_pos (decide_eq_true (by omega))).trans ?_;refine(gP ⟨oo,by show 0<o.length; omega,trivial⟩).trans ?_;refine(gP ⟨⟨by omega,by omega,by omega⟩,trivial⟩).trans ?_;show gd (ix (o.getD 0 0) r.length/\(o.getD 0 0).toNat<r.length/\True) (if(!r.getD (o.getD 0 0).toNat false)=true then _ else _)=_;refine(gP ⟨oo,by omega,trivial⟩).trans ?_;unfold quN;show _=g (if r.getD (o.getD 0 0).toNat false=true then(o.drop 1,r) else(o.drop 1++nxtV (lV b).length (srcN b true) (dstN b true) (fun i=>lv.getD i false) (o.getD 0 0).toNat,r.set (o.getD 0 0).toNat true));cases hr:r.getD (o.getD 0 0).toNat false with
   | true =>
     refine(if_neg (by simp)).trans ?_;rw[if_pos rfl];rfl
   | false =>
     refine(if_pos rfl).trans ?_;rw[if_neg (by simp)];refine(gP ⟨⟨by show 0<=o.getD 0 0; omega,by show o.getD 0 0<_; omega⟩,by show(o.getD 0 0).toNat<_; omega,trivial⟩).trans ?_;rw[lE];have hl':o.length<=(lV b).length+1:=hl;have hd:(o.drop 1).length<=(lV b).length:=by rw[List.length_drop]; omega
     have hnl:=nxtV_len (srcN b true) (dstN b true) (fun i=>lv.getD i false) (o.getD 0 0).toNat (lV b).length;have e5:gr.getD (Int.toNat (o.getD (Int.toNat (0:Int)) (0:Int))) []=nxtV (lV b).length (srcN b true) (dstN b true) (fun i=>lv.getD i false) (o.getD 0 0).toNat:=g2 _;rw[e5];refine(gP ⟨⟨by show 0<=o.getD 0 0; omega,by show o.getD 0 0<_; omega⟩,⟨by show(o.drop 1).length+_<=_; omega,by show((o.drop 1).length+_)*8<=_; omega⟩,trivial⟩).trans ?_;rw[lE];rfl
  ·refine Eq.trans ?_ (if_neg (by simpa using h0)).symm;exact if_neg (by show ¬decide ((0:Int) < (o.length:Int))=true; rw[dq]; omega))
 refine⟨L,h1,?_⟩;refine(lF (n:=(lV b).length) (by omega) (fun(k:Nat) (s:List (List Int))=>((k:Int),s)) (grF (srcN b true) (dstN b true) fun i=>lv.getD i false) (fun k s=>s.length=nodN b/\∀v,s.getD v []=nxtV k (srcN b true) (dstN b true) (fun i=>lv.getD i false) v) (J:=fun s=>u62c63J0 [(s':Int)] (viewV b,lv) s) (F:=u62c63L1 (viewV b,lv) [(s':Int)]) (fun g k s hk hI=>?_) (fun k s hk hI=>grF_step _ _ _ (srcN_lt hb true hk).1 hI) (fun g s _=>aE) _ hg0).trans ?_
 ·obtain⟨a1,a2,_,_⟩:=frto b hb hk;obtain⟨l1,l2⟩:=srcN_lt hb true hk;obtain⟨i1,i2⟩:=hI;have e3:((k:Int)).toNat=k:=rfl;have hn:=nxtV_len (srcN b true) (dstN b true) (fun i=>lv.getD i false) (srcN b true k) k;refine(if_pos (by show decide ((k:Int) < ((lV b).length:Int))=true; simpa using hk)).trans ?_;refine(gP ⟨⟨by omega,by show(k:Int) < ((lV b).length:Int); omega⟩,trivial⟩).trans ?_;rw[lE,e3];have ef:u63 ((lV b).getD k (dflt y148))=some ((srcN b true k:Int),(dstN b true k:Int)):=by
   unfold u63;rw[a1,a2];rfl
  show gd ((u63 ((lV b).getD k (dflt y148))).isSome=true/\True) (lt (vl (u63 ((lV b).getD k (dflt y148)))) fun v8=>_)=_;rw[ef,vS,gP ⟨rfl,trivial⟩,lE];refine(gP ⟨⟨by omega,by show(k:Int) < (lv.length:Int); omega⟩,trivial⟩).trans ?_;rw[show grF (srcN b true) (dstN b true) (fun i=>lv.getD i false) k s=if lv.getD k false=true then s.set (srcN b true k) (s.getD (srcN b true k) []++[(dstN b true k:Int)]) else s from rfl];cases hl:lv.getD k false with
  | false =>
    refine(if_neg Bool.false_ne_true).trans ?_;refine(gP (V:=in64 ((k:Int)+1)/\True) ⟨oo,trivial⟩).trans ?_;rfl
  | true =>
    refine(if_pos (show(true:Bool)=true from rfl)).trans ?_;have e6:s.getD ((srcN b true k:Int)).toNat []=nxtV k (srcN b true) (dstN b true) (fun i=>lv.getD i false) (srcN b true k):=i2 _;refine(gP ⟨⟨by show 0<=(srcN b true k:Int); omega,by show(srcN b true k:Int)<_; omega⟩,by show srcN b true k<_; omega,⟨by show(s.getD ((srcN b true k:Int)).toNat []).length+1<=_; rw[e6]; omega,by show((s.getD ((srcN b true k:Int)).toNat []).length+1)*8<=_; rw[e6]; omega⟩,⟨by show 0<=(srcN b true k:Int); omega,by show(srcN b true k:Int)<_; omega⟩,⟨by show srcN b true k<_; omega,rfl⟩,trivial⟩).trans ?_;refine(gP (V:=in64 ((k:Int)+1)/\True) ⟨oo,trivial⟩).trans ?_;rfl
 ·show u62c63J0 [(s':Int)] (viewV b,lv) (fN _ _ _)=_;unfold u62c63J0;rw[en,vS,e0,gP ⟨rfl,⟨by omega,rfl,by omega,by omega⟩,trivial⟩,lE,r95 _ (by show 1<=_; omega),vS,gP ⟨rfl,trivial⟩,lE];exact h2
end
section
variable {b:Y47}
end
section
variable {b:Y47}
end
def orB(p:Nat->Bool)(N:Nat)(S:List Bool):List Bool:=(List.range N).map fun w=>S.getD w false||p w
theorem mapB_get(f:Nat->Bool)(N w:Nat):((List.range N).map f).getD w false=if w<N then f w else false:=by
 rw[gq,List.getElem?_map];by_cases h:w<N
 ·rw[if_pos h,List.getElem?_range h]; rfl
 ·rw[if_neg h,List.getElem?_eq_none (by rw[List.length_range]; omega)]; rfl
theorem orB_len(p:Nat->Bool)(N:Nat)(S:List Bool):(orB p N S).length=N:=by
 unfold orB;rw[List.length_map,List.length_range]
theorem orB_get(p:Nat->Bool)(N:Nat)(S:List Bool){w:Nat}(h:w<N):(orB p N S).getD w false=(S.getD w false||p w):=by
 unfold orB;rw[mapB_get,if_pos h]
def mkD(N v:Nat)(S:List Bool):List Bool:=(List.range N).map fun w=>decide (w<v)||S.getD w false
theorem mkD_len(N v:Nat)(S:List Bool):(mkD N v S).length=N:=by
 unfold mkD;rw[List.length_map,List.length_range]
theorem mkD_get(N v:Nat)(S:List Bool){w:Nat}(h:w<N):(mkD N v S).getD w false=(decide (w<v)||S.getD w false):=by
 unfold mkD;rw[mapB_get,if_pos h]
theorem filt_one{N:Nat}{p:Nat->Bool}(h:((List.range N).filter p).length<2){v w:Nat}(hv:v<N)(pv:p v=true)(hw:w<N)(pw:p w=true):w=v:=by
 have m1:v∈(List.range N).filter p:=List.mem_filter.2 ⟨List.mem_range.2 hv,pv⟩;have m2:w∈(List.range N).filter p:=List.mem_filter.2 ⟨List.mem_range.2 hw,pw⟩;generalize (List.range N).filter p=l at h m1 m2
 match l,h with
 | [],_=>cases m1
 | [x],_=>rw[List.mem_singleton.1 m1,List.mem_singleton.1 m2]
 | x :: y :: r,h=>simp at h; omega
theorem set_spec(p:Nat->Bool)(N:Nat)(D:List Bool)(hD:D.length=N):∀m,m<=N->(fN (fun w (s:List Bool)=>if p w=true then s.set w true else s) m D).length=N/\∀w,w<N->(fN (fun w (s:List Bool)=>if p w=true then s.set w true else s) m D).getD w false=(D.getD w false||(decide (w<m)&&p w))
 | 0,_=>⟨hD,fun w _=>by simp[fN]⟩
 | m+1,h=>by
   obtain⟨h1,h2⟩:=set_spec p N D hD m (by omega);show(if p m=true then List.set _ m true else _:List Bool).length=N/\∀w,w<N->(if p m=true then List.set _ m true else _:List Bool).getD w false=_;by_cases hp:p m=true
   ·rw[if_pos hp];refine⟨by rw[List.length_set,h1],fun w hw=>?_⟩;rw[setB_get true (by omega)];by_cases e:w=m
    ·subst e; rw[if_pos rfl,decide_eq_true (by omega),hp]; simp
    ·rw[if_neg e,h2 w hw,Bool.eq_iff_iff];have:(w<m+1)↔w<m:=by omega
     simp[this]
   ·rw[if_neg hp];refine⟨h1,fun w hw=>?_⟩;rw[h2 w hw];by_cases e:w=m
    ·subst e;have hp:p w=false:=by simpa using hp
     simp[hp]
    ·have:(w<m+1)↔w<m:=by omega
     simp[this]
theorem set_specN(p:Nat->Bool)(N:Nat)(D:List Bool)(hD:D.length=N):fN (fun w (s:List Bool)=>if p w=true then s.set w true else s) N D=orB p N D:=by
 obtain⟨h1,h2⟩:=set_spec p N D hD N (Nat.le_refl _);refine list_eq false (by rw[h1,orB_len]) fun w hw=>?_;rw[h1] at hw;rw[h2 w hw,orB_get _ _ _ hw,decide_eq_true hw,Bool.true_and]
theorem set_implN(p:Nat->Bool)(N:Nat)(D:List Bool)(hD:D.length=N):fN (fun k (s:List Bool)=>s.set (((List.range N).filter p).getD k 0) true) ((List.range N).filter p).length D=orB p N D:=by
 rw[foldN_foldl (fun(s:List Bool) v=>s.set v true)];have hm:∀v∈(List.range N).filter p,v<D.length:=fun v hv=>by rw[hD]; exact List.mem_range.1 (List.mem_filter.1 hv).1
 refine list_eq false (by rw[(setsB_get _ D hm 0).1,orB_len,hD]) fun w hw=>?_;rw[(setsB_get _ D hm 0).1,hD] at hw;rw[(setsB_get _ D hm w).2,orB_get _ _ _ hw,Bool.or_comm];congr 1;rw[Bool.eq_iff_iff,List.contains_iff_mem,List.mem_filter,List.mem_range];exact⟨fun h=>h.2,fun h=>⟨hw,h⟩⟩
theorem any_filt(M:Nat)(q:Nat->Bool):(List.range M).any q=decide (0 < ((idxV q M).length:Int)):=by
 rw[Bool.eq_iff_iff,List.any_eq_true,dq,(idxV_len q M).2];constructor
 ·rintro⟨x,h1,h2⟩;have:x∈(List.range M).filter q:=List.mem_filter.2 ⟨h1,h2⟩;have:=List.length_pos_of_mem this;omega
 ·intro h;obtain⟨x,hx⟩:=List.exists_mem_of_length_pos (show 0 < ((List.range M).filter q).length by omega);exact⟨x,List.mem_filter.1 hx⟩
section
variable {b:Y47}
def rowV(b:Y47)(lv:List Bool)(v:Nat):List Bool:=vl (u62c63 (viewV b,lv) [(v:Int)])
theorem row_ok(hb:blockOk b=true){lv:List Bool}(hlv:lv.length=(lV b).length){v:Nat}(hv:v<nodN b):RB (lV b).length (nodN b) (frN b) (toN b) (fun i=>lv.getD i false) v (rowV b lv v)/\u62c63 (viewV b,lv) [(v:Int)]=some (rowV b lv v):=by
 obtain⟨L,h1,h2⟩:=r62c63 hb hlv hv;unfold rowV;rw[h2];exact⟨h1,rfl⟩
def clP(b:Y47)(lv:List Bool)(v w:Nat):Bool:=(rowV b lv v).getD w false&&(rowV b lv w).getD v false
def clV(b:Y47)(lv:List Bool)(v:Nat):List Int:=idxV (clP b lv v) (nodN b)
def selfB(b:Y47)(lv:List Bool)(v:Nat):Bool:=decide (0 < ((idxV (fun k=>lv.getD k false&&(frN b k==v&&toN b k==v)) (lV b).length).length:Int))
def cndB(b:Y47)(lv:List Bool)(v:Nat):Bool:=decide (1 < ((clV b lv v).length:Int))||selfB b lv v
def lpStep(b:Y47)(lv:List Bool)(v:Nat)(s:List Bool×List (List Int)):List Bool×List (List Int):=if s.1.getD v false=true then s else if cndB b lv v=true then(orB (clP b lv v) (nodN b) s.1,s.2++[clV b lv v]) else s
def loopsV(b:Y47)(lv:List Bool):List (List Int):=(fN (lpStep b lv) (nodN b) (List.replicate (nodN b) false,[])).2
theorem lpStep_in(b:Y47)(lv:List Bool){v:Nat}{s:List Bool×List (List Int)}(h:s.1.length=nodN b/\s.2.length<=v):(lpStep b lv v s).1.length=nodN b/\(lpStep b lv v s).2.length<=v+1:=by
 unfold lpStep;split
 ·exact⟨h.1,by omega⟩
 ·split
  ·exact⟨orB_len _ _ _,by rw[List.length_append,List.length_singleton]; omega⟩
  ·exact⟨h.1,by omega⟩
theorem clP_self(hb:blockOk b=true){lv:List Bool}(hlv:lv.length=(lV b).length){v:Nat}(hv:v<nodN b):clP b lv v v=true:=by
 have h:=((row_ok hb hlv hv).1.2 v hv).2 .refl;unfold clP;rw[h]; rfl
theorem clV_len(b:Y47)(lv:List Bool)(v:Nat):(clV b lv v).length<=nodN b:=(idxV_len _ _).1
theorem mkD_step(hb:blockOk b=true){lv:List Bool}(hlv:lv.length=(lV b).length){v:Nat}(hv:v<nodN b){s:List Bool×List (List Int)}(_:s.1.length=nodN b):(s.1.getD v false=true->mkD (nodN b) v s.1=mkD (nodN b) (v+1) s.1)/\(s.1.getD v false=false->orB (clP b lv v) (nodN b) (mkD (nodN b) v s.1)=mkD (nodN b) (v+1) (lpStep b lv v s).1):=by
 have hself:=clP_self hb hlv hv;refine⟨fun h=>list_eq false (by rw[mkD_len,mkD_len]) fun w hw=>?_,fun h=>list_eq false (by rw[orB_len,mkD_len]) fun w hw=>?_⟩
 ·rw[mkD_len] at hw;rw[mkD_get _ _ _ hw,mkD_get _ _ _ hw];by_cases e:w=v
  ·subst e; rw[h]; simp
  ·have:(w<v+1)↔w<v:=by omega
   simp[this]
 ·rw[orB_len] at hw;rw[orB_get _ _ _ hw,mkD_get _ _ _ hw,mkD_get _ _ _ hw];unfold lpStep;rw[if_neg (by rw[h]; simp)];by_cases hc:cndB b lv v=true
  ·rw[if_pos hc,orB_get _ _ _ hw];by_cases e:w=v
   ·subst e; rw[hself]; simp
   ·have:(w<v+1)↔w<v:=by omega
    simp[this,Bool.or_assoc]
  ·rw[if_neg hc];have hlen:((List.range (nodN b)).filter (clP b lv v)).length<2:=by
    have:=(idxV_len (clP b lv v) (nodN b)).2;unfold cndB at hc;rw[Bool.or_eq_true,not_or,dq] at hc;unfold clV at hc;omega
   by_cases e:w=v
   ·subst e; rw[hself]; simp
   ·have hp:clP b lv v w=false:=by
     cases hp:clP b lv v w with
     | false=>rfl
     | true=>exact absurd (filt_one hlen hv hself hw hp) e
    have:(w<v+1)↔w<v:=by omega
    simp[this,hp]
theorem r96c97(hb:blockOk b=true){lv:List Bool}(hlv:lv.length=(lV b).length)(a:Nat):u96c97 (viewV b,lv) (a:Int)=some (idxV (fun i=>lv.getD i false&&(frN b i==a&&toN b i==a)) (lV b).length):=by
 have hM:=links_len hb;refine(lF (n:=(lV b).length) (by omega) (fun i (s:List Int)=>(s,(i:Int))) (fun i s=>if(lv.getD i false&&(frN b i==a&&toN b i==a))=true then s++[(i:Int)] else s) (fun i s=>s.length<=i) (J:=fun s=>some s) (F:=u96c97L1 (viewV b,lv) (a:Int)) (fun g i s hi hs=>?_) (fun i s hi hs=>?_) (fun g s _=>aE) [] (Nat.le_refl _)).trans ?_
 ·have hs:s.length<=i:=hs;have hx:ix (i:Int) (viewV b).2.2.1.length:=⟨by omega,by show(i:Int) < ((lV b).length:Int); omega⟩;refine(if_pos (decide_eq_true hx.2)).trans ((gP ⟨hx,trivial⟩).trans ?_);rw[lE];refine(gP ⟨⟨by omega,by show(i:Int) < (lv.length:Int); omega⟩,(fun _=>rfl),trivial⟩).trans ?_;obtain⟨f1,f2,_⟩:=frto b hb hi;have ef:(((lV b).getD i (dflt y148)).1==(a:Int))=(frN b i==a):=by
   rw[f1,Bool.eq_iff_iff,beq_iff_eq,beq_iff_eq]; omega
  have eg:(((lV b).getD i (dflt y148)).2.1==(a:Int))=(toN b i==a):=by
   rw[f2,Bool.eq_iff_iff,beq_iff_eq,beq_iff_eq]; omega
  show(if(lv.getD i false&&(((lV b).getD i (dflt y148)).1==(a:Int)&&((lV b).getD i (dflt y148)).2.1==(a:Int)))=true then _ else _)=_;rw[ef,eg];by_cases h:(lv.getD i false&&(frN b i==a&&toN b i==a))=true
  ·rw[if_pos h,if_pos h];refine(gP ⟨⟨by simp only[List.length_singleton]; omega,by simp only[List.length_singleton]; omega⟩,trivial⟩).trans ?_;exact gP ⟨oo,trivial⟩
  ·rw[if_neg h,if_neg h];exact gP ⟨oo,trivial⟩
 ·have hs:s.length<=i:=hs;show(if(lv.getD i false&&(frN b i==a&&toN b i==a))=true then s++[(i:Int)] else s).length<=i+1;split
  ·rw[List.length_append,List.length_singleton]; omega
  ·omega
 ·show some (fN _ _ [])=_;rw[idxV_fold]
theorem r64(hb:blockOk b=true){lv:List Bool}(hlv:lv.length=(lV b).length)(a:Nat):u64 (viewV b,lv) (a:Int)=some (selfB b lv a):=by
 unfold u64;rw[r96c97 hb hlv,vS,gP ⟨rfl,trivial⟩,lE];rfl
theorem r49(hb:blockOk b=true){lv:List Bool}(hlv:lv.length=(lV b).length)(a:Nat):u49 (lV b) lv (a:Int)=some (selfB b lv a):=by
 have hM:=links_len hb;unfold selfB;rw[<- any_filt];have key:=lp_all (n:=(lV b).length) (by omega) (fun i=>lv.getD i false&&(frN b i==a&&toN b i==a)) (some true) (e:=some false) (F:=u49L1 lv (lV b) (a:Int)) (fun g i hi=>by
  obtain⟨f1,f2,_⟩:=frto b hb hi;have e3:((i:Int)).toNat=i:=rfl;have ef:((frN b i:Int)==(a:Int))=(frN b i==a):=by
   rw[Bool.eq_iff_iff,beq_iff_eq,beq_iff_eq]; omega
  have eg:((toN b i:Int)==(a:Int))=(toN b i==a):=by
   rw[Bool.eq_iff_iff,beq_iff_eq,beq_iff_eq]; omega
  refine(if_pos (by simpa using hi)).trans ?_;rw[e3,f1,f2,ef,eg,Bool.and_assoc];refine(gP ⟨oo,(fun _=>oo),(fun _=>oo),trivial⟩).trans ?_;by_cases h:(lv.getD i false&&(frN b i==a&&toN b i==a))=true
  ·rw[if_pos h,if_pos h]
  ·rw[if_neg h,if_neg h];exact gP ⟨oo,trivial⟩) (fun g=>aE)
 refine key.trans ?_;cases(List.range (lV b).length).any fun i=>lv.getD i false&&(frN b i==a&&toN b i==a) <;> rfl
theorem r28(hb:blockOk b=true){lv:List Bool}(hlv:lv.length=(lV b).length):u28 (viewV b,lv)=some (loopsV b lv):=by
 have hM:=links_len hb;have hN:=nod_le b hb;have e0:((nodN b:Int)).toNat=nodN b:=rfl;have en:u61 ((viewV b,lv):Y158×List Bool).1=some (nodN b:Int):=r61 b hb;unfold u28;rw[en,vS,gP ⟨rfl,trivial⟩,lE];refine(lF (n:=nodN b) (by omega) (fun(k:Nat) (s:List (List Bool))=>(s,(k:Int))) (appF fun v=>rowV b lv v) (fun k s=>s.length=k) (J:=fun s=>u28J0 (viewV b,lv) (nodN b:Int) s) (F:=u28L1 (viewV b,lv) (nodN b:Int)) (fun g k s hk hI=>?_) (fun k s hk hI=>by show(s++[_]).length=_; rw[List.length_append,hI]; rfl) (fun g s _=>aE) [] rfl).trans ?_
 ·have hI:s.length=k:=hI;refine(if_pos (decide_eq_true (by omega))).trans ?_;rw[(row_ok hb hlv hk).2,vS];refine(gP ⟨rfl,⟨by show s.length+1<=_; omega,by show(s.length+1)*24<=_; omega⟩,trivial⟩).trans ?_;rw[lE];exact gP ⟨oo,trivial⟩
 have hgl:(fN (appF fun v=>rowV b lv v) (nodN b) []).length=nodN b:=appF_len _ _;have hgg:∀v,v<nodN b->(fN (appF fun v=>rowV b lv v) (nodN b) []).getD v []=rowV b lv v:=fun v hv=>appF_get _ _ _ v hv;have hrl:∀v,v<nodN b->(rowV b lv v).length=nodN b:=fun v hv=>(row_ok hb hlv hv).1.1;generalize fN (appF fun v=>rowV b lv v) (nodN b) []=gr at hgl hgg;show u28J0 (viewV b,lv) (nodN b:Int) gr=_;rw[u28J0,gP ⟨⟨by omega,rfl,by rw[e0]; omega,by omega⟩,trivial⟩,e0];refine lF (n:=nodN b) (by omega) (fun(v:Nat) (s:List Bool×List (List Int))=>(s.2,(v:Int),s.1)) (lpStep b lv) (fun v s=>s.1.length=nodN b/\s.2.length<=v) (J:=fun s=>some s.2) (F:=u28L3 gr (viewV b,lv) (nodN b:Int)) (fun g v s hv hI=>?_) (fun v s hv hI=>lpStep_in b lv hI) (fun g s _=>aE) (List.replicate (nodN b) false,[]) ⟨List.length_replicate,Nat.le_refl _⟩;obtain⟨h1,h2⟩:=hI;obtain⟨S,o⟩:=s;have h1:S.length=nodN b:=h1;have h2:o.length<=v:=h2;have e3:((v:Int)).toNat=v:=rfl;have j4:∀S' o',u28J4 (v:Int) g (S',o')=g (o',((v+1:Nat):Int),S'):=fun S' o'=>gP ⟨oo,trivial⟩;refine(if_pos (decide_eq_true (by omega))).trans ?_;refine(gP ⟨⟨by omega,by show(v:Int) < (S.length:Int); omega⟩,by show v<S.length; omega,trivial⟩).trans ?_;unfold lpStep;show(if S.getD v false=true then u28J4 (v:Int) g (S,o) else lp (u28L6 gr (v:Int) S o (viewV b,lv) (nodN b:Int) g) ([],0))=g ((if S.getD v false=true then(S,o) else if cndB b lv v=true then(orB (clP b lv v) (nodN b) S,o++[clV b lv v]) else(S,o)).2,((v+1:Nat):Int),(if S.getD v false=true then(S,o) else if cndB b lv v=true then(orB (clP b lv v) (nodN b) S,o++[clV b lv v]) else(S,o)).1);by_cases hS:S.getD v false=true
 ·rw[if_pos hS,if_pos hS,j4]
 rw[if_neg hS,if_neg hS];have hcl:lp (u28L6 gr (v:Int) S o (viewV b,lv) (nodN b:Int) g) ([],0)=u28J5 (v:Int) S o (viewV b,lv) g (clV b lv v):=by
  unfold clV;rw[<- idxV_fold];refine lF (n:=nodN b) (by omega) (fun(w:Nat) (s:List Int)=>(s,(w:Int))) (fun w s=>if clP b lv v w=true then s++[(w:Int)] else s) (fun w s=>s.length<=w) (J:=fun s=>u28J5 (v:Int) S o (viewV b,lv) g s) (F:=u28L6 gr (v:Int) S o (viewV b,lv) (nodN b:Int) g) (fun g' w s hw hI=>?_) (fun w s hw hI=>?_) (fun g' s _=>aE) [] (Nat.le_refl _)
  ·have hI:s.length<=w:=hI;have e4:((w:Int)).toNat=w:=rfl;have l1:=hrl v hv;have l2:=hrl w hw;refine(if_pos (decide_eq_true (by omega))).trans ?_;rw[e3,e4,hgg v hv,hgg w hw];refine(gP ⟨oo,by omega,oo,(fun _=>oo),(fun _=>by omega),(fun _=>oo),trivial⟩).trans ?_;show(if clP b lv v w=true then _ else _)=_;by_cases h:clP b lv v w=true
   ·rw[if_pos h,if_pos h];refine(gP ⟨⟨by show s.length+1<=_; omega,by show(s.length+1)*8<=_; omega⟩,trivial⟩).trans ?_;exact gP ⟨oo,trivial⟩
   ·rw[if_neg h,if_neg h];exact gP ⟨oo,trivial⟩
  ·have hI:s.length<=w:=hI;split
   ·rw[List.length_append,List.length_singleton]; omega
   ·omega
 rw[hcl,u28J5];have hc2:=clV_len b lv v;refine(gP ⟨fun _=>(by rw[r64 hb hlv]; rfl),trivial⟩).trans ?_;rw[r64 hb hlv,vS];have ecnd:(decide (((clV b lv v).length:Int)<2)&&!selfB b lv v)=!cndB b lv v:=by
  unfold cndB;rw[Bool.not_or];congr 1;rw[Bool.eq_iff_iff,dq,Bool.not_eq_true',decide_eq_false_iff_not];omega
 rw[ecnd];cases hc:cndB b lv v with
 | false =>
   refine(if_pos rfl).trans ?_;rw[j4];rfl
 | true =>
   refine(if_neg (by simp)).trans ?_;obtain⟨il1,il2⟩:=idxV_len (clP b lv v) (nodN b);have il3:(clV b lv v).length=((List.range (nodN b)).filter (clP b lv v)).length:=il2;rw[<- set_implN (clP b lv v) (nodN b) S h1];refine lF (n:=((List.range (nodN b)).filter (clP b lv v)).length) (by omega) (fun(k:Nat) (s:List Bool)=>((k:Int),s)) (fun k (s:List Bool)=>s.set (((List.range (nodN b)).filter (clP b lv v)).getD k 0) true) (fun _ s=>s.length=nodN b) (J:=fun s=>g (o++[clV b lv v],((v+1:Nat):Int),s)) (F:=u28L9 (clV b lv v) (v:Int) o g) (fun g' k s hk hI=>?_) (fun k s hk hI=>by rw[List.length_set]; exact hI) (fun g' s _=>?_) S h1
   ·have hI:s.length=nodN b:=hI;have e4:((k:Int)).toNat=k:=rfl;have hlt:=filt_lt hk;have eg:(clV b lv v).getD k 0=((((List.range (nodN b)).filter (clP b lv v)).getD k 0:Nat):Int):=idxV_get _ _ _;generalize ((List.range (nodN b)).filter (clP b lv v)).getD k 0=i at hlt eg ⊢;have e5:((i:Int)).toNat=i:=rfl;refine(if_pos (decide_eq_true (by omega))).trans ?_;rw[e4,eg,e5];refine(gP ⟨oo,by omega,trivial⟩).trans ?_;refine(gP ⟨oo,by omega,trivial⟩).trans ?_;exact gP ⟨oo,trivial⟩
   ·refine(if_neg (by rw[dq]; omega)).trans ?_;show gd _ (u28J4 (v:Int) g (s,o++[clV b lv v]))=_;rw[j4];exact gP ⟨⟨by show o.length+1<=_; omega,by show(o.length+1)*24<=_; omega⟩,trivial⟩
theorem r21(hb:blockOk b=true){lv:List Bool}(hlv:lv.length=(lV b).length):u21 (nodN b:Int) (lV b) lv=some (loopsV b lv):=by
 have hM:=links_len hb;have hN:=nod_le b hb;have e0:((nodN b:Int)).toNat=nodN b:=rfl;unfold u21;rw[gP ⟨⟨by omega,rfl,by rw[e0]; omega,by omega⟩,trivial⟩,e0];have hm0:List.replicate (nodN b) false=mkD (nodN b) 0 (List.replicate (nodN b) false):=list_eq false (by rw[mkD_len,List.length_replicate]) fun w hw=>by
  rw[List.length_replicate] at hw;rw[mkD_get _ _ _ hw];rfl
 refine Eq.trans (congrArg (fun x=>lp (u21L1 (lV b) lv (nodN b:Int)) (0,x,[])) hm0) ?_;refine lF (n:=nodN b) (by omega) (fun(v:Nat) (s:List Bool×List (List Int))=>((v:Int),mkD (nodN b) v s.1,s.2)) (lpStep b lv) (fun v s=>s.1.length=nodN b/\s.2.length<=v) (J:=fun s=>some s.2) (F:=u21L1 (lV b) lv (nodN b:Int)) (fun g v s hv hI=>?_) (fun v s hv hI=>lpStep_in b lv hI) (fun g s _=>aE) (List.replicate (nodN b) false,[]) ⟨List.length_replicate,Nat.le_refl _⟩;obtain⟨h1,h2⟩:=hI;obtain⟨S,o⟩:=s;have h1:S.length=nodN b:=h1;have h2:o.length<=v:=h2;have e3:((v:Int)).toNat=v:=rfl;have hml:=mkD_len (nodN b) v S;have hmg:(mkD (nodN b) v S).getD v false=S.getD v false:=by
  rw[mkD_get _ _ _ hv,decide_eq_false (Nat.lt_irrefl v),Bool.false_or]
 obtain⟨m1,m2⟩:=mkD_step hb hlv hv (s:=(S,o)) h1;have m1:S.getD v false=true->mkD (nodN b) v S=mkD (nodN b) (v+1) S:=m1;have m2:S.getD v false=false->orB (clP b lv v) (nodN b) (mkD (nodN b) v S)=mkD (nodN b) (v+1) (lpStep b lv v (S,o)).1:=m2;have j2:∀S' o',u21J2 (v:Int) g (S',o')=g (((v+1:Nat):Int),S',o'):=fun S' o'=>gP ⟨oo,trivial⟩;refine(if_pos (decide_eq_true (by omega))).trans ?_;refine(gP ⟨⟨by omega,by show(v:Int) < ((mkD (nodN b) v S).length:Int); omega⟩,by show v < (mkD (nodN b) v S).length; omega,trivial⟩).trans ?_;show(if(mkD (nodN b) v S).getD v false=true then u21J2 (v:Int) g (mkD (nodN b) v S,o) else _)=g (((v+1:Nat):Int),mkD (nodN b) (v+1) (lpStep b lv v (S,o)).1,(lpStep b lv v (S,o)).2);rw[hmg];cases hS:S.getD v false with
 | true =>
   refine(if_pos rfl).trans ?_;rw[j2,m1 hS];unfold lpStep;rw[if_pos hS]
 | false =>
   refine(if_neg (by simp)).trans ?_;obtain⟨T,t1,t2⟩:=r48 hb hlv hv true;obtain⟨B,b1,b2⟩:=r48 hb hlv hv false;have hrow:=row_ok hb hlv hv;obtain rfl:T=rowV b lv v:=t1.uniq hrow.1;have hBg:∀w,w<nodN b->B.getD w false=(rowV b lv w).getD v false:=fun w hw=>by
    rw[Bool.eq_iff_iff,b1.2 w hw,(row_ok hb hlv hw).1.2 v hv];exact⟨fun h=>Rch.back h,fun h=>Rch.back h⟩
   rw[t2,b2,vS,vS];refine(gP ⟨rfl,rfl,trivial⟩).trans ?_;rw[lE];have hrl:=hrow.1.1;have hbl:=b1.1;rw[<- m2 hS];have hcl:lp (u21L4 (rowV b lv v) B (v:Int) o (lV b) lv (nodN b:Int) g) (0,[],mkD (nodN b) v S)=u21J3 (v:Int) o (lV b) lv g (clV b lv v,orB (clP b lv v) (nodN b) (mkD (nodN b) v S)):=by
    unfold clV;rw[<- idxV_fold,<- set_specN (clP b lv v) (nodN b) (mkD (nodN b) v S) hml];have hpair:∀n,fN (fun w (s:List Int×List Bool)=>if clP b lv v w=true then(s.1++[(w:Int)],s.2.set w true) else s) n ([],mkD (nodN b) v S)=(fN (fun w (s:List Int)=>if clP b lv v w=true then s++[(w:Int)] else s) n [],fN (fun w (s:List Bool)=>if clP b lv v w=true then s.set w true else s) n (mkD (nodN b) v S)):=by
     intro n
     induction n with
     | zero=>rfl
     | succ n ih =>
       show(if clP b lv v n=true then((fN _ n _:List Int×List Bool).1++[(n:Int)],(fN _ n _:List Int×List Bool).2.set n true) else fN _ n _)=((if clP b lv v n=true then _ else _:List Int),(if clP b lv v n=true then _ else _:List Bool));rw[ih];by_cases h:clP b lv v n=true
       ·rw[if_pos h,if_pos h,if_pos h]
       ·rw[if_neg h,if_neg h,if_neg h]
    rw[<- hpair];refine lF (n:=nodN b) (by omega) (fun(w:Nat) (s:List Int×List Bool)=>((w:Int),s.1,s.2)) (fun w (s:List Int×List Bool)=>if clP b lv v w=true then(s.1++[(w:Int)],s.2.set w true) else s) (fun w s=>s.1.length<=w/\s.2.length=nodN b) (J:=fun s=>u21J3 (v:Int) o (lV b) lv g s) (F:=u21L4 (rowV b lv v) B (v:Int) o (lV b) lv (nodN b:Int) g) (fun g' w s hw hI=>?_) (fun w s hw hI=>?_) (fun g' s _=>aE) ([],mkD (nodN b) v S) ⟨Nat.le_refl _,hml⟩
    ·obtain⟨i1,i2⟩:=hI;obtain⟨l,D⟩:=s;have i1:l.length<=w:=i1;have i2:D.length=nodN b:=i2;have e4:((w:Int)).toNat=w:=rfl;refine(if_pos (decide_eq_true (by omega))).trans ?_;rw[e4,hBg w hw];refine(gP ⟨oo,by omega,(fun _=>oo),(fun _=>by omega),trivial⟩).trans ?_;show(if clP b lv v w=true then _ else _)=g' (((w+1:Nat):Int),(if clP b lv v w=true then(l++[(w:Int)],D.set w true) else(l,D)).1,(if clP b lv v w=true then(l++[(w:Int)],D.set w true) else(l,D)).2);by_cases h:clP b lv v w=true
     ·rw[if_pos h,if_pos h];refine(gP ⟨⟨by show l.length+1<=_; omega,by show(l.length+1)*8<=_; omega⟩,trivial⟩).trans ?_;refine(gP ⟨⟨by omega,by show(w:Int) < (D.length:Int); omega⟩,by show w<D.length; omega,trivial⟩).trans ?_;exact gP ⟨oo,trivial⟩
     ·rw[if_neg h,if_neg h];exact gP ⟨oo,trivial⟩
    ·obtain⟨i1,i2⟩:=hI;split
     ·exact⟨by show(s.1++[(w:Int)]).length<=_; rw[List.length_append,List.length_singleton]; omega,by show(s.2.set w true).length=_; rw[List.length_set]; exact i2⟩
     ·exact⟨by omega,i2⟩
   refine hcl.trans ?_;have hc2:=clV_len b lv v;rw[u21J3];refine(gP ⟨fun _=>(by rw[r49 hb hlv]; rfl),trivial⟩).trans ?_;rw[r49 hb hlv,vS];have els:lpStep b lv v (S,o)=if cndB b lv v=true then(orB (clP b lv v) (nodN b) S,o++[clV b lv v]) else(S,o):=if_neg (by show ¬S.getD v false=true; rw[hS]; simp)
   rw[els];show(if cndB b lv v=true then _ else _)=_;cases hc:cndB b lv v with
   | true =>
     refine(if_pos rfl).trans ?_;rw[j2];exact gP ⟨⟨by show o.length+1<=_; omega,by show(o.length+1)*24<=_; omega⟩,trivial⟩
   | false =>
     refine(if_neg (by simp)).trans ?_;rw[j2];rfl
end
end Go.Proofs.YtlfeppknkfknhaaGreatDoor
end
section
namespace Go.Proofs.Xd
open Go Go.Proofs.Xl Go.Proofs.Xv
def wd:Ty->Nat
 | .pr a b=>wd a+wd b
 | .sl e=>wd e
 | .pt _=>0
 | _=>1
theorem cntM_le:∀(t:Ty) (x:den t),cntM t x<=wd t*(1+cnt t x)
 | .int _,_=>by simp[cntM,wd]
 | .bool,_=>by simp[cntM,wd]
 | .str,_=>by simp[cntM,wd]
 | .pt _,_=>by simp[cntM]
 | .sl e,xs=>by
   have key:∀l:List (den e),(l.map (cntM e)).sum<=wd e*(l.length+(l.map (cnt e)).sum):=by
    intro l
    induction l with
    | nil=>exact Nat.zero_le _
    | cons a r ih =>
      have h1:=cntM_le e a;rw[List.map_cons,List.sum_cons,List.map_cons,List.sum_cons,List.length_cons];have e1:wd e*(r.length+1+(cnt e a+(r.map (cnt e)).sum))=wd e*(1+cnt e a)+wd e*(r.length+(r.map (cnt e)).sum):=by
       rw[<- Nat.mul_add]; congr 1; omega
      omega
   refine Nat.le_trans (key xs) ?_;show _<=wd e*(1+(xs.length+(xs.map (cnt e)).sum));exact Nat.mul_le_mul_left _ (by omega)
 | .pr a b,x=>by
   have h1:=cntM_le a x.1;have h2:=cntM_le b x.2;show cntM a x.1+cntM b x.2<=(wd a+wd b)*(1+(cnt a x.1+cnt b x.2));have h3:wd a*(1+cnt a x.1)<=wd a*(1+(cnt a x.1+cnt b x.2)):=Nat.mul_le_mul_left _ (by omega);have h4:wd b*(1+cnt b x.2)<=wd b*(1+(cnt a x.1+cnt b x.2)):=Nat.mul_le_mul_left _ (by omega);rw[Nat.add_mul];omega
theorem cntM_bd{t:Ty}{x:den t}{k:Nat}(h:cnt t x<=1048576)(hw:wd t<=k):(cntM t x:Int)<=(k*1048577:Nat):=by
 have h1:=cntM_le t x;have h2:wd t*(1+cnt t x)<=k*1048577:=Nat.mul_le_mul hw (by omega);omega
theorem mkI_get:∀(m:Nat) (k:Int) (i:Nat),i<m->(mkI k m).getD i 0=k+(i:Int)
 | m+1,k,0,_=>by simp[mkI]
 | m+1,k,i+1,h=>by
   rw[mkI,List.getD_cons_succ,mkI_get m (k+1) i (by omega)];omega
end Go.Proofs.Xd
end
section
namespace Go.Proofs.YtlfeppknkfknhaaGreatDoor
open Go Go.Proofs Go.Proofs.Sv Go.Proofs.Xv Go.Proofs.Xl Go.Proofs.Xd
def lsF(b:Y47)(br:List Int):List (List Int)×Int:=if codeG b br=0 then(loopsV b (liveV (lV b).length br),0) else([],codeG b br)
theorem r8(b:Y47)(hw:wf y47 b)(hm:cnt y47 b<=1048576)(br:List Int)(hl:br.length<=1048576):u8 b br=some (lsF b br):=by
 have hn:=r27 b hw hm br hl;unfold u8 lsF;by_cases h:codeG b br=0
 ·obtain⟨hb,hr⟩:=codeG_ok h;rw[if_pos h] at hn ⊢;rw[hn];refine(if_neg (by simp[isL])).trans ((gP ⟨rfl,trivial⟩).trans ?_);refine(if_neg (by simp[vR])).trans ?_;show gd ((u28 (viewV b,liveV (lV b).length br)).isSome=true/\True) (lt (vl (u28 (viewV b,liveV (lV b).length br))) fun v0=>some (v0,(0:Int)))=_;rw[r28 hb (live_len _ _),vS,gP ⟨rfl,trivial⟩,lE]
 ·rw[if_neg h] at hn ⊢;rw[hn];refine(if_pos rfl).trans ((gP ⟨rfl,trivial⟩).trans ?_);exact if_pos (by show(codeG b br != 0)=true; simp[h])
theorem r5(b:Y47)(hw:wf y47 b)(hm:cnt y47 b<=1048576)(br:List Int)(hl:br.length<=1048576):u5 b br=some (lsF b br):=by
 unfold u5 lsF;rw[r19 b hw hm br hl,vS,gP ⟨rfl,trivial⟩,lE];by_cases h:codeG b br=0
 ·obtain⟨hb,hr⟩:=codeG_ok h;have hM:=links_len hb;rw[if_pos h,h];refine(if_neg (by decide)).trans ?_;rw[r20 b hw hb,vS,gP ⟨rfl,trivial⟩,lE,r22 b hw hb,vS,r23 _ _ (by omega) hl,vS,r21 hb (live_len _ _),vS];refine(gP ⟨rfl,rfl,rfl,trivial⟩).trans ?_;rfl
 ·rw[if_neg h];exact if_pos (by simp[h])
theorem fold_add(n:Nat)(k:Int):fN (fun(_:Nat) (s:Int)=>s+1) n k=k+(n:Int):=by
 induction n with
 | zero=>show k=k+((0:Nat):Int); omega
 | succ n ih=>show fN (fun(_:Nat) (s:Int)=>s+1) n k+1=_; rw[ih]; omega
theorem r35(n:Nat)(k:Int)(h0:0<=k)(hn:k+(n:Int)<=4611686018427387904):u35 (mkI k n) k=some (k+(n:Int)):=by
 have hl:=mkI_len n k;rw[<- fold_add n k];refine lF (n:=n) (by omega) (fun i (s:Int)=>(s,(i:Int))) (fun _ s=>s+1) (fun i s=>s=k+(i:Int)) (J:=u35J0) (F:=u35L1 (mkI k n)) (fun g i s hi hs=>?_) (fun i s hi hs=>by subst hs; omega) (fun g s _=>if_neg (by rw[hl]; simp)) _ (by omega);subst hs;refine(if_pos (decide_eq_true (by rw[hl]; omega))).trans ?_;refine(gP ⟨⟨by omega,by rw[hl]; omega⟩,trivial⟩).trans ?_;have e:(i:Int).toNat=i:=rfl;rw[e,mkI_get n k i hi];refine(if_neg (by simp)).trans ?_;refine(gP ⟨oo,trivial⟩).trans ?_;exact gP ⟨oo,trivial⟩
theorem mkL_get:∀(xs:List (List Int)) (k:Int) (i:Nat),i<xs.length->(mkL k xs).getD i []=mkI (k+(totL (xs.take i):Int)) (xs.getD i []).length
 | [],_,_,h=>absurd h (Nat.not_lt_zero _)
 | x :: r,k,0,_=>by
   show mkI k x.length=mkI (k+((0:Nat):Int)) x.length;rw[Int.natCast_zero,Int.add_zero]
 | x :: r,k,i+1,h=>by
   have ih:=mkL_get r (k+(x.length:Int)) i (by simpa using h);have e:k+(x.length:Int)+(totL (r.take i):Int)=k+(totL ((x :: r).take (i+1)):Int):=by
    unfold totL;rw[List.take_succ_cons,List.map_cons,List.sum_cons];omega
   rw[mkL,List.getD_cons_succ,ih,e,List.getD_cons_succ]
theorem fold_tot(l:List (List Int)):∀m,m<=l.length->fN (fun(i:Nat) (s:Int)=>s+((l.getD i []).length:Int)) m 1=1+(totL (l.take m):Int)
 | 0,_=>rfl
 | m+1,h=>by
   show fN (fun(i:Nat) (s:Int)=>s+((l.getD i []).length:Int)) m 1+((l.getD m []).length:Int)=_;rw[fold_tot l m (by omega),totL_take l m (by omega)];omega
theorem r15(l:List (List Int))(hl:l.length<=1048576)(ht:totL l<=4000000000000000000):u15 (mkL 1 l) (1:Int)=some (1+(totL l:Int)):=by
 have hn:=mkL_len l 1;have e1:=fold_tot l l.length (Nat.le_refl _);rw[List.take_length] at e1;rw[<- e1];refine lF (n:=l.length) (by omega) (fun i (s:Int)=>(s,(i:Int))) (fun i s=>s+((l.getD i []).length:Int)) (fun i s=>s=1+(totL (l.take i):Int)) (J:=u15J0) (F:=u15L1 (mkL 1 l)) (fun g i s hi hs=>?_) (fun i s hi hs=>by have:=totL_take l i hi; subst hs; omega) (fun g s _=>if_neg (by rw[hn]; simp)) _ rfl;have hs:s=1+(totL (l.take i):Int):=hs;have t1:=totL_take l i hi;have t2:=totL_le l (i+1);have e:(i:Int).toNat=i:=rfl;refine(if_pos (decide_eq_true (by rw[hn]; omega))).trans ?_;rw[e,mkL_get l 1 i hi,<- hs,r35 _ s (by omega) (by omega),vS];refine(gP ⟨⟨by omega,by rw[hn]; omega⟩,rfl,trivial⟩).trans ?_;rw[lE];refine(if_neg (by rw[dq]; omega)).trans ?_;exact gP ⟨oo,trivial⟩
theorem cntI_len{br:List Int}(h:br.length<=1048576):cnt (.sl (.int .i64)) br<=1048576:=by
 have e:cnt (.sl (.int .i64)) br=br.length+0:=cnt_ints;omega
theorem r9(a:List (List Int))(h:a.length<=1048576)(hr:∀x∈a,x.length<=1048576):u9 a a=some true:=by
 unfold u9;have hl:a.length<=9223372036854775807:=by omega
 exact eq_row hl (fun g i hi=>eq_el (e11 _ (cntI_len (hr _ (by show a.getD i []∈a; rw[gq,List.getElem?_eq_getElem hi]; exact List.getElem_mem hi)))) hi hl) (fun g i hi=>if_neg (by simp; omega))
theorem loops_bd(b:Y47)(lv:List Bool):∀m,(fN (lpStep b lv) m (List.replicate (nodN b) false,[])).2.length<=m/\∀x∈(fN (lpStep b lv) m (List.replicate (nodN b) false,[])).2,x.length<=nodN b
 | 0=>⟨Nat.le_refl _,fun x hx=>by cases hx⟩
 | m+1=>by
   obtain⟨h1,h2⟩:=loops_bd b lv m;show(lpStep b lv m (fN (lpStep b lv) m (List.replicate (nodN b) false,[]))).2.length<=m+1/\∀x∈(lpStep b lv m (fN (lpStep b lv) m (List.replicate (nodN b) false,[]))).2,x.length<=nodN b;generalize fN (lpStep b lv) m (List.replicate (nodN b) false,[])=s at h1 h2 ⊢;unfold lpStep;split
   ·exact⟨by omega,h2⟩
   ·split
    ·refine⟨by rw[List.length_append,List.length_singleton]; omega,fun x hx=>?_⟩;rcases List.mem_append.1 hx with hx | hx
     ·exact h2 x hx
     ·rw[List.mem_singleton.1 hx]; exact clV_len b lv m
    ·exact⟨by omega,h2⟩
theorem totL_bd(K:Nat):∀(l:List (List Int)),(∀x∈l,x.length<=K)->totL l<=l.length*K
 | [],_=>Nat.zero_le _
 | x :: r,h=>by
   have h1:=h x List.mem_cons_self;have h2:=totL_bd K r fun y hy=>h y (List.mem_cons_of_mem _ hy);unfold totL at h2 ⊢;rw[List.map_cons,List.sum_cons,List.length_cons,Nat.add_mul];omega
theorem ls_bd(b:Y47)(br:List Int):(lsF b br).1.length<=1000000/\∀x∈(lsF b br).1,x.length<=1000000:=by
 unfold lsF;split
 ·rename_i h;have hN:=nod_le b (codeG_ok h).1;obtain⟨h1,h2⟩:=loops_bd b (liveV (lV b).length br) (nodN b);exact⟨Nat.le_trans h1 hN,fun x hx=>Nat.le_trans (h2 x hx) hN⟩
 ·exact⟨Nat.zero_le _,fun x hx=>by cases hx⟩
theorem r3(b:Y32)(br:List Int)(hw:wf y32 b)(_:wf (.sl (.int .i64)) br):GL3 b br:=by
 refine⟨_,z4 b 1048576 hw (by decide) (by decide),(szN_le (by decide)).2,fun h0 hl=>?_⟩;have hm:cnt y32 b<=1048576:=by
  unfold szN at h0;split at h0 <;> omega
 have hcl:=cntI_len hl;obtain⟨q1,q2⟩:=ls_bd b br;have q3:=totL_bd 1000000 _ q2;have q4:(lsF b br).1.length*1000000<=1000000*1000000:=Nat.mul_le_mul_right _ q1;have k1:=cntM_bd (t:=y47) (x:=b) (k:=64) hm (by decide);have k2:=cntM_bd (t:=.sl (.int .i64)) (x:=br) (k:=64) hcl (by decide);exact⟨(lsF b br).1,(lsF b br).2,⟨w6 b hm,w7 br hcl,r5 b hw hm br hl,r8 b hw hm br hl,r9 _ (by omega) (fun x hx=>by have:=q2 x hx; omega),e10 b hm,e11 br hcl,by omega,by omega,by omega,r15 _ (by omega) (by omega)⟩⟩
end Go.Proofs.YtlfeppknkfknhaaGreatDoor
end

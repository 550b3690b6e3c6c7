/- A corner's factors: wider ones never narrow a delay. -/
import Derived.Test.YtphnknndgfgepaaGreatDoorWF
import Derived.Test.YtphnknndgfgepaaGreatDoorWG
section
namespace Go.Proofs.YtphnknndgfgepaaGreatDoor
open Go Go.Proofs Go.Proofs.Sv Go.Proofs.Xv Go.Proofs.Xl Go.Proofs.Xd
theorem cor_wide{c:Y65}(h:cornerB c=true){x y z w:Int}(hx:0<=x)(hy:0<=y)(hz:0<=z)(hw:0<=w):cornerB (c.1,max 100 (c.2.1-x),min 5000 (c.2.2.1+y),max 100 (c.2.2.2.1-z),min 5000 (c.2.2.2.2+w))=true:=by
 unfold cornerB at h ⊢;simp only[ba,dq] at h ⊢;exact⟨⟨h.1.1,oo,by omega⟩,oo,by omega⟩
theorem wf64{x:Int}(h1 : -9223372036854775808<=x)(h2:x<=9223372036854775807):wf (.int .i64) x:=⟨h1,h2⟩
theorem wfsm{x:Int}(h : -20000<=x/\x<=20000):wf (.int .i64) x:=wf64 (by omega) (by omega)
theorem wfcor{n:ByteArray}{a b c d:Int}(hn:wf .str n)(h1 : -20000<=a/\a<=20000)(h2 : -20000<=b/\b<=20000)(h3 : -20000<=c/\c<=20000)(h4 : -20000<=d/\d<=20000):wf y65 (n,a,b,c,d):=⟨hn,wfsm h1,wfsm h2,wfsm h3,wfsm h4⟩
theorem fac_wide{c:Y65}(h:cornerB c=true){x y z w:Int}(hx:0<=x)(hy:0<=y)(hz:0<=z)(hw:0<=w)(k:Int) :
  facV (c.1,max 100 (c.2.1-x),min 5000 (c.2.2.1+y),max 100 (c.2.2.2.1-z),min 5000 (c.2.2.2.2+w)) k 0<=facV c k 0/\facV c k 1<=facV (c.1,max 100 (c.2.1-x),min 5000 (c.2.2.1+y),max 100 (c.2.2.2.1-z),min 5000 (c.2.2.2.2+w)) k 1:=by
 unfold cornerB at h;simp only[ba,dq] at h;unfold facV;have e0:((0:Int)==0)=true:=rfl;have e1:((1:Int)==0)=false:=rfl;rw[e0,e1];split <;> simp only[if_true,Bool.false_eq_true,if_false] <;> omega
theorem lw11[Alw](c:List Int)(hw0:wf (.sl (.int .u8)) c):u11 c=some true:=by
 have key2:∀e:Option Bool,(∃r,e=some r/\r=true)->e=some true:=by rintro e ⟨r,rfl,rfl⟩; rfl
 refine key2 _ ?_;unfold u11;refine gd_ex ⟨rfl,trivial⟩ ?_;split
 ·exact⟨_,rfl,rfl⟩
 ·rename_i hbig;have hbig:c.length<=4096:=by
   have:¬(decide ((4096:Int) < (c.length:Int))=true):=hbig;simp only[dq] at this;omega
  obtain⟨d0,ed,hd0⟩:=roll_ok hw0 hbig 6103;simp only[ed,vS,Option.isSome_some];refine gd_ex ⟨trivial,trivial⟩ (lt_ex (gd_ex ⟨trivial,trivial⟩ ⟨true,?_,rfl⟩));refine Alw.alp_of (([],([],[],[]),[]),(ByteArray.empty,0,0,0,0),0,0,0) ⟨⟨by decide,by decide⟩,⟨⟨wf_nil,wf_nil,wf_nil,wf_nil,wf_nil,trivial⟩,⟨by show(0:Nat)<=_; decide,⟨by decide,by decide⟩,⟨by decide,by decide⟩,⟨by decide,by decide⟩,⟨by decide,by decide⟩,trivial⟩,⟨by decide,by decide⟩,⟨by decide,by decide⟩,⟨by decide,by decide⟩,trivial⟩,trivial⟩ fun v0 hv=>?_;obtain⟨⟨t1,t2⟩,hw,-⟩:=hv;have hwb:wf y34 v0.1:=⟨hw.1.1,⟨hw.1.2.1,hw.1.2.2.1,hw.1.2.2.2.1⟩,hw.1.2.2.2.2.1⟩;have hwc:wf y65 v0.2.1:=⟨hw.2.1.1,hw.2.1.2.1,hw.2.1.2.2.1,hw.2.1.2.2.2.1,hw.2.1.2.2.2.2.1⟩;obtain⟨b,k,q,s,m⟩:=v0;simp only at t1 t2 hwb hwc;have hm:cnt y34 b<=1048576:=by omega
  obtain⟨x,d1,ex,hd1,x0,x1⟩:=below_ok hd0 (n:=60) (by omega);obtain⟨y,d2,ey,hd2,y0,y1⟩:=below_ok hd1 (n:=60) (by omega);obtain⟨z,d3,ez,hd3,z0,z1⟩:=below_ok hd2 (n:=60) (by omega);obtain⟨w,d4,ew,hd4,w0,w1⟩:=below_ok hd3 (n:=60) (by omega);obtain⟨⟨c1,c2⟩,⟨c3,c4⟩,⟨c5,c6⟩,⟨c7,c8⟩⟩:=t2;refine(gP trivial).trans (key2 _ ?_);simp only[ex,ey,ez,ew,vS,Option.isSome_some];refine gd_ex ⟨trivial,oo,trivial,oo,trivial,oo,trivial,oo,trivial⟩ (lt_ex ?_);dsimp only;obtain⟨B,hB,hv⟩:=ld_val b hwb hm q;obtain⟨v,a1,a2⟩:=both_ld b hwb hm k hwc q s 1;rw[hv k hwc s 1] at a1;cases a1;have hww:wf y65 (k.1,max 100 (k.2.1-x),min 5000 (k.2.2.1+y),max 100 (k.2.2.2.1-z),min 5000 (k.2.2.2.2+w)):=wfcor hwc.1 oo oo oo oo;simp only[hv k hwc,hv _ hww,a2,vS,Option.isSome_some];refine gd_ex ⟨trivial,trivial⟩ (lt_ex (gd_ex ⟨trivial,trivial⟩ (lt_ex (gd_ex ⟨trivial,trivial⟩ (lt_ex ?_)))));rw[if_neg (by simp)];have hcode:=ld_code b k q s (divV (B s 0*facV k ((lV b).getD q.toNat (dflt y48)).2.2.1 0) 1000 0) (divV (B s 1*facV k ((lV b).getD q.toNat (dflt y48)).2.2.1 1) 1000 1);split
  ·exact⟨_,rfl,by rw[beq_iff_eq]; exact hcode⟩
  ·rename_i hz;have hz:(ldF b k q s 1 (divV (B s 1*facV k ((lV b).getD q.toNat (dflt y48)).2.2.1 1) 1000 1)).2=0:=by
    simp only[Bool.or_eq_true,bne_iff_ne,ne_eq,not_or,Decidable.not_not] at hz;exact hz.2
   obtain⟨g1,g2,g3,g4,g5⟩:=ld_zero hz;have hcw:=cor_wide g2 x0 y0 z0 w0;obtain⟨f1,f2⟩:=fac_wide g2 x0 y0 z0 w0 ((lV b).getD q.toNat (dflt y48)).2.2.1;have hD:=hB g1 g3;have b0:=hD.bd s 0;have b1:=hD.bd s 1;have p0:=(fac_bd hcw ((lV b).getD q.toNat (dflt y48)).2.2.1 0).1;have p1:=(fac_bd g2 ((lV b).getD q.toNat (dflt y48)).2.2.1 1).1;have m0:=divV_mono 0 (Int.mul_nonneg b0.1 p0) (mul_le' b0.1 f1);have m1:=divV_mono 1 (Int.mul_nonneg b1.1 p1) (mul_le' b1.1 f2);rw[ld_ok g1 g2 g3 g4 (m:=0) rfl,ld_ok g1 g2 g3 g4 (m:=1) rfl,ld_ok g1 hcw g3 g4 (m:=0) rfl,ld_ok g1 hcw g3 g4 (m:=1) rfl];refine gd_ex ⟨trivial,trivial⟩ (lt_ex (gd_ex ⟨trivial,trivial⟩ (lt_ex ?_)));simp only[r52 _ hww,hcw,vS,Option.isSome_some];refine gd_ex ⟨fun _=>trivial,trivial⟩ ⟨_,rfl,?_⟩;simp only[decide_eq_true m0,decide_eq_true m1];rfl
end Go.Proofs.YtphnknndgfgepaaGreatDoor
end

/- What a table says at a place: the program's function and the reference's agree. -/
import Derived.Test.YtechodbafnmddaaGreatDoorWA
import Derived.Test.YtechodbafnmddaaGreatDoorF91c
import Derived.Test.YtechodbafnmddaaGreatDoorXF
import Derived.Test.YtechodbafnmddaaGreatDoorG91
set_option maxHeartbeats 0
section
namespace Go.Proofs.YtechodbafnmddaaGreatDoor
open Go Go.Proofs Go.Proofs.Xv Go.Proofs.Xl Go.Proofs.Xd
def D6(t:m0)(r q:Nat):Int:=t.2.2.getD (r*t.2.1.length+q) 0
def l8(t:m0)(r q:Nat)(w c d:Int):Int:=D6 t r q*w*c+D6 t r (q+1)*w*d
theorem Fu{t:m0}(a:w8 t=true){r q:Nat}(f:r<t.1.length)(g:q<t.2.1.length){w c:Int}(d:0<=w)(e:w<=100000)(j:0<=c)(b:c<=100000) :
  (-100000000000<=D6 t r q*w/\D6 t r q*w<=100000000000) /\ -10000000000000000<=D6 t r q*w*c/\D6 t r q*w*c<=10000000000000000:=by
 obtain⟨_,_,_,_,m,_,_⟩:=CP a;have h:=o0i a (i:=r*t.2.1.length+q) (by have:=NG f g; omega);have l:=F5 (A:=1000000) h.1 h.2 d e (by decide);have k:=F5 (A:=100000000000) (B:=100000) (x:=D6 t r q*w) (by grind[D6]) (by grind[D6]) j b (by decide)
 grind[D6]
def Sh(n q:Nat)(c d:Int)(M:List (Int×Int)):Prop:=(c=1/\d=0/\M=[((q:Int),1)])∨(q+1<n/\0<c/\0<d/\c+d<=100000/\M=[((q:Int),c),((q:Int)+1,d)])
theorem s0i{t:m0}(a:w8 t=true){r q:Nat}(f:r<t.1.length)(g:q<t.2.1.length){w c d:Int}{M:List (Int×Int)}(i:Sh t.2.1.length q c d M)(b:0<=w)(e:w<=100000) : -20000000000000000<=l8 t r q w c d/\l8 t r q w c d<=20000000000000000:=by
 unfold l8;rcases i with ⟨rfl,rfl,_⟩ | ⟨hq1,c0,d0,hcd,_⟩
 ·have h:=(Fu a f g b e (c:=1) (by decide) (by decide)).2;rw[Int.mul_zero]; omega
 ·have h:=(Fu a f g b e (c:=c) (by omega) (by omega)).2;have j:=(Fu a f hq1 b e (c:=d) (by omega) (by omega)).2;omega
theorem Sa{t:m0}(d:w8 t=true){r q:Nat}(e:r<t.1.length)(f:q<t.2.1.length){w c:Int}(l:0<=w)(m:w<=100000)(E:0<=c)(k:c<=100000){R:Int}(u:R=(r:Int)){v1:List Al×Int}{v11:Int}{x b:Int×Int->Option Int}{s:Int}(P : -100000000000000000<=s)(H:s<=100000000000000000){i:Nat}(hi:i<v1.1.length)(T:v1.1.length<=2)
  {Q:Int} (j:Q=(q:Int)) (z:v1.1.getD i (a7 M1)=(Q,c)):GB t (R,w) v1 v11 x b (s,(i:Int))=b (s+D6 t r q*w*c,(i:Int)+1):=by
 subst u; subst j;obtain⟨_,F,_,G,V,_,o⟩:=CP d;have n:=NG e f;have v:=Fu d e f l m E k;have y:((i:Int)).toNat=i:=rfl;have g:(r:Int)*(t.2.1.length:Int)=((r*t.2.1.length:Nat):Int):=by simp
 have h:(((r*t.2.1.length:Nat):Int)+(q:Int)).toNat=r*t.2.1.length+q:=by omega
 rw[GB,if_pos (by grind),y,gP ⟨oo,hi,trivial⟩,lE,z];unfold D6 at v ⊢;show gd (c7 ((r:Int)*(t.2.1.length:Int))/\c7 ((r:Int)*(t.2.1.length:Int)+(q:Int))/\ix ((r:Int)*(t.2.1.length:Int)+(q:Int)) t.2.2.length/\c7 (t.2.2.getD ((r:Int)*(t.2.1.length:Int)+(q:Int)).toNat 0*w)/\c7 (t.2.2.getD ((r:Int)*(t.2.1.length:Int)+(q:Int)).toNat 0*w*c)/\c7 (s+t.2.2.getD ((r:Int)*(t.2.1.length:Int)+(q:Int)).toNat 0*w*c)/\True) (lt (s+t.2.2.getD ((r:Int)*(t.2.1.length:Int)+(q:Int)).toNat 0*w*c) fun a=>gd _ (b (a,(i:Int)+1)))=_;rw[g,h,gP ⟨oo,oo,oo,oo,oo,oo,trivial⟩,lE,gP ⟨oo,trivial⟩]
theorem F0d{t:m0}{a:Al}{v1:List Al×Int}{v11:Nat}(d:v11<=2){b c:Int×Int->Option Int}{s:Int}:GB t a v1 (v11:Int) b c (s,(v1.1.length:Int))=b (s,(v11:Int)+1):=by
 rw[GB,if_neg (by simp),Qj,gP ⟨oo,trivial⟩]
theorem J2{a b:Type}{F:(a->Option b)->a->Option b}{n:Nat}{s:a}:D5 F (n+1) s=F (D5 F n) s:=rfl
theorem Fv:((0:Nat):Int)+1=((1:Nat):Int):=rfl
theorem Fw:((1:Nat):Int)+1=((2:Nat):Int):=rfl
theorem Sb{t:m0}(a:w8 t=true){r q:Nat}(f:r<t.1.length)(h:q<t.2.1.length){w c d:Int}{M:List (Int×Int)}(l:Sh t.2.1.length q c d M)(b:0<=w)(e:w<=100000){R T:Int}(g:R=(r:Int)){v11:Nat}(j:v11<=2){k:Int×Int->Option Int}{s:Int}(u : -50000000000000000<=s)(m:s<=50000000000000000) :
  lp (GB t (R,w) (M,T) (v11:Int) k) (s,0)=k (s+l8 t r q w c d,(v11:Int)+1):=by
 unfold l8;rcases l with ⟨rfl,rfl,rfl⟩ | ⟨hq1,c0,d0,hcd,rfl⟩
 ·refine CX 2 (by decide) fun n=>?_;rw[J2];refine(Sa (v1:=([((q:Int),1)],T)) (i:=0) (s:=s) (c:=1) a f h b e (by decide) (by decide) g (by omega) (by omega) (Nat.le_refl 1) (Nat.le_succ 1) rfl rfl).trans ?_;rw[Int.mul_zero,Int.add_zero,J2,Fv];exact F0d (v1:=([((q:Int),1)],T)) j
 ·have o:=(Fu a f h b e (c:=c) (by omega) (by omega)).2;refine CX 3 (by decide) fun n=>?_;rw[J2];refine(Sa (v1:=([((q:Int),c),((q:Int)+1,d)],T)) (i:=0) (s:=s) (c:=c) a f h b e (by omega) (by omega) g (by omega) (by omega) (Nat.le_succ 1) (Nat.le_refl 2) rfl rfl).trans ?_;rw[J2,Fv];refine(Sa (v1:=([((q:Int),c),((q:Int)+1,d)],T)) (i:=1) (s:=s+D6 t r q*w*c) (c:=d) (q:=q+1) a f hq1 b e (by omega) (by omega) g (by omega) (by omega) (Nat.le_refl 2) (Nat.le_refl 2) (Int.natCast_succ q).symm rfl).trans ?_;rw[<- Int.add_assoc,J2,Fw];exact F0d (v1:=([((q:Int),c),((q:Int)+1,d)],T)) j
theorem y0W{t:m0}(d:w8 t=true){p u r q k:Nat}(b:r=p+u)(f:r<t.1.length)(h:q<t.2.1.length){w c W:Int}(e:0<=w)(x:w<=100000)(j:0<=c)(v:c<=100000)(hW:W=w*c){g v1:Int×Int×Int}(o:g.1=(p:Int)){q0:Nat}(E:v1.1=(q0:Int))(m:q=q0+k)(P:k<=1)(Y:u<=1){i:Int×Int->Option Int}{s:Int}(s0 : -100000000000000000<=s)(X:s<=100000000000000000) :
  BI (k:Int) s t g (u:Int) v1 i W=i (s+D6 t r q*w*c,(k:Int)+1):=by
 obtain⟨_,Q,_,V,hl,_,G⟩:=CP d;have F:=NG f h;have H:=Fu d f h e x j v;subst b; subst m;have l:((p:Int)+(u:Int))*(t.2.1.length:Int)=(((p+u)*t.2.1.length:Nat):Int):=by simp
 have n:((((p+u)*t.2.1.length:Nat):Int)+(q0:Int)+(k:Int)).toNat=(p+u)*t.2.1.length+(q0+k):=by omega
 have a:W*D6 t (p+u) (q0+k)=D6 t (p+u) (q0+k)*w*c:=by grind
 rw[BI];by_cases T:0<W
 ·unfold D6 at H a ⊢;rw[if_pos (by grind),o,E,l,n,a,gP ⟨oo,oo,oo,oo,oo,oo,oo,trivial⟩,lE,Gl,gP ⟨oo,trivial⟩]
 ·have y:W=0:=by
   have:0<=w*c:=Int.mul_nonneg e j;omega
  have z:D6 t (p+u) (q0+k)*w*c=0:=by grind
  rw[if_neg (by grind),Gl,gP ⟨oo,trivial⟩,z,Int.add_zero]
theorem Sc{t:m0}{u k:Nat}{b v1:Int×Int×Int}(c:k<=1){a:Int×Int->Option Int}{s W:Int}(d:W=0):BI (k:Int) s t b (u:Int) v1 a W=a (s,(k:Int)+1):=by
 subst d;rw[BI,if_neg (by simp),Gl,gP ⟨oo,trivial⟩]
theorem z0n{w c:Int}(e:0<=w)(d:w<=100000)(b:0<=c)(a:c<=100000):c7 (w*c)/\True:=by
 have:=F5 (A:=100000) (B:=100000) (x:=w) (y:=c) (by omega) d b a (by decide);exact⟨oo,trivial⟩
theorem NJ{t:m0}{u k:Nat}(o:k<=1){a v1:Int×Int×Int}{m b:Int×Int->Option Int}{s w e:Int}(q:(if(u:Int)=1 then a.2.2 else a.2.1)=w)(d:(if k=0 then v1.2.1 else v1.2.2)=e)(g:0<=w)(f:w<=100000)(h:0<=e)(j:e<=100000) :
  Dz t a (u:Int) v1 m b (s,(k:Int))=BI (k:Int) s t a (u:Int) v1 b (w*e):=by
 have l:∀W,W=w->IB (k:Int) s t a (u:Int) v1 b W=BI (k:Int) s t a (u:Int) v1 b (w*e):=by
  intro W n;subst n;rw[IB];by_cases i:k=0
  ·subst i;have c:v1.2.1=e:=d;rw[if_pos (by rfl),c,gP (z0n g f h j)]
  ·rw[if_neg i] at d;rw[if_neg (by grind),d,gP (z0n g f h j)]
 grind[Dz]
theorem Sd{t:m0}{u:Nat}(d:u<=1){c v1:Int×Int×Int}{a b:Int×Int->Option Int}{s:Int}:Dz t c (u:Int) v1 a b (s,((2:Nat):Int))=a (s,(u:Int)+1):=by
 rw[Dz,if_neg (by simp),PL,gP ⟨oo,trivial⟩]
theorem y0V{t:m0}(j:w8 t=true){p u r q:Nat}(h:r=p+u)(m:u<=1)(o:r<t.1.length)(F:q<t.2.1.length){a b w c d:Int}{M:List (Int×Int)}(G:Sh t.2.1.length q c d M)(z:(if(u:Int)=1 then b else a)=w)(g:0<=w)(f:w<=100000){y:Int×Int->Option Int}{s:Int}(Q : -50000000000000000<=s)(H:s<=50000000000000000) :
  lp (Dz t ((p:Int),a,b) (u:Int) ((q:Int),c,d) y) (s,0)=y (s+l8 t r q w c d,(u:Int)+1):=by
 have l:0<=c/\c<=100000/\0<=d/\d<=100000:=by
  rcases G with ⟨rfl,rfl,_⟩ | ⟨_,_,_,_,_⟩ <;> omega
 obtain⟨v,i,E,x⟩:=l;have P:=(Fu j o F g f v i).2;refine CX 3 (by decide) fun n=>?_;rw[J2];refine(NJ (k:=0) (e:=c) (by decide) z rfl g f v i).trans ?_;refine(y0W j h o F g f v i rfl rfl (q0:=q) rfl (k:=0) rfl (by decide) m (by omega) (by omega)).trans ?_;rw[J2,Fv];refine(NJ (k:=1) (e:=d) (by decide) z rfl g f E x).trans ?_;unfold l8;rcases G with ⟨rfl,rfl,_⟩ | ⟨hq1,_,_,_,_⟩
 ·refine(Sc (by decide) (Int.mul_zero w)).trans ?_;rw[J2,Fw,Sd m,Int.mul_zero,Int.add_zero]
 ·refine(y0W j h o hq1 g f E x rfl rfl (q0:=q) rfl (k:=1) rfl (by decide) m (by omega) (by omega)).trans ?_
  grind[J2,Fw,Sd,Int.add_assoc]
theorem E0D{t:m0}{p u q:Nat}(m:u<=1){a b c d:Int}(g:(if(u:Int)=1 then b else a)=0)(l:0<=c)(h:c<=100000)(j:0<=d)(i:d<=100000){f:Int×Int->Option Int}{s:Int} :
  lp (Dz t ((p:Int),a,b) (u:Int) ((q:Int),c,d) f) (s,0)=f (s,(u:Int)+1):=by
 refine CX 3 (by decide) fun n=>?_;rw[J2];refine(NJ (k:=0) (e:=c) (by decide) g rfl (by decide) (by decide) l h).trans ?_;refine(Sc (by decide) (Int.zero_mul _)).trans ?_;rw[J2,Fv];refine(NJ (k:=1) (e:=d) (by decide) g rfl (by decide) (by decide) j i).trans ?_;refine(Sc (by decide) (Int.zero_mul _)).trans ?_
 grind[J2,Fw,Sd]
theorem Fx{xs:List Int}(x:Int)(h:B8 xs=true):∃(p:Nat) (a b:Int) (L:List (Int×Int)),p<xs.length/\Sh xs.length p a b L/\BH xs x=some ((p:Int),a,b)/\J3 xs x=some (L,a+b):=by
 obtain⟨p,a,b,d,e,f⟩:=K0U x h;rcases f with ⟨rfl,rfl,c⟩ | ⟨c,h4,h5,h6,h7⟩
 ·exact⟨p,1,0,_,d,.inl ⟨rfl,rfl,rfl⟩,e,c⟩
 ·exact⟨p,a,b,_,d,.inr ⟨c,h4,h5,h6,rfl⟩,e,h7⟩
theorem Se{t:m0}(e:w8 t=true){p q:Nat}(h:p<t.1.length)(f:q<t.2.1.length){a b c d:Int}{L M:List (Int×Int)}(i:Sh t.1.length p a b L)(g:Sh t.2.1.length q c d M)(T U m:Int) :
  lp (DM t (M,U) (L,T) m) (0,0)=GA (L,T) (M,U) m (l8 t p q a c d+(if b=0 then 0 else l8 t (p+1) q b c d)):=by
 have k:∀n:Nat,((n:Int)).toNat=n:=fun _=>rfl;rcases i with ⟨rfl,rfl,rfl⟩ | ⟨hp1,a0,b0,hab,rfl⟩
 ·refine CX 2 (by decide) fun n=>?_;rw[J2,DM,if_pos (by simp),gP ⟨⟨by decide,by simp⟩,by simp,trivial⟩,lE];refine(Sb (v11:=0) e h f g (w:=1) (by decide) (by decide) rfl (by decide) (by decide) (by decide)).trans ?_;rw[J2,Fv,DM,if_neg (by simp),if_pos rfl,Int.zero_add,Int.add_zero]
 ·have j:=s0i e h f g (w:=a) (by omega) (by omega);refine CX 3 (by decide) fun n=>?_;rw[J2,DM,if_pos (by simp),gP ⟨⟨by decide,by simp⟩,by simp,trivial⟩,lE];refine(Sb (v11:=0) e h f g (w:=a) (by omega) (by omega) rfl (by decide) (by decide) (by decide)).trans ?_;rw[J2,Fv,DM,if_pos (by simp),gP ⟨⟨by decide,by simp⟩,by simp,trivial⟩,lE];refine(Sb (v11:=1) e hp1 f g (w:=b) (by omega) (by omega) (Int.natCast_succ p).symm (by decide) (by omega) (by omega)).trans ?_;rw[J2,Fw,DM,if_neg (by simp),if_neg (by omega),Int.zero_add]
theorem E0E{t:m0}(f:w8 t=true){p q:Nat}(l:p<t.1.length)(i:q<t.2.1.length){a b c d:Int}{L M:List (Int×Int)}(v:Sh t.1.length p a b L)(e:Sh t.2.1.length q c d M)(m:Int) :
  lp (Gm t ((p:Int),a,b) ((q:Int),c,d) m) (0,0)=Ma ((p:Int),a,b) ((q:Int),c,d) m (l8 t p q a c d+(if b=0 then 0 else l8 t (p+1) q b c d)):=by
 have j:0<=a/\a<=100000/\0<=b/\b<=100000/\(b≠0->p+1<t.1.length):=by
  rcases v with ⟨rfl,rfl,_⟩ | ⟨_,_,_,_,_⟩ <;> omega
 obtain⟨k,o,F,y,h⟩:=j;have g:0<=c/\c<=100000/\0<=d/\d<=100000:=by
  rcases e with ⟨rfl,rfl,_⟩ | ⟨_,_,_,_,_⟩ <;> omega
 obtain⟨E,s,z,x⟩:=g;have G:=s0i f l i e k o;refine CX 3 (by decide) fun n=>?_;rw[J2,Gm,if_pos (by simp)];refine(y0V (u:=0) (p:=p) (r:=p) (w:=a) f rfl (by decide) l i e rfl k o (by decide) (by decide)).trans ?_;rw[J2,Fv,Gm,if_pos (by simp)];by_cases hz:b=0
 ·subst hz;refine(E0D (u:=1) (by decide) rfl E s z x).trans ?_;rw[J2,Fw,Gm,if_neg (by simp),if_pos rfl,Int.zero_add,Int.add_zero]
 ·refine(y0V (u:=1) (p:=p) (r:=p+1) (w:=b) f rfl (by decide) (h hz) i e rfl F y (by omega) (by omega)).trans ?_;rw[J2,Fw,Gm,if_neg (by simp),if_neg hz,Int.zero_add]
theorem z0t{t:m0}(a:w8 t=true){r q:Nat}(c:r<t.1.length)(b:q<t.2.1.length) : -1000000<=D6 t r q/\D6 t r q<=1000000:=by
 obtain⟨_,_,_,_,d,_,_⟩:=CP a;exact o0i a (i:=r*t.2.1.length+q) (by have:=NG c b; omega)
theorem Sf{v w c:Int}(e : -1000000<=v)(b:v<=1000000)(d:0<=w)(f:0<=c) : -(1000000*(w*c))<=v*w*c/\v*w*c<=1000000*(w*c):=by
 have a:0<=w*c:=Int.mul_nonneg d f;rw[Int.mul_assoc];refine⟨?_,Int.mul_le_mul_of_nonneg_right b a⟩;have:=Int.mul_le_mul_of_nonneg_right e a;rw[Int.neg_mul] at this;exact this
theorem Hh{t:m0}(e:w8 t=true){r q:Nat}(g:r<t.1.length)(i:q<t.2.1.length){w c d:Int}{M:List (Int×Int)}(j:Sh t.2.1.length q c d M)(b:0<=w) : -(1000000*(w*(c+d)))<=l8 t r q w c d/\l8 t r q w c d<=1000000*(w*(c+d)):=by
 unfold l8;have a:=z0t e g i;rcases j with ⟨rfl,rfl,_⟩ | ⟨hq1,c0,d0,hcd,_⟩
 ·have h:=Sf a.1 a.2 b (c:=1) (by decide);rw[Int.mul_zero,Int.add_zero,Int.add_zero]; exact h
 ·have f:=z0t e g hq1;have h:=Sf a.1 a.2 b (c:=c) (by omega);have k:=Sf f.1 f.2 b (c:=d) (by omega);rw[Int.mul_add w,Int.mul_add 1000000];omega
theorem Hi{t:m0}(f:w8 t=true)(s l m:Int):∃r,F3 t s l m=some r/\Ai t s l m=some r /\ -1000000<=r/\r<=1000000:=by
 have h:B8 t.1=true/\B8 t.2.1=true:=by
  simp only[w8,ba] at f;exact⟨f.1.1.1,f.1.1.2⟩
 obtain⟨p,a,b,L,n,k,H,P⟩:=Fx s h.1;obtain⟨q,c,d,M,i,g,F,E⟩:=Fx l h.2;have o:0<=a/\0<=b/\1<=a+b/\a+b<=100000/\a<=100000/\b<=100000/\(b≠0->p+1<t.1.length):=by
  rcases k with ⟨rfl,rfl,_⟩ | ⟨_,_,_,_,_⟩ <;> omega
 have G:1<=c+d/\c+d<=100000:=by
  rcases g with ⟨rfl,rfl,_⟩ | ⟨_,_,_,_,_⟩ <;> omega
 have T:=F5 (A:=100000) (B:=100000) (x:=a+b) (y:=c+d) (by omega) (by omega) (by omega) (by omega) (by decide);have e:0 < (a+b)*(c+d):=Int.mul_pos (by omega) (by omega);have Q:=Hh f n i g (w:=a) (by omega);have V : -(1000000*(b*(c+d)))<=(if b=0 then 0 else l8 t (p+1) q b c d)/\(if b=0 then 0 else l8 t (p+1) q b c d)<=1000000*(b*(c+d)):=by
  by_cases hz:b=0
  ·rw[if_pos hz,hz,Int.zero_mul]; decide
  ·rw[if_neg hz]; exact Hh f (o.2.2.2.2.2.2 hz) i g (by omega)
 have W:1000000*((a+b)*(c+d))=1000000*(a*(c+d))+1000000*(b*(c+d)):=by rw[Int.add_mul,Int.mul_add 1000000]
 obtain⟨u,j⟩:=N1 (l8 t p q a c d+(if b=0 then 0 else l8 t (p+1) q b c d)) ((a+b)*(c+d)) m (by omega) (by omega) e;have v:=CY (a:=l8 t p q a c d+(if b=0 then 0 else l8 t (p+1) q b c d)) (K:=1000000) m e (by omega) (by omega);have z:c7 ((a+b)*(c+d)):=oo;have i2:c7 (a+b):=oo;have i3:c7 (c+d):=oo;refine⟨_,?_,?_,v⟩
 ·unfold F3;rw[P,gP ⟨rfl,trivial⟩,vS,lE,E,gP ⟨rfl,trivial⟩,vS,lE,Se f n i k g,GA,u,gP ⟨z,rfl,trivial⟩,vS,lE]
 ·unfold Ai;rw[H,gP ⟨rfl,trivial⟩,vS,lE,F,gP ⟨rfl,trivial⟩,vS,lE,E0E f n i k g,Ma,j,gP ⟨i2,i3,z,rfl,trivial⟩,vS,lE]
end Go.Proofs.YtechodbafnmddaaGreatDoor
end
section
namespace Go.Proofs.YtechodbafnmddaaGreatDoor
open Go Go.Proofs Go.Proofs.Sv Go.Proofs.Xv Go.Proofs.Xl Go.Proofs.Xd
section
variable {b:j1}
theorem Fy(b:j1){n:Nat}(h:n<b.2.2.length):(l7 b).2.2.2.1.getD ((n:Int)).toNat 0=(r6 b n).getD 0 0/\ix (n:Int) (l7 b).2.2.2.1.length:=by
 have a:(l7 b).2.2.2.1.length=b.2.2.length:=Fg _ _;exact⟨KQ _ 0 _ n h,oo⟩
theorem Fz(b:j1){n:Nat}(h:n<b.2.2.length):(l7 b).2.2.2.2.1.getD ((n:Int)).toNat []=Q5 b n/\ix (n:Int) (l7 b).2.2.2.2.1.length:=by
 have a:(l7 b).2.2.2.2.1.length=b.2.2.length:=Fg _ _;exact⟨KQ _ [] _ n h,oo⟩
theorem E0O(i:wf l5 b)(u:q7 b=true){n k:Nat}(H:n<b.2.2.length)(W:k < (q8 b.2.1 n).length){s m:Int}(e:0<=s)(q:s<=1000000)(h:m=0∨m=1) :
  ∃r,N7 s ((Q5 b n).getD k 0) m=some r/\IA b (n:Int) (k:Int) s m=some r/\0<=r:=by
 have c:=Z0 u H;obtain⟨Q,F⟩:=c.delays;have d:=F (o4 b n k).toNat;have f:=c.sn;have j:=c.wf.snkIn k (by omega);obtain⟨X,f2,f3⟩:=NI s ((s5 b n).getD (o4 b n k).toNat 0);have V:=F5 (A:=1000000) (B:=1000000) (x:=s) (y:=s) (by omega) (by omega) (by omega) (by omega) (by decide);have E:=F5 (A:=301000000) (B:=301000000) (x:=(s5 b n).getD (o4 b n k).toNat 0) (y:=(s5 b n).getD (o4 b n k).toNat 0) (by omega) (by omega) (by omega) (by omega) (by decide);have T:0<=s*s:=Int.mul_nonneg e e;have w:0<=(s5 b n).getD (o4 b n k).toNat 0*(s5 b n).getD (o4 b n k).toNat 0:=Int.mul_nonneg d.1 d.1;obtain⟨r,z,Y,t,o,P,_⟩:=H0t e q d.1 d.2 h;refine⟨r,by grind[Fl],?_,P⟩;have v:((n:Int)).toNat=n:=rfl;have g:((k:Int)).toNat=k:=rfl;have a:0<=(b.2.2.getD n (a7 y172)).2.2.2.getD k 0/\((b.2.2.getD n (a7 y172)).2.2.2.getD k 0).toNat < (s5 b n).length:=by rw[Q]; exact j
 have l:k < (b.2.2.getD n (a7 y172)).2.2.2.length:=by
  show k < (j5 b n).2.2.2.length;omega
 unfold IA;rw[I0K b i c,vS,v,g,gP ⟨rfl,oo,oo,⟨a.1,by omega⟩,a.2,trivial⟩,lE];show gd (c7 (1000000*s)/\c7 (1000000*s*s)/\c7 (4*(s5 b n).getD (o4 b n k).toNat 0)/\c7 (4*(s5 b n).getD (o4 b n k).toNat 0*(s5 b n).getD (o4 b n k).toNat 0)/\c7 (1000000*s*s+4*(s5 b n).getD (o4 b n k).toNat 0*(s5 b n).getD (o4 b n k).toNat 0)/\(AQ (1000000*s*s+4*(s5 b n).getD (o4 b n k).toNat 0*(s5 b n).getD (o4 b n k).toNat 0) m).isSome=true/\(N5 (vl (AQ (1000000*s*s+4*(s5 b n).getD (o4 b n k).toNat 0*(s5 b n).getD (o4 b n k).toNat 0) m)) 1000 m).isSome=true/\True) (lt (vl (N5 (vl (AQ (1000000*s*s+4*(s5 b n).getD (o4 b n k).toNat 0*(s5 b n).getD (o4 b n k).toNat 0) m)) 1000 m)) fun G=>some G)=_;rw[t,vS,o,vS,gP ⟨oo,oo,oo,oo,oo,rfl,rfl,trivial⟩,lE]
theorem Le(i:wf l5 b)(f:q7 b=true){q:Int}(o:j3 q 0 (((lV b).length:Int)-1)=true){s m:Int}(P:0<=s)(G:s<=1000000)(y:m=0∨m=1) :
  ∃r,B3 (l7 b) q s m=some r/\X3 b ((lV b).getD q.toNat (a7 y138)) s m=some r/\r<=1000000:=by
 have o:=r7.1 o;have e:ix q (l7 b).2.2.1.length:=⟨o.1,by show q < ((lV b).length:Int); omega⟩;generalize hl:(lV b).getD q.toNat (a7 y138)=l;have c:(l7 b).2.2.1.getD q.toNat (a7 y138)=l:=hl;have d:l∈lV b:=by rw[<- hl]; exact F4 (by omega)
 rcases Fs f d with ⟨a,n,h⟩ | ⟨n,k,h⟩
 ·obtain⟨t,E⟩:=Bk h.slw h.trs;obtain⟨r,T,v,W,Q⟩:=Hi E s ((r6 b n).getD 0 0) m;obtain⟨j,g⟩:=Fy b h.nlt;refine⟨r,?_,?_,Q⟩
  ·unfold B3;refine(gP ⟨e,trivial⟩).trans ?_;rw[lE,c,Q7 h.pix h.net,vS,gP ⟨rfl,trivial⟩,lE];refine(if_pos (by rw[h.kind]; rfl)).trans ?_;rw[Ft h,vS,j,T,vS];refine(gP ⟨rfl,by decide,t,g,rfl,trivial⟩).trans ?_;rw[lE];have:min r 1000000=r:=by omega
   rw[this]
  ·unfold X3;refine(if_pos (by rw[h.kind]; rfl)).trans ?_;rw[I0P i f h,vS,gP ⟨rfl,trivial⟩,lE];show gd (_/\ix (l.2.1.tmod 2) a.2.2.2.2.2.length/\(Ai (a.2.2.2.2.2.getD (l.2.1.tmod 2).toNat (a7 y269)) s ((r6 b n).getD 0 0) m).isSome=true/\True) (lt (vl (Ai (a.2.2.2.2.2.getD (l.2.1.tmod 2).toNat (a7 y269)) s ((r6 b n).getD 0 0) m)) fun F=>some F)=_;rw[v,vS,gP ⟨by decide,t,rfl,trivial⟩,lE]
 ·obtain⟨r,z,H,V⟩:=E0O i f h.nlt h.klt P G y;obtain⟨j,g⟩:=Fz b h.nlt;have w:=Fm b n;have u:=h.klt;refine⟨min r 1000000,?_,?_,by omega⟩
  ·unfold B3;refine(gP ⟨e,trivial⟩).trans ?_;rw[lE,c,Q7 h.pix h.net,vS,gP ⟨rfl,trivial⟩,lE];refine(if_neg (by rw[h.kind]; decide)).trans ?_;rw[j,h.idx];have x:((k:Int)).toNat=k:=rfl;rw[x,z,vS];refine(gP ⟨g,oo,rfl,trivial⟩).trans ?_;rw[lE]
  ·unfold X3;refine(if_neg (by rw[h.kind]; decide)).trans ?_;rw[I0O i f h,vS,h.idx,H,vS,gP ⟨rfl,rfl,trivial⟩,lE,Int.min_comm]
def w5(c:q9)(k m:Int):Int:=if(k==1)=true then(if(m==0)=true then c.2.1 else c.2.2.1) else(if(m==0)=true then c.2.2.2.1 else c.2.2.2.2)
theorem Lf(c:q9)(k m:Int):GD c k m=some (w5 c k m):=by
 grind[GD,w5]
theorem L0i(c:q9)(k m:Int):DB c k m=some (w5 c k m):=by
 grind[DB,w5]
def F1(c:q9):Bool:=D3 c.1&&(decide (100<=c.2.1)&&decide (c.2.1<=c.2.2.1)&&decide (c.2.2.1<=5000))&&(decide (100<=c.2.2.2.1)&&decide (c.2.2.2.1<=c.2.2.2.2)&&decide (c.2.2.2.2<=5000))
theorem Cd{c:q9}(h:F1 c=true)(k m:Int):0<=w5 c k m/\w5 c k m<=5000:=by
 grind[F1,w5]
theorem NK(v:wf l5 b)(j:q7 b=true){c:q9}(hc:F1 c=true){q:Int}(z:j3 q 0 (((lV b).length:Int)-1)=true)(s m:Int) :
  ∃r,G8 (l7 b) c q s m=some r/\X4 b c ((lV b).getD q.toNat (a7 y138)) s m=some r /\ -6000000<=r/\r<=6000000:=by
 have z:=r7.1 z;have i:ix q (l7 b).2.2.1.length:=⟨z.1,by show q < ((lV b).length:Int); omega⟩;generalize hl:(lV b).getD q.toNat (a7 y138)=l;have f:(l7 b).2.2.1.getD q.toNat (a7 y138)=l:=hl;have g:l∈lV b:=by rw[<- hl]; exact F4 (by omega)
 have hf:=Cd hc l.2.2.1 m;have d:∀p:Int,-1000000<=p->p<=1000000->U6 c l m p=some (m4 (p*w5 c l.2.2.1 m) 1000 m)/\Gn c l m p=some (m4 (p*w5 c l.2.2.1 m) 1000 m) /\ -6000000<=m4 (p*w5 c l.2.2.1 m) 1000 m/\m4 (p*w5 c l.2.2.1 m) 1000 m<=6000000:=fun p p0 p1=>by
  have hp:=F5 (A:=1000000) (B:=5000) (x:=p) (y:=w5 c l.2.2.1 m) (by omega) (by omega) (by omega) (by omega) (by decide);have G:=N1 (p*w5 c l.2.2.1 m) 1000 m (by omega) (by omega) (by decide);have T:=CY (a:=p*w5 c l.2.2.1 m) (b:=1000) (K:=6000000) m (by decide) (by omega) (by omega);have o:U5 p (w5 c l.2.2.1 m) m=some (m4 (p*w5 c l.2.2.1 m) 1000 m):=by
   unfold U5;rw[G.1,vS,gP ⟨oo,rfl,trivial⟩,lE]
  refine⟨?_,?_,T⟩
  ·rw[U6,Lf,vS,o,vS,gP ⟨rfl,rfl,trivial⟩,lE]
  ·rw[Gn,L0i,vS,G.2,vS,gP ⟨rfl,oo,rfl,trivial⟩,lE]
 rcases Fs j g with ⟨a,n,h⟩ | ⟨n,k,h⟩
 ·obtain⟨H,Y⟩:=Bk h.del h.trs;obtain⟨r,l1,V,l3,l4⟩:=Hi Y s ((r6 b n).getD 0 0) m;obtain⟨w,t⟩:=Fy b h.nlt;obtain⟨u,E,F⟩:=d r l3 l4;refine⟨_,?_,?_,F⟩
  ·unfold G8;refine(gP ⟨i,trivial⟩).trans ?_;rw[lE,f,Q7 h.pix h.net,vS,gP ⟨rfl,trivial⟩,lE];refine(if_pos (by rw[h.kind]; rfl)).trans ?_;rw[Ft h,vS,w,l1,vS];refine(gP ⟨rfl,by decide,H,t,rfl,trivial⟩).trans ?_;rw[lE];exact u
  ·unfold X4;refine(if_pos (by rw[h.kind]; rfl)).trans ?_;rw[I0P v j h,vS,gP ⟨rfl,trivial⟩,lE];show gd (_/\ix (l.2.1.tmod 2) a.2.2.2.2.1.length/\(Ai (a.2.2.2.2.1.getD (l.2.1.tmod 2).toNat (a7 y269)) s ((r6 b n).getD 0 0) m).isSome=true/\True) (lt (vl (Ai (a.2.2.2.2.1.getD (l.2.1.tmod 2).toNat (a7 y269)) s ((r6 b n).getD 0 0) m)) fun v1=>Gn c l m v1)=_;rw[V,vS,gP ⟨by decide,H,rfl,trivial⟩,lE];exact E
 ·have Q:=Z0 j h.nlt;obtain⟨dl,db⟩:=Q.delays;have G:=db (o4 b n k).toNat;obtain⟨w,t⟩:=Fz b h.nlt;have X:=Fm b n;have e:=h.klt;have W:=s0d b n m;have P:((k:Int)).toNat=k:=rfl;have T:=CY (a:=(s5 b n).getD (o4 b n k).toNat 0) (b:=1000) (K:=301000) m (by decide) (by omega) (by omega);obtain⟨u,E,F⟩:=d (m4 ((s5 b n).getD (o4 b n k).toNat 0) 1000 m) (by omega) (by omega);refine⟨_,?_,?_,F⟩
  ·unfold G8;refine(gP ⟨i,trivial⟩).trans ?_;rw[lE,f,Q7 h.pix h.net,vS,gP ⟨rfl,trivial⟩,lE];refine(if_neg (by rw[h.kind]; decide)).trans ?_;rw[w,h.idx,P,Fl e,(N1 _ 1000 m (by omega) (by omega) (by decide)).1,vS];refine(gP ⟨t,oo,rfl,trivial⟩).trans ?_;rw[lE];exact u
  ·unfold X4;refine(if_neg (by rw[h.kind]; decide)).trans ?_;rw[I0O v j h,vS,L0j b v Q,vS,h.idx,P,gP ⟨rfl,rfl,oo,by omega,trivial⟩,lE,s0e e];exact E
theorem I0M(s:Int):CL s=some (j3 s 0 1000000):=by
 unfold CL;rw[P9,vS,gP ⟨rfl,trivial⟩]
end
theorem Sg{b:j1}{q:Int}(h:j3 q 0 (((lV b).length:Int)-1)=true):ix q (lV b).length/\q.toNat < (lV b).length:=by
 have:=r7.1 h;exact⟨oo,by omega⟩
theorem L0E(c:q9)(e:wf u4 c):Ku c=some (F1 c):=by
 have d:∀a b,DT a b=some (decide (100<=a)&&decide (a<=b)&&decide (b<=5000)):=fun _ _=>rfl;unfold Ku F1;rw[RA _ e.1,vS,d,vS,d,vS,gP ⟨rfl,(fun _=>rfl),(fun _=>rfl),trivial⟩]
def Si(c:q9)(i:Nat):Bool:=!j3 ([c.2.1,c.2.2.1,c.2.2.2.1,c.2.2.2.2].getD i 0) 100 5000
theorem r84(c:q9)(q:wf u4 c):BK c=some (F1 c):=by
 unfold BK;rw[lE];have b:=C2 (n:=4) (by decide) (Si c) (some false) (e:=Jc c ()) (F:=Mz [c.2.1,c.2.2.1,c.2.2.2.1,c.2.2.2.2] c) (fun g i hi=>by
  have l:((i:Int)).toNat=i:=rfl;have f:([c.2.1,c.2.2.1,c.2.2.2.1,c.2.2.2.2]:List Int).length=4:=rfl;refine(if_pos (decide_eq_true (by rw[f]; omega))).trans ?_;rw[l,L5,vS,gP ⟨⟨by omega,by rw[f]; omega⟩,hi,rfl,trivial⟩,gP ⟨oo,trivial⟩];rfl) (fun g=>by
  show Mz [c.2.1,c.2.2.1,c.2.2.2.1,c.2.2.2.2] c g (((4:Nat):Int))=_;rw[Mz];exact if_neg (by simp))
 refine b.trans ?_;have m:Jc c ()=some (D3 c.1&&decide (c.2.1<=c.2.2.1)&&decide (c.2.2.2.1<=c.2.2.2.2)):=by
  unfold Jc;rw[Nx _ q.1,vS,gP ⟨rfl,trivial⟩]
 rw[m];have k:(List.range 4).any (Si c)=(!j3 c.2.1 100 5000||(!j3 c.2.2.1 100 5000||(!j3 c.2.2.2.1 100 5000||(!j3 c.2.2.2.2 100 5000||false)))):=rfl;have o:(if(List.range 4).any (Si c)=true then false else(D3 c.1&&decide (c.2.1<=c.2.2.1)&&decide (c.2.2.2.1<=c.2.2.2.2)))=F1 c:=by
  rw[k,Bool.eq_iff_iff];unfold F1 j3;by_cases h:(!(decide (100<=c.2.1)&&decide (c.2.1<=5000))||(!(decide (100<=c.2.2.1)&&decide (c.2.2.1<=5000))||(!(decide (100<=c.2.2.2.1)&&decide (c.2.2.2.1<=5000))||(!(decide (100<=c.2.2.2.2)&&decide (c.2.2.2.2<=5000))||false))))=true
  ·rw[if_pos h];simp only[Bool.or_eq_true,Bool.not_eq_true',Bool.and_eq_false_iff,decide_eq_false_iff_not,Bool.false_eq_true,or_false] at h;simp only[ba,dq,Bool.false_eq_true,false_iff];rintro⟨⟨_,a⟩,d⟩;omega
  ·rw[if_neg h];simp only[Bool.or_eq_true,Bool.not_eq_true',Bool.and_eq_false_iff,decide_eq_false_iff_not,Bool.false_eq_true,or_false] at h;simp only[ba,dq];constructor
   ·rintro⟨⟨a,d⟩,j⟩;exact⟨⟨a,by omega⟩,by omega⟩
   ·rintro⟨⟨a,d⟩,j⟩;exact⟨⟨a,by omega⟩,by omega⟩
 rw[<- o];split <;> rfl
end Go.Proofs.YtechodbafnmddaaGreatDoor
end
section
namespace Go.Proofs.YtechodbafnmddaaGreatDoor
open Go Go.Proofs Go.Proofs.Xv Go.Proofs.Xl Go.Proofs.Xd
theorem Hj{a b:Int}(m:Int)(c:0<=a)(d:0<b):0<=m4 a b m:=by
 unfold m4;have e:=Int.emod_nonneg a (Int.ne_of_gt d);have f:0<=a / b:=Int.ediv_nonneg c (Int.le_of_lt d);rw[Int.tdiv_eq_ediv_of_nonneg c,Int.tmod_eq_emod_of_nonneg c,if_neg (by rw[ba,dq]; omega)];split <;> omega
theorem s0D(xs:List Int):∀n i,i<=n->fN (fun i m=>min m (xs.getD (i+1) 0)) n (xs.getD 0 0)<=xs.getD i 0
 | 0,i,h=>by
   have:i=0:=by omega
   subst this;exact Int.le_refl _
 | n+1,i,h=>by
   show min (fN (fun i m=>min m (xs.getD (i+1) 0)) n (xs.getD 0 0)) (xs.getD (n+1) 0)<=_;rcases Nat.lt_or_ge n i with a | a
   ·have:i=n+1:=by omega
    subst this;omega
   ·have:=s0D xs n i a;omega
theorem NL{l:List BT}(h:B9 l true=true){t:BT}(b:t∈l):∀i,i<t.2.2.length->0<=t.2.2.getD i 0:=fun i hi=>by
 unfold B9 at h;rw[ba] at h;have:=List.all_eq_true.1 h.2 t b;simp only[Bool.true_and,ba,Bool.not_eq_true',decide_eq_false_iff_not] at this;have c:=s0D t.2.2 (t.2.2.length-1) i (by omega);have a:¬U8 t.2.2<0:=this.2;unfold U8 at a;omega
theorem NM{t:m0}(e:∀i,i<t.2.2.length->0<=t.2.2.getD i 0){r q:Nat}{w c d:Int}(a:0<=w)(g:0<=c)(f:0<=d):0<=l8 t r q w c d:=by
 have b:∀r q,0<=D6 t r q:=fun r q=>by
  unfold D6;rcases Nat.lt_or_ge (r*t.2.1.length+q) t.2.2.length with h | h
  ·exact e _ h
  ·rw[gq,List.getElem?_eq_none h]; exact Int.le_refl _
 unfold l8;have k:=Int.mul_nonneg (Int.mul_nonneg (b r q) a) g;have j:=Int.mul_nonneg (Int.mul_nonneg (b r (q+1)) a) f;omega
theorem o0S{t:m0}(h:w8 t=true)(F:∀i,i<t.2.2.length->0<=t.2.2.getD i 0)(s l m:Int):∀r,F3 t s l m=some r->0<=r:=by
 intro r E;have j:B8 t.1=true/\B8 t.2.1=true:=by
  simp only[w8,ba] at h;exact⟨h.1.1.1,h.1.1.2⟩
 obtain⟨p,a,b,L,k,z,X,P⟩:=Fx s j.1;obtain⟨q,c,d,M,u,n,V,G⟩:=Fx l j.2;have g:0<=a/\0<=b/\1<=a+b/\a+b<=100000/\a<=100000/\b<=100000/\(b≠0->p+1<t.1.length):=by
  rcases z with ⟨rfl,rfl,_⟩ | ⟨_,_,_,_,_⟩ <;> omega
 have e:0<=c/\0<=d/\1<=c+d/\c+d<=100000:=by
  rcases n with ⟨rfl,rfl,_⟩ | ⟨_,_,_,_,_⟩ <;> omega
 have W:=F5 (A:=100000) (B:=100000) (x:=a+b) (y:=c+d) (by omega) (by omega) (by omega) (by omega) (by decide);have f:0 < (a+b)*(c+d):=Int.mul_pos (by omega) (by omega);have T:=Hh h k u n (w:=a) (by omega);have x2 : -(1000000*(b*(c+d)))<=(if b=0 then 0 else l8 t (p+1) q b c d)/\(if b=0 then 0 else l8 t (p+1) q b c d)<=1000000*(b*(c+d)):=by
  by_cases hz:b=0
  ·rw[if_pos hz,hz,Int.zero_mul]; decide
  ·rw[if_neg hz]; exact Hh h (g.2.2.2.2.2.2 hz) u n (by omega)
 have Q:=NM F (r:=p) (q:=q) g.1 e.1 e.2.1;have y2:0<=(if b=0 then 0 else l8 t (p+1) q b c d):=by
  split
  ·exact Int.le_refl _
  ·exact NM F g.2.1 e.1 e.2.1
 have Y:1000000*((a+b)*(c+d))=1000000*(a*(c+d))+1000000*(b*(c+d)):=by rw[Int.add_mul,Int.mul_add 1000000]
 have v:=(N1 (l8 t p q a c d+(if b=0 then 0 else l8 t (p+1) q b c d)) ((a+b)*(c+d)) m (by omega) (by omega) f).1;have H:c7 ((a+b)*(c+d)):=oo;have o:F3 t s l m=some (m4 (l8 t p q a c d+(if b=0 then 0 else l8 t (p+1) q b c d)) ((a+b)*(c+d)) m):=by
  unfold F3;rw[P,gP ⟨rfl,trivial⟩,vS,lE,G,gP ⟨rfl,trivial⟩,vS,lE,Se h k u z n,GA,v,gP ⟨H,rfl,trivial⟩,vS,lE]
 rw[o] at E;cases E;exact Hj m (by omega) f
end Go.Proofs.YtechodbafnmddaaGreatDoor
end
section
namespace Go.Proofs.YtechodbafnmddaaGreatDoor
open Go Go.Proofs Go.Proofs.Sv Go.Proofs.Xv Go.Proofs.Xl Go.Proofs.Xd
theorem NN{a:Int}(m:Int)(h:0<=a):m4 a 1000 m=if 0<a % 1000/\m=1 then a / 1000+1 else a / 1000:=by
 unfold m4;have b:=Int.emod_nonneg a (show(1000:Int)≠0 by decide);rw[Int.tdiv_eq_ediv_of_nonneg h,Int.tmod_eq_emod_of_nonneg h,if_neg (by rw[ba,dq]; omega)];by_cases c:0<a % 1000/\m=1
 ·rw[if_pos c,if_pos (by rw[ba,dq,beq_iff_eq]; exact c)]
 ·rw[if_neg c,if_neg (by rw[ba,dq,beq_iff_eq]; exact c)]
theorem t0o{a b:Int}(m:Int)(h:0<=a)(c:a<=b):m4 a 1000 m<=m4 b 1000 m:=by
 rw[NN m h,NN m (by omega)];split <;> split <;> omega
theorem Sj{a b:Int}(h:0<=a)(c:a<=b):m4 a 1000 0<=m4 b 1000 1:=by
 rw[NN 0 h,NN 1 (by omega)];rw[if_neg (by omega)];split <;> omega
theorem s0B{p x y:Int}(a:0<=p)(h:x<=y):p*x<=p*y:=Int.mul_le_mul_of_nonneg_left h a
section
variable {b:j1}
structure Q0J(b:j1)(q:Int)(B:Int->Int->Int):Prop where
 bd:∀s m,0<=B s m/\B s m<=1000000
 val:∀c,F1 c=true->∀s m,G8 (l7 b) c q s m=some (m4 (B s m*w5 c ((lV b).getD q.toNat (a7 y138)).2.2.1 m) 1000 m)
theorem B0f(T:q7 b=true){q:Int}(P:j3 q 0 (((lV b).length:Int)-1)=true):∃B,Q0J b q B:=by
 have P:=r7.1 P;have i:ix q (l7 b).2.2.1.length:=⟨P.1,by show q < ((lV b).length:Int); omega⟩;generalize hl:(lV b).getD q.toNat (a7 y138)=l;have f:(l7 b).2.2.1.getD q.toNat (a7 y138)=l:=hl;have g:l∈lV b:=by rw[<- hl]; exact F4 (by omega)
 have e:∀(c:q9) (m p:Int),F1 c=true -> -1000000<=p->p<=1000000->U6 c l m p=some (m4 (p*w5 c l.2.2.1 m) 1000 m):=fun c m p j p0 p1=>by
  have hf:=Cd j l.2.2.1 m;have hp:=F5 (A:=1000000) (B:=5000) (x:=p) (y:=w5 c l.2.2.1 m) (by omega) (by omega) (by omega) (by omega) (by decide);have X:=N1 (p*w5 c l.2.2.1 m) 1000 m (by omega) (by omega) (by decide);have w:U5 p (w5 c l.2.2.1 m) m=some (m4 (p*w5 c l.2.2.1 m) 1000 m):=by
   unfold U5;rw[X.1,vS,gP ⟨oo,rfl,trivial⟩,lE]
  rw[U6,Lf,vS,w,vS,gP ⟨rfl,rfl,trivial⟩,lE]
 rcases Fs T g with ⟨a,n,h⟩ | ⟨n,k,h⟩
 ·obtain⟨u,F⟩:=Bk h.del h.trs;have v:(l.2.1.tmod 2).toNat<a.2.2.2.2.1.length:=by have:=u.1; have:=u.2; omega
  have Q:=NL h.del (F4 (d:=a7 y269) v);obtain⟨H,z⟩:=Fy b h.nlt;refine⟨fun s m=>vl (F3 (a.2.2.2.2.1.getD (l.2.1.tmod 2).toNat (a7 y269)) s ((r6 b n).getD 0 0) m),⟨fun s m=>?_,fun c j s m=>?_⟩⟩
  ·obtain⟨r,o,Y,V,W⟩:=Hi F s ((r6 b n).getD 0 0) m;have:=o0S F Q s ((r6 b n).getD 0 0) m r o;rw[o,vS];omega
  ·obtain⟨r,o,Y,V,W⟩:=Hi F s ((r6 b n).getD 0 0) m;show _=some (m4 (vl (F3 (a.2.2.2.2.1.getD (l.2.1.tmod 2).toNat (a7 y269)) s ((r6 b n).getD 0 0) m)*w5 c ((lV b).getD q.toNat (a7 y138)).2.2.1 m) 1000 m);rw[hl];unfold G8;refine(gP ⟨i,trivial⟩).trans ?_;rw[lE,f,Q7 h.pix h.net,vS,gP ⟨rfl,trivial⟩,lE];refine(if_pos (by rw[h.kind]; rfl)).trans ?_;rw[Ft h,vS,H,o,vS];refine(gP ⟨rfl,by decide,u,z,rfl,trivial⟩).trans ?_;rw[lE];exact e c m r j V W
 ·have no:=Z0 T h.nlt;obtain⟨dl,db⟩:=no.delays;have X:=db (o4 b n k).toNat;obtain⟨H,z⟩:=Fz b h.nlt;have aA:=Fm b n;have t:=h.klt;have e4:((k:Int)).toNat=k:=rfl;have E:=fun m=>CY (a:=(s5 b n).getD (o4 b n k).toNat 0) (b:=1000) (K:=301000) m (by decide) (by omega) (by omega);have G:=fun m=>Hj (a:=(s5 b n).getD (o4 b n k).toNat 0) (b:=1000) m (by omega) (by decide);refine⟨fun _ m=>m4 ((s5 b n).getD (o4 b n k).toNat 0) 1000 m,⟨fun s m=>⟨G m,by have:=(E m).2; omega⟩,fun c j s m=>?_⟩⟩;show _=some (m4 (m4 ((s5 b n).getD (o4 b n k).toNat 0) 1000 m*w5 c ((lV b).getD q.toNat (a7 y138)).2.2.1 m) 1000 m);rw[hl];unfold G8;refine(gP ⟨i,trivial⟩).trans ?_;rw[lE,f,Q7 h.pix h.net,vS,gP ⟨rfl,trivial⟩,lE];refine(if_neg (by rw[h.kind]; decide)).trans ?_;rw[H,h.idx,e4,Fl t,(N1 _ 1000 m (by omega) (by omega) (by decide)).1,vS];refine(gP ⟨z,oo,rfl,trivial⟩).trans ?_;rw[lE];exact e c m _ j (by have:=E m; omega) (by have:=E m; omega)
end
theorem B0o{a b c:Int}(g:0<=a)(f:0<b)(h:a<=c*b):m4 a b 1<=c:=by
 rw[Z3 g f];have e:=Int.mul_ediv_add_emod a b;split
 ·rename_i hz;rcases Int.lt_or_le (a / b) c with d | d
  ·omega
  ·have:=Int.mul_le_mul_of_nonneg_right d (show 0<=b by omega);have:b*(a / b)=a / b*b:=Int.mul_comm _ _;omega
 ·exact Int.ediv_le_of_le_mul f h
theorem A0M{a b:Int}(d:0<=a)(c:0<b):a<=m4 a b 1*b:=by
 rw[Z3 d c];have e:=Int.mul_ediv_add_emod a b;have g:=Int.emod_lt_of_pos a c;have f:=Int.emod_nonneg a (show b≠0 by omega);have:b*(a / b)=a / b*b:=Int.mul_comm _ _;split
 ·grind
 ·omega
theorem Hk{a b c d:Int}(i:0<=a)(g:0<b)(j:0<=c)(e:0<d)(h:a*d<=c*b){m:Int}(k:m=0∨m=1):m4 a b m<=m4 c d m:=by
 rcases k with rfl | rfl
 ·rw[Cb i g,Cb j e,Int.le_ediv_iff_mul_le e];have l:=Int.mul_le_mul_of_nonneg_right (Int.ediv_mul_le a (show b≠0 by omega)) (show 0<=d by omega);have f:a / b*d*b<=c*b:=by rw[Int.mul_assoc,Int.mul_comm d b,<- Int.mul_assoc]; omega
  exact Int.le_of_mul_le_mul_right f g
 ·refine B0o i g ?_;have l:=Int.mul_le_mul_of_nonneg_right (A0M j e) (show 0<=b by omega);have f:a*d<=m4 c d 1*b*d:=by rw[Int.mul_assoc,Int.mul_comm b d,<- Int.mul_assoc]; omega
  exact Int.le_of_mul_le_mul_right f e
theorem A0U{a b:Int}(d:0<=a)(c:0<b):m4 a b 0<=m4 a b 1:=by
 grind[Cb,Z3]
theorem C0f{xs:List Int}(h:B8 xs=true){p:Nat}(a:p<xs.length):J3 xs (xs.getD p 0)=some ([((p:Int),1)],1):=by
 obtain⟨k,l⟩:=Be h;have g:((xs.length:Int)-1).toNat=xs.length-1:=by omega
 have m:xs.getD 0 0<=xs.getD p 0:=by
  rcases Nat.eq_zero_or_pos p with e | e
  ·grind
  ·have:=Bj h e a; omega
 have j:xs.getD p 0<=xs.getD (xs.length-1) 0:=by
  rcases Nat.lt_or_ge p (xs.length-1) with e | e
  ·have:=Bj h e (by omega); omega
  ·grind
 have b:r8 xs (xs.getD p 0)=xs.getD p 0:=by unfold r8; omega
 have d:∀i,i<p->xs.getD i 0<r8 xs (xs.getD p 0):=fun i hi=>by rw[b]; exact Bj h hi a
 have c:∀i,p<=i->i<xs.length->r8 xs (xs.getD p 0)<=xs.getD i 0:=fun i hi f=>by
  rw[b];rcases Nat.eq_or_lt_of_le hi with e | e
  ·grind
  ·have:=Bj h e f; omega
 unfold J3;rw[gP ⟨oo,oo,oo,trivial⟩,g];change lt (r8 xs (xs.getD p 0)) _=_;rw[lE,Ld (by omega) a d c,gP ⟨rfl,trivial⟩,vS,lE,if_pos (by grind)]
theorem NO{t:m0}(j:w8 t=true)(_:∀i,i<t.2.2.length->0<=t.2.2.getD i 0){s l:Int}{p q:Nat}{a b c d:Int}{L M:List (Int×Int)}(e:p<t.1.length)(o:Sh t.1.length p a b L)(r:J3 t.1 s=some (L,a+b))(k:q<t.2.1.length)(g:Sh t.2.1.length q c d M)(v:J3 t.2.1 l=some (M,c+d))(m:Int) :
  F3 t s l m=some (m4 (l8 t p q a c d+(if b=0 then 0 else l8 t (p+1) q b c d)) ((a+b)*(c+d)) m):=by
 have n:0<=a/\0<=b/\1<=a+b/\a+b<=100000/\a<=100000/\b<=100000/\(b≠0->p+1<t.1.length):=by
  rcases o with ⟨rfl,rfl,_⟩ | ⟨_,_,_,_,_⟩ <;> omega
 have u:0<=c/\0<=d/\1<=c+d/\c+d<=100000:=by
  rcases g with ⟨rfl,rfl,_⟩ | ⟨_,_,_,_,_⟩ <;> omega
 have F:=F5 (A:=100000) (B:=100000) (x:=a+b) (y:=c+d) (by omega) (by omega) (by omega) (by omega) (by decide);have f:0 < (a+b)*(c+d):=Int.mul_pos (by omega) (by omega);have H:=Hh j e k g (w:=a) (by omega);have E : -(1000000*(b*(c+d)))<=(if b=0 then 0 else l8 t (p+1) q b c d)/\(if b=0 then 0 else l8 t (p+1) q b c d)<=1000000*(b*(c+d)):=by
  by_cases hz:b=0
  ·grind
  ·rw[if_neg hz]; exact Hh j (n.2.2.2.2.2.2 hz) k g (by omega)
 have G:1000000*((a+b)*(c+d))=1000000*(a*(c+d))+1000000*(b*(c+d)):=by grind
 have h:=(N1 (l8 t p q a c d+(if b=0 then 0 else l8 t (p+1) q b c d)) ((a+b)*(c+d)) m (by omega) (by omega) f).1;have z:c7 ((a+b)*(c+d)):=oo;unfold F3;rw[r,gP ⟨rfl,trivial⟩,vS,lE,v,gP ⟨rfl,trivial⟩,vS,lE,Se j e k o g,GA,h,gP ⟨z,rfl,trivial⟩,vS,lE]
theorem Lg(t:m0)(r q:Nat)(w c d:Int):l8 t r q w c d=w*l8 t r q 1 c d:=by
 grind[l8]
structure Lh(t:m0)(l:Int)(V:Int->Int->Int):Prop where
 val:∀s m,F3 t s l m=some (V s m)
 pos:∀s m,0<=V s m
 two:∀s,V s 0<=V s 1
 lo:∀s,∃i,i<t.1.length/\V (t.1.getD i 0) 0<=V s 0
 hi:∀s,∃i,i<t.1.length/\V s 1<=V (t.1.getD i 0) 1
theorem A0G{t:m0}(x:w8 t=true)(G:∀i,i<t.2.2.length->0<=t.2.2.getD i 0)(l:Int):∃V,Lh t l V:=by
 have w:B8 t.1=true/\B8 t.2.1=true:=by
  simp only[w8,ba] at x;exact⟨x.1.1.1,x.1.1.2⟩
 obtain⟨q,c,d,M,T,H,X,P⟩:=Fx l w.2;have y:0<=c/\0<=d/\1<=c+d/\c+d<=100000:=by
  rcases H with ⟨rfl,rfl,_⟩ | ⟨_,_,_,_,_⟩ <;> omega
 have F:∀r,0<=l8 t r q 1 c d:=fun r=>NM G (by decide) y.1 y.2.1;have j:∀s,∃(p:Nat) (a b:Int),p<t.1.length/\0<=a/\0<=b/\1<=a+b/\(b≠0->p+1<t.1.length)/\∀m,F3 t s l m=some (m4 (a*l8 t p q 1 c d+b*l8 t (p+1) q 1 c d) ((a+b)*(c+d)) m):=fun s=>by
  obtain⟨p,a,b,L,g,Q,Y,W⟩:=Fx s w.1;have e:0<=a/\0<=b/\1<=a+b/\(b≠0->p+1<t.1.length):=by
   rcases Q with ⟨rfl,rfl,_⟩ | ⟨_,_,_,_,_⟩ <;> omega
  refine⟨p,a,b,g,e.1,e.2.1,e.2.2.1,e.2.2.2,fun m=>?_⟩;rw[NO x G g Q W T H P m];by_cases hz:b=0
  ·rw[if_pos hz,Lg t p q a,hz,Int.zero_mul]
  ·rw[if_neg hz,Lg t p q a,Lg t (p+1) q b]
 have E:∀p,p<t.1.length->∀m,F3 t (t.1.getD p 0) l m=some (m4 (l8 t p q 1 c d) (c+d) m):=fun p g m=>by
  have:=NO x G (a:=1) (b:=0) g (.inl ⟨rfl,rfl,rfl⟩) (C0f w.1 g) T H P m;rw[this,if_pos rfl,Int.add_zero,Int.add_zero,Int.one_mul]
 have u:∀{a b:Int} (p:Nat),0<=a->0<=b->0<=a*l8 t p q 1 c d+b*l8 t (p+1) q 1 c d:=fun p k o=>by
  have:=Int.mul_nonneg k (F p);have:=Int.mul_nonneg o (F (p+1));omega
 have j2:∀{a b:Int},1<=a+b->0 < (a+b)*(c+d):=fun h=>Int.mul_pos (by omega) (by omega);refine⟨fun s m=>vl (F3 t s l m),⟨fun s m=>?_,fun s m=>?_,fun s=>?_,fun s=>?_,fun s=>?_⟩⟩
 ·obtain⟨p,a,b,_,_,_,_,_,h⟩:=j s
  grind[vl,F3,vS]
 ·obtain⟨p,a,b,_,k,o,e,_,h⟩:=j s;show 0<=vl (F3 t s l m);rw[h,vS];exact Hj m (u p k o) (j2 e)
 ·obtain⟨p,a,b,_,k,o,e,_,h⟩:=j s;show vl (F3 t s l 0)<=vl (F3 t s l 1);rw[h,h,vS,vS];exact A0U (u p k o) (j2 e)
 ·obtain⟨p,a,b,g,k,o,e,v,h⟩:=j s;have n:∀r,r<t.1.length->(a+b)*l8 t r q 1 c d<=a*l8 t p q 1 c d+b*l8 t (p+1) q 1 c d->∃i,i<t.1.length/\vl (F3 t (t.1.getD i 0) l 0)<=vl (F3 t s l 0):=fun r z f=>by
   refine⟨r,z,?_⟩;rw[h,E r z,vS,vS];refine Hk (F r) (by omega) (u p k o) (j2 e) ?_ (.inl rfl);have:=Int.mul_le_mul_of_nonneg_right f (show 0<=c+d by omega)
   grind
  by_cases hz:b=0
  ·grind
  ·rcases Int.le_total (l8 t p q 1 c d) (l8 t (p+1) q 1 c d) with f | f
   ·refine n p g ?_;have:=Int.mul_le_mul_of_nonneg_left f o
    grind
   ·refine n (p+1) (v hz) ?_;have:=Int.mul_le_mul_of_nonneg_left f k
    grind
 ·obtain⟨p,a,b,g,k,o,e,v,h⟩:=j s;have n:∀r,r<t.1.length->a*l8 t p q 1 c d+b*l8 t (p+1) q 1 c d<=(a+b)*l8 t r q 1 c d->∃i,i<t.1.length/\vl (F3 t s l 1)<=vl (F3 t (t.1.getD i 0) l 1):=fun r z f=>by
   refine⟨r,z,?_⟩;rw[h,E r z,vS,vS];refine Hk (u p k o) (j2 e) (F r) (by omega) ?_ (.inr rfl);have:=Int.mul_le_mul_of_nonneg_right f (show 0<=c+d by omega)
   grind
  by_cases hz:b=0
  ·grind
  ·rcases Int.le_total (l8 t p q 1 c d) (l8 t (p+1) q 1 c d) with f | f
   ·refine n (p+1) (v hz) ?_;have:=Int.mul_le_mul_of_nonneg_left f k
    grind
   ·refine n p g ?_;have:=Int.mul_le_mul_of_nonneg_left f o
    grind
theorem q0P{s d:Int}(c:0<=s)(u:s<=1000000)(e:0<=d)(v:d<=301000000):∃r z,N7 s d 0=some r/\N7 s d 1=some z/\r<=z:=by
 obtain⟨k,t,o⟩:=NI s d;have q:=F5 (A:=1000000) (B:=1000000) (x:=s) (y:=s) (by omega) (by omega) (by omega) (by omega) (by decide);have w:=F5 (A:=301000000) (B:=301000000) (x:=d) (y:=d) (by omega) (by omega) (by omega) (by omega) (by decide);have l:0<=s*s:=Int.mul_nonneg c c;have i:0<=d*d:=Int.mul_nonneg e e;obtain⟨R,g,j,h⟩:=RZ (n:=250000*(s*s)+d*d) (by omega) (by omega);have a:=g.1;have f:=F5 (A:=3000000000) (B:=3000000000) (x:=R) (y:=R) (by omega) (by omega) (by omega) (by omega) (by decide);have b:∀m,N7 s d m=some (J1 (250000*(s*s)+d*d) m R):=fun m=>by
  unfold N7;rw[k,h,vS,gP ⟨oo,oo,oo,oo,oo,trivial⟩,gP ⟨rfl,trivial⟩,lE,gP ⟨(fun _=>oo),trivial⟩];unfold J1;split
  ·have:R.tdiv 500=R / 500:=Int.tdiv_eq_ediv_of_nonneg a;exact gP ⟨by decide,oo,trivial⟩
  ·rw[(N1 R 500 m (by omega) (by omega) (by decide)).1,vS,gP ⟨rfl,trivial⟩,lE]
 refine⟨_,_,b 0,b 1,?_⟩;unfold J1;rw[if_neg (by simp),Cb a (by decide)]
 grind[Int.tdiv_eq_ediv_of_nonneg,Z3]
def H8(s:Int×Int):Bool:=j3 s.1 (-1000000000) 1000000000&&j3 s.2 (-1000000000) 1000000000&&decide (s.1<=s.2)
def F2(s:Int×Int):Bool:=H8 s&&j3 s.1 0 1000000&&j3 s.2 0 1000000
theorem I0m(s:Int×Int):X9 s=some (F2 s):=by
 have e:∀x,CE x=some (j3 x (-1000000000) 1000000000):=fun _=>rfl;have a:J4 s=some (H8 s):=by
  unfold J4;rw[e,e,vS,vS];exact gP ⟨rfl,fun _=>rfl,trivial⟩
 unfold X9;rw[a,vS,I0M,I0M,vS,vS];exact gP ⟨rfl,fun _=>rfl,fun _=>rfl,trivial⟩
theorem NP(s:Int×Int):X9 s=some (F2 s)/\AU s=some (F2 s):=by
 refine⟨I0m s,?_⟩;unfold AU;refine congrArg some ?_;unfold F2 H8 j3;rw[Bool.eq_iff_iff];simp only[ba,dq];omega
theorem q0n{b:j1}(d:wf l5 b)(e:q7 b=true){c:q9}(h:F1 c=true){q:Int}(a:j3 q 0 (((lV b).length:Int)-1)=true)(sp:Int×Int)(f:F2 sp=true) :
  ∃v:(Int×Int)×Int×Int,BP (l7 b) c q sp=some v/\Gp b c ((lV b).getD q.toNat (a7 y138)) sp=some v:=by
 unfold F2 at f;rw[ba,ba] at f;have g:=r7.1 f.1.2;have i:=r7.1 f.2;have j:=r7.1 a;have k:ix q (l7 b).2.2.1.length:=⟨j.1,by show q < ((lV b).length:Int); omega⟩;obtain⟨l,H,X,_⟩:=NK d e h a sp.1 0;obtain⟨o,Q,u,_⟩:=NK d e h a sp.2 0;obtain⟨r,w,y,_⟩:=NK d e h a sp.1 1;obtain⟨n,s,V,_⟩:=NK d e h a sp.2 1;obtain⟨T,e1,x,_⟩:=Le d e a g.1 g.2 (m:=0) (.inl rfl);obtain⟨W,G,E,_⟩:=Le d e a i.1 i.2 (m:=0) (.inl rfl);obtain⟨t,Y,P,_⟩:=Le d e a g.1 g.2 (m:=1) (.inr rfl);obtain⟨F,z,f4,_⟩:=Le d e a i.1 i.2 (m:=1) (.inr rfl);refine⟨((min l o,max r n),min T W,max t F),?_,?_⟩
 ·unfold BP;rw[H,Q,w,s];refine(gP ⟨rfl,rfl,rfl,rfl,trivial⟩).trans ?_;rw[lE];refine(gP ⟨k,trivial⟩).trans ?_;rw[lE];refine(if_neg ?_).trans ?_
  ·show ¬(decide ((0:Int)<0)&&_)=true;simp
  ·show DN (l7 b) q sp (min l o,max r n)=_;rw[DN,e1,G,Y,z];rfl
 ·unfold Gp;rw[X,y,x,P,u,V,E,f4];rfl
section
variable {b:j1}
theorem p0d(_:q7 b=true){q:Int}(i:j3 q 0 (((lV b).length:Int)-1)=true){a:A8}{n:Nat}(h:Lc b ((lV b).getD q.toNat (a7 y138)) a n){V:Int->Int->Int}(j:Lh (a.2.2.2.2.1.getD (((lV b).getD q.toNat (a7 y138)).2.1.tmod 2).toNat (a7 y269)) ((r6 b n).getD 0 0) V)(f:∀s m,V s m<=1000000){c:q9}(k:F1 c=true)(s m:Int) :
  G8 (l7 b) c q s m=some (m4 (V s m*w5 c ((lV b).getD q.toNat (a7 y138)).2.2.1 m) 1000 m):=by
 have i:=r7.1 i;have e:ix q (l7 b).2.2.1.length:=⟨i.1,by show q < ((lV b).length:Int); omega⟩;generalize hl:(lV b).getD q.toNat (a7 y138)=l at h j;have g:(l7 b).2.2.1.getD q.toNat (a7 y138)=l:=hl;have E:=j.pos s m;have z:=f s m;have F:=Cd k l.2.2.1 m;have v:=F5 (A:=1000000) (B:=5000) (x:=V s m) (y:=w5 c l.2.2.1 m) (by omega) (by omega) (by omega) (by omega) (by decide);have u:=N1 (V s m*w5 c l.2.2.1 m) 1000 m (by omega) (by omega) (by decide);have d:U5 (V s m) (w5 c l.2.2.1 m) m=some (m4 (V s m*w5 c l.2.2.1 m) 1000 m):=by
  unfold U5;rw[u.1,vS,gP ⟨oo,rfl,trivial⟩,lE]
 obtain⟨o,w⟩:=Bk h.del h.trs;obtain⟨t,r⟩:=Fy b h.nlt;unfold G8;refine(gP ⟨e,trivial⟩).trans ?_;rw[lE,g,Q7 h.pix h.net,vS,gP ⟨rfl,trivial⟩,lE];refine(if_pos (by rw[h.kind]; rfl)).trans ?_;rw[Ft h,vS,t,j.val,vS];refine(gP ⟨rfl,by decide,o,r,rfl,trivial⟩).trans ?_;rw[lE];show U6 c l m (V s m)=_;rw[U6,Lf,vS,d,vS,gP ⟨rfl,rfl,trivial⟩,lE]
theorem NQ(_:q7 b=true){T:List m0}(e:B9 T true=true){x:Int}(h:x=0∨x=1)(l:Int):∃V,Lh (T.getD x.toNat (a7 y269)) l V/\∀s m,V s m<=1000000:=by
 obtain⟨c,f⟩:=Bk e h;have a:x.toNat<T.length:=by have:=c.1; have:=c.2; omega
 obtain⟨V,g⟩:=A0G f (NL e (F4 (d:=a7 y269) a)) l;refine⟨V,g,fun s m=>?_⟩;obtain⟨r,j,_,_,i⟩:=Hi f s l m;have:=g.val s m;rw[j] at this;cases this;exact i
theorem v0b(_:wf l5 b)(o:q7 b=true){q:Int}(X:j3 q 0 (((lV b).length:Int)-1)=true){s:Int}(W:0<=s)(Q:s<=1000000):∃r z,B3 (l7 b) q s 0=some r/\B3 (l7 b) q s 1=some z/\r<=z:=by
 obtain⟨x,P⟩:=Sg X;have e:ix q (l7 b).2.2.1.length:=x;have d:(lV b).getD q.toNat (a7 y138)∈lV b:=F4 P;rcases Fs o d with ⟨a,n,h⟩ | ⟨n,k,h⟩
 ·obtain⟨V,t,j⟩:=NQ o h.slw h.trs ((r6 b n).getD 0 0);obtain⟨u,H⟩:=Bk h.slw h.trs;obtain⟨g,f⟩:=Fy b h.nlt;generalize hl:(lV b).getD q.toNat (a7 y138)=l at h t u H g f;have c:(l7 b).2.2.1.getD q.toNat (a7 y138)=l:=hl;have val:∀m,B3 (l7 b) q s m=some (V s m):=fun m=>by
   unfold B3;refine(gP ⟨e,trivial⟩).trans ?_;rw[lE,c,Q7 h.pix h.net,vS,gP ⟨rfl,trivial⟩,lE];refine(if_pos (by rw[h.kind]; rfl)).trans ?_;rw[Ft h,vS,g,t.val,vS];refine(gP ⟨rfl,by decide,u,f,rfl,trivial⟩).trans ?_;rw[lE];have:=j s m;have:min (V s m) 1000000=V s m:=by omega
   rw[this]
  exact⟨_,_,val 0,val 1,t.two s⟩
 ·have G:=Z0 o h.nlt;obtain⟨dl,Y⟩:=G.delays;have v:=Y (o4 b n k).toNat;obtain⟨g,f⟩:=Fz b h.nlt;have y:=Fm b n;have i:=h.klt;generalize hl:(lV b).getD q.toNat (a7 y138)=l at h;have c:(l7 b).2.2.1.getD q.toNat (a7 y138)=l:=hl;obtain⟨r,z,F,T,w3⟩:=q0P W Q v.1 v.2;have val:∀m r,N7 s ((s5 b n).getD (o4 b n k).toNat 0) m=some r->B3 (l7 b) q s m=some (min r 1000000):=fun m r w=>by
   unfold B3;refine(gP ⟨e,trivial⟩).trans ?_;rw[lE,c,Q7 h.pix h.net,vS,gP ⟨rfl,trivial⟩,lE];refine(if_neg (by rw[h.kind]; decide)).trans ?_;rw[g,h.idx];have E:((k:Int)).toNat=k:=rfl;rw[E,Fl i,w,vS];refine(gP ⟨f,oo,rfl,trivial⟩).trans ?_;rw[lE]
  exact⟨_,_,val 0 r F,val 1 z T,by omega⟩
end
theorem q0O{xs:List Int}(x:Int)(h:B8 xs=true):∃p:Nat,p<xs.length/\((r8 xs x=xs.getD p 0/\J3 xs x=some ([((p:Int),1)],1)) ∨
  (p+1<xs.length/\xs.getD p 0<r8 xs x/\r8 xs x<xs.getD (p+1) 0/\J3 xs x=some ([((p:Int),xs.getD (p+1) 0-r8 xs x),((p:Int)+1,r8 xs x-xs.getD p 0)],(xs.getD (p+1) 0-r8 xs x)+(r8 xs x-xs.getD p 0)))):=by
 obtain⟨v,t⟩:=Be h;have g:((xs.length:Int)-1).toNat=xs.length-1:=by omega
 have o:xs.getD 0 0<=r8 xs x:=by
  have:xs.getD 0 0<=xs.getD (xs.length-1) 0:=by
   by_cases u:xs.length=1
   ·grind
   ·have:=Bj h (by omega:0<xs.length-1) (by omega); omega
  unfold r8; omega
 have l:r8 xs x<=xs.getD (xs.length-1) 0:=by unfold r8; omega
 obtain⟨p,a,c,d⟩:=t0J h o l;by_cases f:xs.getD p 0=r8 xs x
 ·refine⟨p,a,.inl ⟨f.symm,?_⟩⟩;unfold J3;rw[gP ⟨oo,oo,oo,trivial⟩,g];change lt (r8 xs x) _=_;rw[lE,Ld (by omega) a c d,gP ⟨rfl,trivial⟩,vS,lE,if_pos (by simpa using f)]
 ·have e:r8 xs x<xs.getD p 0:=by have:=d p (Nat.le_refl _) a; omega
  have k:0<p:=by
   apply Nat.pos_of_ne_zero;intro j; subst j; omega
  obtain⟨q,rfl⟩:∃q,p=q+1:=⟨p-1,by omega⟩;have b:=c q (by omega);have s:=Lb h a;have r:=Lb h (by omega:q<xs.length);have m:(((q+1:Nat):Int))-1=(q:Int):=by omega
  have n:(((q+1:Nat):Int)).toNat=q+1:=rfl;have i:((q:Int)).toNat=q:=rfl;refine⟨q,by omega,.inr ⟨a,b,e,?_⟩⟩;unfold J3;rw[gP ⟨oo,oo,oo,trivial⟩,g];change lt (r8 xs x) _=_;rw[lE,Ld (by omega) a c d,gP ⟨rfl,trivial⟩,vS,lE,if_neg (by grind)];simp only[m,n,i];refine(gP ⟨oo,oo,oo,oo,oo,oo,oo,oo,oo,oo,trivial⟩).trans ?_;rw[lE]
  grind
theorem s0O{t:m0}(W:w8 t=true)(hp:∀i,i<t.2.2.length->0<=t.2.2.getD i 0)(Y:∀r q,r+1<t.1.length->q<t.2.1.length->D6 t r q<=D6 t (r+1) q)(l:Int){V:Int->Int->Int}(hV:Lh t l V){s o m:Int}(hm:m=0∨m=1)(hs:s<=o):V s m<=V o m:=by
 have v:B8 t.1=true/\B8 t.2.1=true:=by
  simp only[w8,ba] at W;exact⟨W.1.1.1,W.1.1.2⟩
 obtain⟨q,c,d,M,hq,hM,h3,h4⟩:=Fx l v.2;have u:0<=c/\0<=d/\1<=c+d/\c+d<=100000/\(d≠0->q+1<t.2.1.length):=by
  rcases hM with ⟨rfl,rfl,_⟩ | ⟨_,_,_,_,_⟩ <;> omega
 have P:∀r,0<=l8 t r q 1 c d:=fun r=>NM hp (by decide) u.1 u.2.1;have aA:∀r,r+1<t.1.length->l8 t r q 1 c d<=l8 t (r+1) q 1 c d:=fun r hr=>by
  unfold l8;rw[Int.mul_one,Int.mul_one,Int.mul_one,Int.mul_one];have x1:=Int.mul_le_mul_of_nonneg_right (Y r q hr hq) u.1;have x2:D6 t r (q+1)*d<=D6 t (r+1) (q+1)*d:=by
   by_cases hz:d=0
   ·rw[hz,Int.mul_zero,Int.mul_zero]; exact Int.le_refl _
   ·exact Int.mul_le_mul_of_nonneg_right (Y r (q+1) hr (u.2.2.2.2 hz)) u.2.1
  omega
 have aD:∀k r,r+k<t.1.length->l8 t r q 1 c d<=l8 t (r+k) q 1 c d:=by
  intro k
  induction k with
  | zero=>intro r _; exact Int.le_refl _
  | succ k ih =>
    intro r hr;have:=ih r (by omega);have:=aA (r+k) (by omega);rw[show r+(k+1)=r+k+1 by omega];omega
 have f:∀i j,i<=j->j<t.1.length->l8 t i q 1 c d<=l8 t j q 1 c d:=fun i j g Q=>by
  have:=aD (j-i) i (by omega);rw[show i+(j-i)=j by omega] at this;exact this
 have y:∀{s:Int} {p:Nat},p<t.1.length->J3 t.1 s=some ([((p:Int),1)],1)->V s m=m4 (l8 t p q 1 c d) (c+d) m:=fun {s p} H h2=>by
  have h1:=NO W hp (a:=1) (b:=0) H (.inl ⟨rfl,rfl,rfl⟩) h2 hq hM h4 m;rw[hV.val] at h1;rw[Option.some.inj h1,if_pos rfl,Int.add_zero,Int.add_zero,Int.one_mul]
 have E:∀{s:Int} {p:Nat} {a b:Int},p+1<t.1.length->0<a->0<b->a+b<=100000->J3 t.1 s=some ([((p:Int),a),((p:Int)+1,b)],a+b)->V s m=m4 (a*l8 t p q 1 c d+b*l8 t (p+1) q 1 c d) ((a+b)*(c+d)) m:=fun {s p a b} H X hb aG h2=>by
  have h1:=NO W hp (a:=a) (b:=b) (show p<t.1.length by omega) (.inr ⟨H,X,hb,aG,rfl⟩) h2 hq hM h4 m;rw[hV.val] at h1;rw[Option.some.inj h1,if_neg (by omega),Lg t p q a,Lg t (p+1) q b]
 have j2:∀{a b:Int},1<=a+b->0 < (a+b)*(c+d):=fun h=>Int.mul_pos (by omega) (by omega);have x:∀{a b:Int} (p:Nat),0<=a->0<=b->0<=a*l8 t p q 1 c d+b*l8 t (p+1) q 1 c d:=fun p X hb=>by
  have:=Int.mul_nonneg X (P p);have:=Int.mul_nonneg hb (P (p+1));omega
 -- below a line, above a line
 have up:∀{a b:Int} (p i:Nat),0<a->0<b->p+1<=i->i<t.1.length->m4 (a*l8 t p q 1 c d+b*l8 t (p+1) q 1 c d) ((a+b)*(c+d)) m<=m4 (l8 t i q 1 c d) (c+d) m:=fun {a b} p i X hb z hi=>by
  refine Hk (x p (by omega) (by omega)) (j2 (by omega)) (P i) (by omega) ?_ hm;have x1:=Int.mul_le_mul_of_nonneg_left (f p i (by omega) hi) (show 0<=a by omega);have x2:=Int.mul_le_mul_of_nonneg_left (f (p+1) i z hi) (show 0<=b by omega);have x3:a*l8 t p q 1 c d+b*l8 t (p+1) q 1 c d<=(a+b)*l8 t i q 1 c d:=by rw[Int.add_mul]; omega
  have:=Int.mul_le_mul_of_nonneg_right x3 (show 0<=c+d by omega);rw[<- Int.mul_assoc,Int.mul_comm (l8 t i q 1 c d)];exact this
 have dn:∀{a b:Int} (p i:Nat),0<a->0<b->i<=p->p+1<t.1.length->m4 (l8 t i q 1 c d) (c+d) m<=m4 (a*l8 t p q 1 c d+b*l8 t (p+1) q 1 c d) ((a+b)*(c+d)) m:=fun {a b} p i X hb z hi=>by
  refine Hk (P i) (by omega) (x p (by omega) (by omega)) (j2 (by omega)) ?_ hm;have x1:=Int.mul_le_mul_of_nonneg_left (f i p z (by omega)) (show 0<=a by omega);have x2:=Int.mul_le_mul_of_nonneg_left (f i (p+1) (by omega) hi) (show 0<=b by omega);have x3:(a+b)*l8 t i q 1 c d<=a*l8 t p q 1 c d+b*l8 t (p+1) q 1 c d:=by rw[Int.add_mul]; omega
  have:=Int.mul_le_mul_of_nonneg_right x3 (show 0<=c+d by omega);rw[<- Int.mul_assoc,Int.mul_comm (l8 t i q 1 c d)];exact this
 have aF:∀i j,i<=j->j<t.1.length->m4 (l8 t i q 1 c d) (c+d) m<=m4 (l8 t j q 1 c d) (c+d) m:=fun i j g Q=>Hk (P i) (by omega) (P j) (by omega) (Int.mul_le_mul_of_nonneg_right (f i j g Q) (show 0<=c+d by omega)) hm
 have hx:r8 t.1 s<=r8 t.1 o:=by unfold r8; omega
 have aB:=fun {i j:Nat} (g:i<j) (Q:j<t.1.length)=>Bj v.1 g Q;have G:∀{i j:Nat},i<=j->j<t.1.length->t.1.getD i 0<=t.1.getD j 0:=fun {i j} g Q=>by
  rcases Nat.eq_or_lt_of_le g with e | e
  ·rw[e]; exact Int.le_refl _
  ·have:=aB e Q; omega
 obtain⟨p,p1,p2⟩:=q0O s v.1;obtain⟨n,w,aC⟩:=q0O o v.1;have T:=fun {i:Nat} (hi:i<t.1.length)=>Lb v.1 hi;rcases p2 with ⟨e1,w1⟩ | ⟨b1,b2,b3,w1⟩
 ·rw[y p1 w1];rcases aC with ⟨e2,F⟩ | ⟨c1,c2,c3,F⟩
  ·rw[y w F];refine aF p n ?_ w;rcases Nat.lt_or_ge n p with h | h
   ·have:=aB h p1; omega
   ·exact h
  ·have:=T (show n<t.1.length by omega);have:=T c1;rw[E c1 (by omega) (by omega) (by omega) F];refine dn n p (by omega) (by omega) ?_ c1;rcases Nat.lt_or_ge n p with h | h
   ·have:=G (show n+1<=p by omega) p1; omega
   ·exact h
 ·have:=T (show p<t.1.length by omega);have:=T b1;rw[E b1 (by omega) (by omega) (by omega) w1];rcases aC with ⟨e2,F⟩ | ⟨c1,c2,c3,F⟩
  ·rw[y w F];refine up p n (by omega) (by omega) ?_ w;rcases Nat.lt_or_ge p n with h | h
   ·exact h
   ·have:=G h (show p<t.1.length by omega); omega
  ·have:=T (show n<t.1.length by omega);have:=T c1;rw[E c1 (by omega) (by omega) (by omega) F];rcases Nat.lt_trichotomy p n with h | h | h
   ·refine Int.le_trans (up p (p+1) (by omega) (by omega) (Nat.le_refl _) b1) ?_;exact dn n (p+1) (by omega) (by omega) (by omega) c1
   ·subst h;refine Hk (x p (by omega) (by omega)) (j2 (by omega)) (x p (by omega) (by omega)) (j2 (by omega)) ?_ hm;have e1:(t.1.getD (p+1) 0-r8 t.1 s)+(r8 t.1 s-t.1.getD p 0)=(t.1.getD (p+1) 0-r8 t.1 o)+(r8 t.1 o-t.1.getD p 0):=by omega
    rw[e1];refine Int.mul_le_mul_of_nonneg_right ?_ (by have:=j2 (a:=t.1.getD (p+1) 0-r8 t.1 o) (b:=r8 t.1 o-t.1.getD p 0) (by omega); omega);obtain⟨k,hk⟩:∃k,r8 t.1 o=r8 t.1 s+k:=⟨r8 t.1 o-r8 t.1 s,by omega⟩;have x1:=Int.mul_le_mul_of_nonneg_left (aA p b1) (show 0<=k by omega);have x2:(t.1.getD (p+1) 0-r8 t.1 o)*l8 t p q 1 c d=(t.1.getD (p+1) 0-r8 t.1 s)*l8 t p q 1 c d-k*l8 t p q 1 c d:=by rw[<- Int.sub_mul]; congr 1; omega
    have x3:(r8 t.1 o-t.1.getD p 0)*l8 t (p+1) q 1 c d=(r8 t.1 s-t.1.getD p 0)*l8 t (p+1) q 1 c d+k*l8 t (p+1) q 1 c d:=by rw[<- Int.add_mul]; congr 1; omega
    omega
   ·have:=G (show n+1<=p by omega) (show p<t.1.length by omega); omega
theorem RX{a b:Int}(e:0<=a)(d:0<=b)(h:a*a<b*b):a<b:=by
 rcases Int.lt_or_le a b with c | c
 ·exact c
 ·have:=Int.mul_le_mul c c d (by omega);omega
theorem q0R{n R:Int}(h:Z2 n R):n<=(500*J1 n 1 R)*(500*J1 n 1 R):=by
 obtain⟨c,g,f⟩:=h;have b:∀v,R<500*v∨(R<=500*v/\R*R=n)->n<=(500*v)*(500*v):=fun v a=>by
  rcases a with a | ⟨a,e⟩
  ·have:=Int.mul_le_mul (show R+1<=500*v by omega) (show R+1<=500*v by omega) (by omega) (by omega);omega
  ·have:=Int.mul_le_mul a a c (by omega);omega
 refine b _ ?_;unfold J1;split
 ·grind
 ·rename_i d;simp only[beq_self_eq_true,Bool.true_and,dq] at d;rw[Z3 c (by decide)];omega
theorem q0Q{n R w:Int}(h:Z2 n R)(g:0<=w)(d:n<=(500*w)*(500*w)):J1 n 1 R<=w:=by
 obtain⟨b,i,e⟩:=h;unfold J1;split
 ·rename_i a;simp only[beq_self_eq_true,Bool.true_and,dq] at a;have:=RX b (show 0<=500*w by omega) (by omega)
  grind
 ·rename_i a;simp only[beq_self_eq_true,Bool.true_and,dq] at a;have f:R<=500*w:=by
   rcases Int.lt_or_le (500*w) R with c | c
   ·have:=Int.mul_lt_mul' (show 500*w<=R by omega) c (by omega) (by omega);omega
   ·exact c
  grind[Z3]
theorem j0D{n R:Int}(a:0<=R):0<=J1 n 1 R:=by
 grind[J1,Int.tdiv_eq_ediv_of_nonneg,Z3]
theorem m0D{n b R R' m:Int}(h:Z2 n R)(a:Z2 b R')(e:n<=b)(c:m=0∨m=1):J1 n m R<=J1 b m R':=by
 rcases c with rfl | rfl
 ·have d:R<=R':=by
   have:=RX h.1 (show 0<=R'+1 by have:=a.1; omega) (by have:=h.2.1; have:=a.2.2; omega);omega
  unfold J1;rw[if_neg (by simp),if_neg (by simp),Cb h.1 (by decide),Cb a.1 (by decide)];omega
 ·exact q0Q h (j0D a.1) (by have:=q0R a; omega)
theorem p0w{s c d m:Int}(b:0<=s)(g:s<=c)(j:c<=1000000)(k:0<=d)(G:d<=301000000)(q:m=0∨m=1):∃r z,N7 s d m=some r/\N7 c d m=some z/\r<=z:=by
 have a:∀s,0<=s->s<=1000000->∃R,Z2 (250000*(s*s)+d*d) R/\N7 s d m=some (J1 (250000*(s*s)+d*d) m R):=fun s b j=>by
  obtain⟨o,F,H⟩:=NI s d;have g:=F5 (A:=1000000) (B:=1000000) (x:=s) (y:=s) (by omega) (by omega) (by omega) (by omega) (by decide);have Q:=F5 (A:=301000000) (B:=301000000) (x:=d) (y:=d) (by omega) (by omega) (by omega) (by omega) (by decide);have E:0<=s*s:=Int.mul_nonneg b b;have v:0<=d*d:=Int.mul_nonneg k k;obtain⟨R,f,w,u⟩:=RZ (n:=250000*(s*s)+d*d) (by omega) (by omega);have h:=f.1;have l:=F5 (A:=3000000000) (B:=3000000000) (x:=R) (y:=R) (by omega) (by omega) (by omega) (by omega) (by decide);refine⟨R,f,?_⟩;unfold N7;rw[o,u,vS,gP ⟨oo,oo,oo,oo,oo,trivial⟩,gP ⟨rfl,trivial⟩,lE,gP ⟨(fun _=>oo),trivial⟩];unfold J1;split
  ·have:R.tdiv 500=R / 500:=Int.tdiv_eq_ediv_of_nonneg h;exact gP ⟨by decide,oo,trivial⟩
  ·rw[(N1 R 500 m (by omega) (by omega) (by decide)).1,vS,gP ⟨rfl,trivial⟩,lE]
 obtain⟨R,f,e⟩:=a s b (by omega);obtain⟨P,i,t⟩:=a c (by omega) j;refine⟨_,_,e,t,m0D f i ?_ q⟩;have:=Int.mul_le_mul g g b (by omega);omega
variable {b:j1}
theorem F0x(t:q7 b=true){c:q9}(u:F1 c=true){q:Int}(P:j3 q 0 (((lV b).length:Int)-1)=true) :
  ∃d:Int->Int->Int,(∀s m,G8 (l7 b) c q s m=some (d s m))/\∀s,d s 0<=d s 1:=by
 obtain⟨W,x2⟩:=Sg P;have i:(lV b).getD q.toNat (a7 y138)∈lV b:=F4 x2;have r:=fun k=>Cd u k 0;have e:∀k,w5 c k 0<=w5 c k 1:=fun k=>by
  have h:=u;unfold F1 at h;simp only[ba,dq] at h;unfold w5;have e0:((0:Int)==0)=true:=rfl;have e1:((1:Int)==0)=false:=rfl;rw[e0,e1];split <;> simp only[if_true,Bool.false_eq_true,if_false] <;> omega
 rcases Fs t i with ⟨a,n,h⟩ | ⟨n,k,h⟩
 ·obtain⟨Q,H⟩:=Bk h.del h.trs;obtain⟨G,F,_⟩:=CP H;obtain⟨V,j,w⟩:=NQ t h.del h.trs ((r6 b n).getD 0 0);have g:=fun s m=>p0d t P h j w u s m;generalize hlk:(lV b).getD q.toNat (a7 y138)=l at h j g Q H G F;refine⟨fun s m=>m4 (V s m*w5 c l.2.2.1 m) 1000 m,g,fun s=>?_⟩;refine Sj (Int.mul_nonneg (j.pos _ _) (r _).1) ?_;exact Int.le_trans (Int.mul_le_mul_of_nonneg_right (j.two s) (r _).1) (s0B (j.pos _ _) (e _))
 ·have Y:=Z0 t h.nlt;obtain⟨dl,db⟩:=Y.delays;have g:=db (o4 b n k).toNat;obtain⟨G,F⟩:=Fz b h.nlt;have T:=Fm b n;have v:=h.klt;have X:((k:Int)).toNat=k:=rfl;have hv:=fun m=>CY (a:=(s5 b n).getD (o4 b n k).toNat 0) (b:=1000) (K:=301000) m (by decide) (by omega) (by omega);have f:=fun m=>Hj (a:=(s5 b n).getD (o4 b n k).toNat 0) (b:=1000) m (by omega) (by decide);generalize hlk:(lV b).getD q.toNat (a7 y138)=l at h;have z:(l7 b).2.2.1.getD q.toNat (a7 y138)=l:=hlk;have o:∀s m,G8 (l7 b) c q s m=some (m4 (m4 ((s5 b n).getD (o4 b n k).toNat 0) 1000 m*w5 c l.2.2.1 m) 1000 m):=fun s m=>by
   have p0:=f m;have p1:=hv m;have hf:=Cd u l.2.2.1 m;have hp:=F5 (A:=1000000) (B:=5000) (x:=m4 ((s5 b n).getD (o4 b n k).toNat 0) 1000 m) (y:=w5 c l.2.2.1 m) (by omega) (by omega) (by omega) (by omega) (by decide);have g:=N1 (m4 ((s5 b n).getD (o4 b n k).toNat 0) 1000 m*w5 c l.2.2.1 m) 1000 m (by omega) (by omega) (by decide);have E:U5 (m4 ((s5 b n).getD (o4 b n k).toNat 0) 1000 m) (w5 c l.2.2.1 m) m=some (m4 (m4 ((s5 b n).getD (o4 b n k).toNat 0) 1000 m*w5 c l.2.2.1 m) 1000 m):=by
    unfold U5;rw[g.1,vS,gP ⟨oo,rfl,trivial⟩,lE]
   unfold G8;refine(gP ⟨W,trivial⟩).trans ?_;rw[lE,z,Q7 h.pix h.net,vS,gP ⟨rfl,trivial⟩,lE];refine(if_neg (by rw[h.kind]; decide)).trans ?_;rw[G,h.idx,X,Fl v,(N1 _ 1000 m (by omega) (by omega) (by decide)).1,vS];refine(gP ⟨F,oo,rfl,trivial⟩).trans ?_;rw[lE];show U6 c l m _=_;rw[U6,Lf,vS,E,vS,gP ⟨rfl,rfl,trivial⟩,lE]
  refine⟨fun s m=>m4 (m4 ((s5 b n).getD (o4 b n k).toNat 0) 1000 m*w5 c l.2.2.1 m) 1000 m,o,fun s=>?_⟩;refine Sj (Int.mul_nonneg (f 0) (r _).1) ?_;exact Int.le_trans (Int.mul_le_mul_of_nonneg_right (Sj g.1 (Int.le_refl _)) (r _).1) (s0B (f 1) (e _))
theorem v0c{b:j1}(P:wf l5 b)(x:q7 b=true){q:Int}(v:j3 q 0 (((lV b).length:Int)-1)=true){s m:Int}(T:0<=s)(Q:s<=1000000)(G:m=0∨m=1){r:Int}(g:B3 (l7 b) q s m=some r):0<=r:=by
 have v:=r7.1 v;have f:ix q (l7 b).2.2.1.length:=⟨v.1,by show q < ((lV b).length:Int); omega⟩;generalize hl:(lV b).getD q.toNat (a7 y138)=l;have d:(l7 b).2.2.1.getD q.toNat (a7 y138)=l:=hl;have e:l∈lV b:=by rw[<- hl]; exact F4 (by omega)
 rcases Fs x e with ⟨a,n,h⟩ | ⟨n,k,h⟩
 ·obtain⟨j,w⟩:=Bk h.slw h.trs;obtain⟨i,y,V,l3,l4⟩:=Hi w s ((r6 b n).getD 0 0) m;obtain⟨u,t⟩:=Fy b h.nlt;have o:(l.2.1.tmod 2).toNat<a.2.2.2.2.2.length:=by have:=j.1; have:=j.2; omega
  have W:=o0S w (NL h.slw (F4 o)) s ((r6 b n).getD 0 0) m i y;have c:B3 (l7 b) q s m=some (min i 1000000):=by
   unfold B3;refine(gP ⟨f,trivial⟩).trans ?_;rw[lE,d,Q7 h.pix h.net,vS,gP ⟨rfl,trivial⟩,lE];refine(if_pos (by rw[h.kind]; rfl)).trans ?_;rw[Ft h,vS,u,y,vS];refine(gP ⟨rfl,by decide,j,t,rfl,trivial⟩).trans ?_;rw[lE]
  rw[c] at g;cases g;omega
 ·obtain⟨i,H,Y,X⟩:=E0O P x h.nlt h.klt T Q G;obtain⟨u,t⟩:=Fz b h.nlt;have E:=Fm b n;have z:=h.klt;have c:B3 (l7 b) q s m=some (min i 1000000):=by
   unfold B3;refine(gP ⟨f,trivial⟩).trans ?_;rw[lE,d,Q7 h.pix h.net,vS,gP ⟨rfl,trivial⟩,lE];refine(if_neg (by rw[h.kind]; decide)).trans ?_;rw[u,h.idx];have F:((k:Int)).toNat=k:=rfl;rw[F,H,vS];refine(gP ⟨t,oo,rfl,trivial⟩).trans ?_;rw[lE]
  rw[c] at g;cases g;omega
section
variable {b:j1}
end
end Go.Proofs.YtechodbafnmddaaGreatDoor
end
section
namespace Go.Proofs.Xd
open Go.Proofs.Xl
theorem p0c{b:Type}{l:List b}{p q:b->Bool}(h:∀a∈l,p a=q a):l.find? p=l.find? q:=by
 induction l with
 | nil=>rfl
 | cons a r c =>
   grind
theorem m0e{b:Type}(l:List b)(p q r:b->Bool)(h:∀a∈l,(p a).toNat=(q a).toNat+(r a).toNat):l.countP p=l.countP q+l.countP r:=by
 induction l with
 | nil=>rfl
 | cons a t c =>
   grind
theorem q0k{b:Type}(l:List b)(p q:b->Bool)(h:∀a∈l,p a=q a):l.countP p=l.countP q:=by
 induction l with
 | nil=>rfl
 | cons a t c =>
   grind
section
variable (M N:Nat) (fr to:Nat->Nat) (lv:Nat->Bool)
def AA(out:List Nat)(v:Nat):Nat:=(List.range M).countP fun i=>lv i&&to i==v&&!out.contains (fr i)
def FA(o:List Int)(i:Nat):List Int:=o.set (to i) (o.getD (to i) 0-1)
def CZ(o:List Int)(i:Nat):List Int:=o.set (to i) (o.getD (to i) 0+1)
def Hl:List Int:=((List.range M).filter lv).foldl (CZ to) (List.replicate N 0)
def Li(o:List Int)(v:Nat):List Int:=((List.range M).filter fun i=>lv i&&fr i==v).foldl (FA to) (o.set v (-1))
def Bl(out:List Nat):List Int:=out.foldl (Li M fr to lv) (Hl M N to lv)
def N2(out:List Nat):Option Nat:=(List.range N).find? fun v=>!out.contains v&&AA M fr to lv out v==0
def FB:Nat->List Nat->Option (List Nat)
 | 0,out=>some out
 | k+1,out=>match N2 M N fr to lv out with
   | none=>none
   | some v=>FB k (out++[v])
theorem l0A(a:List Nat)(v:Nat):Bl M N fr to lv (a++[v])=Li M fr to lv (Bl M N fr to lv a) v:=by
 grind[Bl]
theorem Lj{o:List Int}{i v:Nat}(x:Int)(hi:i<o.length):(o.set i x).getD v 0=if v=i then x else o.getD v 0:=by
 grind
theorem B0g(a:List Nat)(o:List Int)(h:∀i∈a,to i<o.length)(v:Nat):(a.foldl (FA to) o).length=o.length/\(a.foldl (FA to) o).getD v 0=o.getD v 0-(a.countP fun i=>to i==v):=by
 induction a generalizing o with
 | nil=>simp
 | cons i r b =>
   grind[FA,Lj]
theorem A0Q(a:List Nat)(o:List Int)(h:∀i∈a,to i<o.length)(v:Nat):(a.foldl (CZ to) o).length=o.length/\(a.foldl (CZ to) o).getD v 0=o.getD v 0+(a.countP fun i=>to i==v):=by
 induction a generalizing o with
 | nil=>simp
 | cons i r b =>
   grind[CZ,Lj]
variable {M N fr to lv}
theorem j0v(p:Nat->Bool):(List.range M).countP p<=M:=by
 grind[List.countP_le_length,List.range,List.length_range]
theorem s0s(d:∀i,i<M->to i<N)(v:Nat):(Hl M N to lv).length=N/\(Hl M N to lv).getD v 0=AA M fr to lv [] v:=by
 have c:∀i∈(List.range M).filter lv,to i < (List.replicate N (0:Int)).length:=fun i hi=>by
  grind
 obtain⟨e,a⟩:=A0Q to ((List.range M).filter lv) (List.replicate N 0) c v;refine⟨by grind[Hl,List.length_replicate],?_⟩;rw[Hl,a,List.countP_filter];have b:(List.replicate N (0:Int)).getD v 0=0:=by
  rw[gq,List.getElem?_replicate];split <;> rfl
 rw[b,Int.zero_add];congr 1;refine q0k _ _ _ (fun i _=>?_)
 grind
structure Lk(M N:Nat)(fr to:Nat->Nat)(lv:Nat->Bool)(out:List Nat)(o:List Int):Prop where
 len:o.length=N
 un:∀v,v<N->v ∉ out->o.getD v 0=AA M fr to lv out v
 li:∀v,v<N->v∈out->o.getD v 0<0
 lo:∀v,v<N -> -(1+(out.length:Int)*M)<=o.getD v 0
 hi:∀v,v<N->o.getD v 0<=M
theorem w0q{a:List Nat}{v:Nat}(b:v ∉ a)(w:Nat):AA M fr to lv a w=((List.range M).countP fun i=>to i==w&&(lv i&&fr i==v))+AA M fr to lv (a++[v]) w:=by
 unfold AA;refine m0e _ _ _ _ (fun i _=>?_)
 grind
theorem z0e(b:∀i,i<M->to i<N):Lk M N fr to lv [] (Hl M N to lv):=by
 have h:=fun v=>s0s (fr:=fr) (lv:=lv) b v;refine⟨(h 0).1,fun v _ _=>(h v).2,fun v _ a=>(nomatch a),fun v _=>?_,fun v _=>?_⟩
 ·grind
 grind[AA,j0v]
theorem s0t(m:∀i,i<M->to i<N){a:List Nat}{o:List Int}(h:Lk M N fr to lv a o){v:Nat}(r:v<N)(n:v ∉ a):Lk M N fr to lv (a++[v]) (Li M fr to lv o v):=by
 have k:(o.set v (-1)).length=N:=by rw[List.length_set,h.len]
 have f:=fun w=>B0g to ((List.range M).filter fun i=>lv i&&fr i==v) (o.set v (-1)) (fun i hi=>by
  rw[List.mem_filter,List.mem_range] at hi;rw[k];exact m i hi.1) w
 have d:∀w,(Li M fr to lv o v).getD w 0=(if w=v then -1 else o.getD w 0)-((List.range M).countP fun i=>to i==w&&(lv i&&fr i==v)):=fun w=>by
  grind[Li,Lj,List.countP_filter]
 have j:∀w,(((List.range M).countP fun i=>to i==w&&(lv i&&fr i==v):Nat):Int)<=M:=fun w=>by
  have:=j0v (M:=M) (fun i=>to i==w&&(lv i&&fr i==v));omega
 have c:((a++[v]).length:Int)*M=(a.length:Int)*M+M:=by
  rw[List.length_append,List.length_singleton,Int.natCast_add,Int.add_mul];simp
 have s:(0:Int)<=(a.length:Int)*M:=Int.mul_nonneg (Int.natCast_nonneg _) (Int.natCast_nonneg _);refine⟨(f 0).1.trans k,fun w b g=>?_,fun w b g=>?_,fun w b=>?_,fun w b=>?_⟩
 ·rw[d,if_neg (fun e=>g (by simp[e])),h.un w b (fun e=>g (by simp[e])),w0q n w];omega
 ·rw[d];by_cases e:w=v
  ·omega
  ·rw[if_neg e];have:=h.li w b (by
    grind)
   omega
 ·rw[d,c];have q:=j w;have l:=h.lo w b;omega
 ·rw[d];have q:=j w;have l:=h.hi w b;omega
theorem s0u{a:List Nat}{o:List Int}(h:Lk M N fr to lv a o):(List.range o.length).find? (fun v=>(0:Int)==o.getD v 0)=N2 M N fr to lv a:=by
 unfold N2;rw[h.len];refine p0c (fun v c=>?_);have c:=List.mem_range.1 c;by_cases b:v∈a
 ·have e:=h.li v c b;have d:a.contains v=true:=List.contains_iff_mem.2 b;have f:((0:Int)==o.getD v 0)=false:=beq_eq_false_iff_ne.2 (by omega);rw[d,f]; rfl
 ·have e:=h.un v c b;have d:a.contains v=false:=by rw[<- Bool.not_eq_true,List.contains_iff_mem]; exact b
  rw[e,d,Bool.not_false,Bool.true_and,Bool.eq_iff_iff];simp only[beq_iff_eq];omega
theorem NR{a:List Nat}{v:Nat}(h:N2 M N fr to lv a=some v):v<N/\v ∉ a:=by
 grind[N2]
def N3(N:Nat)(out:List Nat):List Bool:=out.foldl (fun l v=>l.set v true) (List.replicate N false)
theorem v0d{o:List Bool}{i v:Nat}(x:Bool)(hi:i<o.length):(o.set i x).getD v false=if v=i then x else o.getD v false:=by
 grind
theorem s0Q(a:List Nat)(v:Nat):N3 N (a++[v])=(N3 N a).set v true:=by
 grind[N3]
theorem s0b(a:List Nat)(o:List Bool)(h:∀v∈a,v<o.length)(w:Nat):(a.foldl (fun l v=>l.set v true) o).length=o.length/\(a.foldl (fun l v=>l.set v true) o).getD w false=(a.contains w||o.getD w false):=by
 induction a generalizing o with
 | nil=>simp
 | cons v r b =>
   grind
theorem l0J{a:List Nat}(h:∀v∈a,v<N)(w:Nat):(N3 N a).length=N/\(N3 N a).getD w false=a.contains w:=by
 obtain⟨b,d⟩:=s0b a (List.replicate N false) (fun v c=>by grind) w
 grind[List.replicate,N3]
def Da(fr to:Nat->Nat)(lv:Nat->Bool)(out:List Nat)(k:Nat)(w:List Bool):List Bool:=if(lv k&&!out.contains (fr k))=true then w.set (to k) true else w
theorem n0G(c:∀i,i<M->to i<N)(a:List Nat)(v:Nat):∀m,m<=M->(fN (Da fr to lv a) m (List.replicate N false)).length=N/\(fN (Da fr to lv a) m (List.replicate N false)).getD v false=(List.range m).any fun i=>lv i&&to i==v&&!a.contains (fr i):=by
 intro m
 induction m with
 | zero =>
   intro _;refine⟨List.length_replicate,?_⟩;show(List.replicate N false).getD v false=false
   grind
 | succ m b =>
   grind[Da,fN,List.replicate]
theorem q0V(b:∀i,i<M->to i<N){a:List Nat}(c:∀v∈a,v<N):(List.range N).find? (fun v=>!((N3 N a).getD v false||(fN (Da fr to lv a) M (List.replicate N false)).getD v false))=N2 M N fr to lv a:=by
 unfold N2;refine p0c (fun v _=>?_);rw[(l0J c v).2,(n0G b a v M (Nat.le_refl _)).2,Bool.not_or]
 grind[AA]
end
inductive Rch(M:Nat)(fr to:Nat->Nat)(lv:Nat->Bool)(s:Nat):Nat->Prop
 | refl:Rch M fr to lv s s
 | step {i:Nat}:Rch M fr to lv s (fr i)->i<M->lv i=true->Rch M fr to lv s (to i)
theorem Rch.trans{M:Nat}{fr d:Nat->Nat}{lv:Nat->Bool}{a b c:Nat}(h:Rch M fr d lv a b)(k:Rch M fr d lv b c):Rch M fr d lv a c:=by
 induction k with
 | refl=>exact h
 | step _ hi f e=>exact e.step hi f
theorem Rch.one{M:Nat}{fr a:Nat->Nat}{lv:Nat->Bool}{i:Nat}(hi:i<M)(b:lv i=true):Rch M fr a lv (fr i) (a i):=Rch.refl.step hi b
theorem Rch.head{M:Nat}{fr a:Nat->Nat}{lv:Nat->Bool}{i c:Nat}(hi:i<M)(b:lv i=true)(k:Rch M fr a lv (a i) c):Rch M fr a lv (fr i) c:=(Rch.one hi b).trans k
theorem Rch.back{M:Nat}{fr c:Nat->Nat}{lv:Nat->Bool}{a b:Nat}(h:Rch M fr c lv a b):Rch M c fr lv b a:=by
 induction h with
 | refl=>exact .refl
 | step _ hi e d=>grind[Rch.head]
theorem Rch.lt{M N:Nat}{fr c:Nat->Nat}{lv:Nat->Bool}(e:∀i,i<M->c i<N){a b:Nat}(h:Rch M fr c lv a b)(d:a<N):b<N:=by
 cases h with
 | refl=>exact d
 | step _ hi _=>grind
section
variable (M N:Nat) (fr to:Nat->Nat) (lv:Nat->Bool)
def RB(s:Nat)(L:List Bool):Prop:=L.length=N/\∀v,v<N->(L.getD v false=true↔Rch M fr to lv s v)
structure RI(s:Nat)(r:List Bool):Prop where
 len:r.length=N
 src:r.getD s false=true
 snd:∀v,r.getD v false=true->Rch M fr to lv s v
theorem RI.done{M N:Nat}{fr a:Nat->Nat}{lv:Nat->Bool}{s:Nat}{r:List Bool}(h:RI M N fr a lv s r)(d:∀i,i<M->lv i=true->r.getD (fr i) false=true->r.getD (a i) false=true):RB M N fr a lv s r :=
 ⟨h.len,fun v b=>⟨h.snd v,fun c=>by
   clear b
   induction c with
   | refl=>exact h.src
   | step _ hi f e=>grind⟩⟩
def Q0E(r:List Bool):Nat:=(List.range M).countP fun i=>lv i&&!r.getD (fr i) false
structure QI(s:Nat)(q:List Int×List Bool):Prop where
 len:q.2.length=N
 mem:∀x∈q.1,0<=x/\x.toNat<N/\Rch M fr to lv s x.toNat
 snd:∀v,q.2.getD v false=true->Rch M fr to lv s v
 src:q.2.getD s false=true∨(s:Int)∈q.1
 cls:∀i,i<M->lv i=true->q.2.getD (fr i) false=true->q.2.getD (to i) false=true∨(to i:Int)∈q.1
 j0:q.1.length+Q0E M fr lv q.2<=M+1
end
abbrev Sp:=Int×Int
abbrev y9:=Sp×Sp
def F0i(a b:Sp):Sp:=(min a.1 b.1,max a.2 b.2)
def NS(a b:Sp):Sp:=(a.1+b.1,a.2+b.2)
def I0k(o:Option y9)(x:y9):Option y9:=match o with
 | none=>some x
 | some y=>some (F0i y.1 x.1,F0i y.2 x.2)
section
variable (M:Nat) (fr to:Nat->Nat) (lv:Nat->Bool) (sp:Nat->Sp->Sp×Sp) (src:Nat->Option y9)
def inK(T:Nat->Option y9)(v k:Nat)(o:Option y9):Option y9:=if(lv k&&to k==v)=true then(match T (fr k) with
 | none=>o
 | some x=>I0k o (NS x.1 (sp k x.2).1,(sp k x.2).2)) else o
def F0b(T:Nat->Option y9)(v:Nat):Option y9:=fN (inK fr to lv sp T v) M (src v)
def K0D(T:Nat->Option y9)(v:Nat)(x:Option y9):Nat->Option y9:=fun w=>if w=v then x else T w
variable (ok:y9->Bool)
def okA(x:Option y9):Bool:=match x with
 | none=>true
 | some y=>ok y
def I0E:List Nat->(Nat->Option y9)->Option (Nat->Option y9)
 | [],T=>some T
 | v :: r,T=>if okA ok (F0b M fr to lv sp src T v)=true then I0E r (K0D T v (F0b M fr to lv sp src T v)) else none
end
section
variable {M:Nat} {fr to:Nat->Nat} {lv:Nat->Bool} {sp:Nat->Sp->Sp×Sp} {src:Nat->Option y9} {ok:y9->Bool}
def Ll(M:Nat)(fr to:Nat->Nat)(lv:Nat->Bool):List Nat->List Nat->Prop
 | _,[]=>True
 | d,v :: r=>(∀k,k<M->lv k=true->to k=v->fr k∈d)/\Ll M fr to lv (d++[v]) r
def K0b(a b:Sp):Prop:=b.1<=a.1/\a.2<=b.2
def insO(x y:Option y9):Prop:=∀a,x=some a->∃c,y=some c/\K0b a.1 c.1/\K0b a.2 c.2
theorem insO.refl(x:Option y9):insO x x:=fun a h=>⟨a,h,⟨Int.le_refl _,Int.le_refl _⟩,⟨Int.le_refl _,Int.le_refl _⟩⟩
theorem insO.none(y:Option y9):insO none y:=fun _ h=>by cases h
end
end Go.Proofs.Xd
end
section
namespace Go.Proofs.YtechodbafnmddaaGreatDoor
open Go Go.Proofs Go.Proofs.Sv Go.Proofs.Xv Go.Proofs.Xl Go.Proofs.Xd
structure SpanV(b:j1)(c:q9)(q:Int)(dv lv:Int->Int->Int):Prop where
 del:∀s m,G8 (l7 b) c q s m=some (dv s m)
 d0:∀s m,0<=dv s m/\dv s m<=5000000
 d2:∀s,dv s 0<=dv s 1
 slw:∀s m,0<=s->s<=1000000->m=0∨m=1->B3 (l7 b) q s m=some (lv s m)/\0<=lv s m/\lv s m<=1000000
 l2:∀s,0<=s->s<=1000000->lv s 0<=lv s 1
section
variable {b:j1}
theorem E0C(n:wf l5 b)(_:j0 l5 b<=1048576)(a:q7 b=true){c:q9}(_:wf u4 c)(k:F1 c=true){q:Int}(f:j3 q 0 (((lV b).length:Int)-1)=true):∃dv lv,SpanV b c q dv lv:=by
 obtain⟨B,l⟩:=B0f a f;obtain⟨d,o,i⟩:=F0x a k f;have e:∀s m,d s m=m4 (B s m*w5 c ((lV b).getD q.toNat (a7 y138)).2.2.1 m) 1000 m:=fun s m=>by
  have t:=o s m;rw[l.val c k] at t
  grind
 refine⟨d,fun s m=>vl (B3 (l7 b) q s m),⟨o,fun s m=>?_,i,fun s m j g h=>?_,fun s j g=>?_⟩⟩
 ·rw[e];have w:=l.bd s m;have F:=Cd k ((lV b).getD q.toNat (a7 y138)).2.2.1 m;have E:=Int.mul_nonneg w.1 F.1;have t:=F5 (A:=1000000) (B:=5000) (x:=B s m) (y:=w5 c ((lV b).getD q.toNat (a7 y138)).2.2.1 m) (by omega) (by omega) (by omega) (by omega) (by decide);exact⟨Hj m E (by decide),(CY (K:=5000000) m (by decide) (by omega) (by omega)).2⟩
 ·obtain⟨r,u,_,z⟩:=Le n a f j g h;have v:=v0c n a f j g h u;show _=some (vl (B3 (l7 b) q s m))/\0<=vl (B3 (l7 b) q s m)/\vl (B3 (l7 b) q s m)<=1000000;rw[u];exact⟨rfl,v,z⟩
 grind[v0b,vl,B3,l7]
def Db(dv lv:Int->Int->Int)(sp:Sp):Sp×Sp:=((min (dv sp.1 0) (dv sp.2 0),max (dv sp.1 1) (dv sp.2 1)),min (lv sp.1 0) (lv sp.2 0),max (lv sp.1 1) (lv sp.2 1))
theorem SpanV.spans{c:q9}{q:Int}{a lv:Int->Int->Int}(h:SpanV b c q a lv)(j:j3 q 0 (((lV b).length:Int)-1)=true){sp:Sp}(e:F2 sp=true):BP (l7 b) c q sp=some (Db a lv sp):=by
 unfold F2 at e;rw[ba,ba] at e;have f:=r7.1 e.1.2;have d:=r7.1 e.2;have i:=r7.1 j;have g:ix q (l7 b).2.2.1.length:=⟨i.1,by show q < ((lV b).length:Int); omega⟩;unfold BP;rw[h.del,h.del,h.del,h.del];refine(gP ⟨rfl,rfl,rfl,rfl,trivial⟩).trans ?_;rw[lE];refine(gP ⟨g,trivial⟩).trans ?_;rw[lE];refine(if_neg ?_).trans ?_
 ·show ¬(decide ((0:Int)<0)&&_)=true;simp
 ·show DN (l7 b) q sp (min (a sp.1 0) (a sp.2 0),max (a sp.1 1) (a sp.2 1))=_;rw[DN,(h.slw sp.1 0 f.1 f.2 (.inl rfl)).1,(h.slw sp.2 0 d.1 d.2 (.inl rfl)).1,(h.slw sp.1 1 f.1 f.2 (.inr rfl)).1,(h.slw sp.2 1 d.1 d.2 (.inr rfl)).1];rfl
theorem SpanV.ok{c:q9}{q:Int}{a lv:Int->Int->Int}(h:SpanV b c q a lv){sp:Sp}(f:F2 sp=true):0<=(Db a lv sp).1.1/\(Db a lv sp).1.1<=(Db a lv sp).1.2/\(Db a lv sp).1.2<=5000000/\F2 (Db a lv sp).2=true:=by
 unfold F2 at f;rw[ba,ba] at f;have d:=r7.1 f.1.2;have e:=r7.1 f.2;have s:=h.d0 sp.1 0;have i:=h.d0 sp.2 0;have n:=h.d0 sp.1 1;have k:=h.d0 sp.2 1;have o:=h.d2 sp.1;have l:=(h.slw sp.1 0 d.1 d.2 (.inl rfl)).2;have m:=(h.slw sp.2 0 e.1 e.2 (.inl rfl)).2;have g:=(h.slw sp.1 1 d.1 d.2 (.inr rfl)).2;have j:=(h.slw sp.2 1 e.1 e.2 (.inr rfl)).2;have r:=h.l2 sp.1 d.1 d.2;unfold Db;refine⟨by grind,by grind,by grind,?_⟩;unfold F2 H8;simp only[ba,dq]
 grind[r7]
def Lm(t:m0):Prop:=∀r q,r+1<t.1.length->q<t.2.1.length->D6 t r q<=D6 t (r+1) q
def J0X(b:j1):Prop:=∀ce∈b.1,∀ar∈ce.2.2.2.1,(∀t∈ar.2.2.2.2.1,Lm t)/\∀t∈ar.2.2.2.2.2,Lm t
theorem w0t{l:o6}{a:A8}{n:Nat}(i:J0X b)(h:Lc b l a n):(∀t∈a.2.2.2.2.1,Lm t)/\∀t∈a.2.2.2.2.2,Lm t:=by
 have g:=h.cix;have f:=h.aix;have e:(k6 b.2.1 (p9 b.2.1 (l.2.1.tdiv 2).toNat).1.toNat).2.1.toNat<b.1.length:=by have:=g.1; have:=g.2; omega
 have c:l.2.2.2.toNat < (b.1.getD (k6 b.2.1 (p9 b.2.1 (l.2.1.tdiv 2).toNat).1.toNat).2.1.toNat (a7 y153)).2.2.2.1.length:=by have:=f.1; have:=f.2; omega
 have:=i _ (F4 (d:=a7 y153) e) _ (F4 (d:=a7 y158) c);rw[h.arc] at this;omega
theorem s0P{T:List m0}(e:B9 T true=true)(n:∀t∈T,Lm t){x:Int}(g:x=0∨x=1)(l:Int){s f m:Int}(h:m=0∨m=1)(i:s<=f){V:Int->Int->Int}(k:Lh (T.getD x.toNat (a7 y269)) l V):V s m<=V f m:=by
 obtain⟨c,j⟩:=Bk e g;have b:x.toNat<T.length:=by have:=c.1; have:=c.2; omega
 have a:=F4 (d:=a7 y269) b;exact s0O j (NL e a) (n _ a) l k h i
theorem SpanV.mono(_:wf l5 b)(G:q7 b=true)(hM:J0X b){c:q9}(Y:F1 c=true){q:Int}(hq:j3 q 0 (((lV b).length:Int)-1)=true){E lv:Int->Int->Int}(h:SpanV b c q E lv):(∀s s' m,s<=s'->m=0∨m=1->E s m<=E s' m)/\∀s s' m,0<=s->s<=s'->s'<=1000000->m=0∨m=1->lv s m<=lv s' m:=by
 obtain⟨x1,x2⟩:=Sg hq;have u:ix q (l7 b).2.2.1.length:=x1;have t:(lV b).getD q.toNat (a7 y138)∈lV b:=F4 x2;rcases Fs G t with ⟨a,n,e⟩ | ⟨n,k,e⟩
 ·obtain⟨m1,m2⟩:=w0t hM e;obtain⟨V,hV,aD⟩:=NQ G e.del e.trs ((r6 b n).getD 0 0);obtain⟨W,hW,X⟩:=NQ G e.slw e.trs ((r6 b n).getD 0 0);have ed:∀s m,E s m=m4 (V s m*w5 c ((lV b).getD q.toNat (a7 y138)).2.2.1 m) 1000 m:=fun s m=>by
   have h1:=h.del s m
   grind[p0d,Option.some.inj]
  refine⟨fun s s' m i f=>?_,fun s s' m H i F f=>?_⟩
  ·rw[ed,ed];refine t0o m (Int.mul_nonneg (hV.pos _ _) (Cd Y _ _).1) ?_;exact Int.mul_le_mul_of_nonneg_right (s0P e.del m1 e.trs _ f i hV) (Cd Y _ _).1
  ·have Q:=s0P e.slw m2 e.trs _ f i hW;obtain⟨t1,t2⟩:=Bk e.slw e.trs;obtain⟨v,o⟩:=Fy b e.nlt;have aB:=(h.slw s m H (by omega) f).1;have T:=(h.slw s' m (by omega) F f).1;generalize hll:(lV b).getD q.toNat (a7 y138)=l at e hV hW t1 t2 v o Q;have g:(l7 b).2.2.1.getD q.toNat (a7 y138)=l:=hll;have val:∀s,B3 (l7 b) q s m=some (W s m):=fun s=>by
    unfold B3;refine(gP ⟨u,trivial⟩).trans ?_;rw[lE,g,Q7 e.pix e.net,vS,gP ⟨rfl,trivial⟩,lE];refine(if_pos (by rw[e.kind]; rfl)).trans ?_;rw[Ft e,vS,v,hW.val,vS];refine(gP ⟨rfl,by decide,t1,o,rfl,trivial⟩).trans ?_;rw[lE];have:=X s m;have:min (W s m) 1000000=W s m:=by omega
    rw[this]
   grind
 ·have no:=Z0 G e.nlt;obtain⟨dl,db⟩:=no.delays;have hd:=db (o4 b n k).toNat;obtain⟨v,o⟩:=Fz b e.nlt;have aF:=Fm b n;have j:=e.klt;have e4:((k:Int)).toNat=k:=rfl;generalize hll:(lV b).getD q.toNat (a7 y138)=l at e;have g:(l7 b).2.2.1.getD q.toNat (a7 y138)=l:=hll;refine⟨fun s s' m i f=>?_,fun s s' m H i F f=>?_⟩
  ·have h1:=h.del s m;have h2:=h.del s' m;have hv:=CY (a:=(s5 b n).getD (o4 b n k).toNat 0) (b:=1000) (K:=301000) m (by decide) (by omega) (by omega);have aG:=Hj (a:=(s5 b n).getD (o4 b n k).toNat 0) (b:=1000) m (by omega) (by decide);have aC:∀s,G8 (l7 b) c q s m=some (m4 (m4 ((s5 b n).getD (o4 b n k).toNat 0) 1000 m*w5 c l.2.2.1 m) 1000 m):=fun s=>by
    have hf:=Cd Y l.2.2.1 m;have hp:=F5 (A:=1000000) (B:=5000) (x:=m4 ((s5 b n).getD (o4 b n k).toNat 0) 1000 m) (y:=w5 c l.2.2.1 m) (by omega) (by omega) (by omega) (by omega) (by decide);have aA:=N1 (m4 ((s5 b n).getD (o4 b n k).toNat 0) 1000 m*w5 c l.2.2.1 m) 1000 m (by omega) (by omega) (by decide);have P:U5 (m4 ((s5 b n).getD (o4 b n k).toNat 0) 1000 m) (w5 c l.2.2.1 m) m=some (m4 (m4 ((s5 b n).getD (o4 b n k).toNat 0) 1000 m*w5 c l.2.2.1 m) 1000 m):=by
     unfold U5;rw[aA.1,vS,gP ⟨oo,rfl,trivial⟩,lE]
    unfold G8;refine(gP ⟨x1,trivial⟩).trans ?_;rw[lE,g,Q7 e.pix e.net,vS,gP ⟨rfl,trivial⟩,lE];refine(if_neg (by rw[e.kind]; decide)).trans ?_;rw[v,e.idx,e4,Fl j,(N1 _ 1000 m (by omega) (by omega) (by decide)).1,vS];refine(gP ⟨o,oo,rfl,trivial⟩).trans ?_;rw[lE];show U6 c l m _=_;rw[U6,Lf,vS,P,vS,gP ⟨rfl,rfl,trivial⟩,lE]
   grind
  ·obtain⟨r,z,w1,w2,w3⟩:=p0w (d:=(s5 b n).getD (o4 b n k).toNat 0) (m:=m) H i F hd.1 hd.2 f;have val:∀s r,N7 s ((s5 b n).getD (o4 b n k).toNat 0) m=some r->B3 (l7 b) q s m=some (min r 1000000):=fun s r w=>by
    unfold B3;refine(gP ⟨u,trivial⟩).trans ?_;rw[lE,g,Q7 e.pix e.net,vS,gP ⟨rfl,trivial⟩,lE];refine(if_neg (by rw[e.kind]; decide)).trans ?_;rw[v,e.idx];rw[e4,Fl j,w,vS];refine(gP ⟨o,oo,rfl,trivial⟩).trans ?_;rw[lE]
   have aB:=(h.slw s m H (by omega) f).1;have T:=(h.slw s' m (by omega) F f).1
   grind
end
end Go.Proofs.YtechodbafnmddaaGreatDoor
end
section
namespace Go.Proofs.Xd
open Go.Proofs.Xl
abbrev NT:=List Bool×List Sp×List Sp
def K0d(N:Nat)(T:Nat->Option y9):NT:=((List.range N).map fun v=>(T v).isSome,(List.range N).map fun v=>((T v).getD ((0,0),(0,0))).1,(List.range N).map fun v=>((T v).getD ((0,0),(0,0))).2)
def V3(t:NT):Nat->Option y9:=fun v=>if t.1.getD v false=true then some (t.2.1.getD v (0,0),t.2.2.getD v (0,0)) else none
def p8(s:Sp)(md:Int):Int:=if(md==0)=true then s.1 else s.2
def Hm(s:Option y9)(md:Int)(y:y9):Bool:=match s with
 | none=>false
 | some s=>p8 s.1 md==p8 y.1 md
section
variable (M:Nat) (fr to:Nat->Nat) (lv:Nat->Bool) (sp:Nat->Sp->Sp×Sp) (src:Nat->Option y9) (T:Nat->Option y9) (md:Int)
def S9(want:Int)(v k:Nat):Bool:=lv k&&to k==v&&(match T (fr k) with
 | none=>false
 | some x=>p8 x.1 md+p8 (sp k x.2).1 md==want)
def Hn(v:Nat):Option (Option Nat):=match T v with
 | none=>none
 | some y=>if Hm (src v) md y=true then some none
   else match(List.range M).find? (S9 fr to lv sp T md (p8 y.1 md) v) with
    | some k=>some (some k)
    | none=>none
end
section
variable {M:Nat} {fr to:Nat->Nat} {lv:Nat->Bool} {sp:Nat->Sp->Sp×Sp} {src:Nat->Option y9} {T:Nat->Option y9} {md:Int}
theorem Sk{v:Nat}{y:y9}(e:T v=some y):Hn M fr to lv sp src T md v=if Hm (src v) md y=true then some none else match(List.range M).find? (S9 fr to lv sp T md (p8 y.1 md) v) with
  | some k=>some (some k)
  | none=>none:=by
 grind[Hn]
theorem u0t{v:Nat}(e:T v=none):Hn M fr to lv sp src T md v=none:=by
 grind[Hn]
theorem u0u{v k:Nat}(h:Hn M fr to lv sp src T md v=some (some k)):k<M/\lv k=true/\to k=v/\∃x y,T (fr k)=some x/\T v=some y/\p8 x.1 md+p8 (sp k x.2).1 md=p8 y.1 md:=by
 cases e:T v with
 | none=>grind[u0t]
 | some y =>
   rw[Sk e] at h;by_cases a:Hm (src v) md y=true
   ·grind
   ·rw[if_neg a] at h;cases hf:(List.range M).find? (S9 fr to lv sp T md (p8 y.1 md) v) with
    | none=>grind
    | some c =>
      rw[hf] at h;obtain rfl:c=k:=by grind
      have d:=List.mem_range.1 (List.mem_of_find?_eq_some hf);have b:=List.find?_some hf;unfold S9 at b
      grind
end
abbrev Ho:=Int×Sp×Sp
def Ln(l:List Ho):Prop:=l.Pairwise fun x y=>x.1<y.1
def V4(l:List Ho)(v:Nat):Option y9:=(l.find? fun s=>s.1==(v:Int)).map fun s=>s.2
theorem r0W{l:List Ho}(h:Ln l){s:Ho}(d:s∈l){v:Nat}(n:s.1=(v:Int)):V4 l v=some s.2:=by
 unfold V4;cases e:l.find? fun s=>s.1==(v:Int) with
 | none =>
   have:=List.find?_eq_none.1 e s d;simp[n] at this
 | some x =>
   have g:=List.find?_some e;have m:=List.mem_of_find?_eq_some e;have g:x.1=(v:Int):=by simpa using g
   obtain⟨i,hi,b⟩:=List.getElem_of_mem m;obtain⟨j,k,a⟩:=List.getElem_of_mem d;have f:=List.pairwise_iff_getElem.1 h;rcases Nat.lt_trichotomy i j with c | c | c
   ·have:=f i j hi k c;rw[b,a] at this;omega
   ·subst c;rw[b] at a;rw[a];rfl
   ·have:=f j i k hi c;rw[b,a] at this;omega
theorem u0X{l:List Ho}{v:Nat}{x:y9}(h:V4 l v=some x):∃s∈l,s.1=(v:Int)/\s.2=x:=by
 unfold V4 at h;cases e:l.find? fun s=>s.1==(v:Int) with
 | none=>rw[e] at h; cases h
 | some s =>
   rw[e] at h;cases h;exact⟨s,List.mem_of_find?_eq_some e,by simpa using List.find?_some e,rfl⟩
end Go.Proofs.Xd
end
section
namespace Go.Proofs.YtechodbafnmddaaGreatDoor
open Go Go.Proofs Go.Proofs.Sv Go.Proofs.Xv Go.Proofs.Xl Go.Proofs.Xd
theorem t0n(pl:Nat->u0)(t:Int):∀m,0<m->M8 pl t m<m
 | 1,_=>by
   have e:M8 pl t 1=if((pl 0).2.2.1==t&&(pl 0).2.2.2)=true then((0:Nat):Int) else 0:=rfl
   rw[e];split <;> simp
 | m+2,_=>by
   have e:M8 pl t (m+2)=if((pl (m+1)).2.2.1==t&&(pl (m+1)).2.2.2)=true then((m+1:Nat):Int) else M8 pl t (m+1):=rfl
   have:=t0n pl t (m+1) (by omega);omega
theorem q0c{b:j1}(u:q7 b=true){l:o6}(h:l∈lV b):0<=l.1/\l.1<2*((l9 b.2.1).length:Int)/\0<=l.2.1/\l.2.1<2*((l9 b.2.1).length:Int):=by
 obtain⟨x,g,_⟩:=O4 u;have s:=M9 x;rcases s0R h with ⟨i,j,t,hi,v,f,rfl⟩ | ⟨i,k,t,hi,hk,f,rfl⟩
 ·obtain⟨H,r,x3⟩:=CV s hi;obtain⟨P,E,Y,w⟩:=CW r;obtain⟨W,X,G,F⟩:=w j v;obtain⟨A,n⟩:∃A:Nat,(j9 (p7 b i) j).2.1=(A:Int):=⟨(j9 (p7 b i) j).2.1.toNat,by omega⟩;obtain⟨B,m⟩:∃B:Nat,(j9 (p7 b i) j).2.2.1=(B:Int):=⟨(j9 (p7 b i) j).2.2.1.toNat,by omega⟩;have a:A < (k6 b.2.1 i).2.2.length:=by omega
  have e:B < (k6 b.2.1 i).2.2.length:=by omega
  have z:r5 (k6 b.2.1) i+A < (l9 b.2.1).length:=by
   have:=La (k6 b.2.1) hi a;unfold l9;rw[Hg]; omega
  have lB:r5 (k6 b.2.1) i+B < (l9 b.2.1).length:=by
   have:=La (k6 b.2.1) hi e;unfold l9;rw[Hg]; omega
  have V:=(Nv _ _).2 _ (F4 (d:=(0,0)) f);have y:(Fo (r5 (k6 b.2.1) i:Int) (j9 (p7 b i) j) j t).1=2*((r5 (k6 b.2.1) i:Int)+(A:Int))+((D4 (j9 (p7 b i) j).1 (j9 (p7 b i) j).2.2.2.1).getD t (0,0)).1:=by
   rw[<- n]; rfl
  have o:(Fo (r5 (k6 b.2.1) i:Int) (j9 (p7 b i) j) j t).2.1=2*((r5 (k6 b.2.1) i:Int)+(B:Int))+((D4 (j9 (p7 b i) j).1 (j9 (p7 b i) j).2.2.2.1).getD t (0,0)).2:=by
   rw[<- m]; rfl
  omega
 ·obtain⟨q,c,h2,Q,_⟩:=Nu (p9 b.2.1) i (l9 b.2.1).length _ (F4 (d:=0) hk);have c:(q8 b.2.1 i).getD k 0=(q:Int):=c;have T:=(Rv (p9 b.2.1) i (l9 b.2.1).length).1;have d2:=t0n (p9 b.2.1) i (l9 b.2.1).length (by omega);have y:(BZ (F0 b i) ((q8 b.2.1 i).getD k 0) k t).1=2*M8 (p9 b.2.1) i (l9 b.2.1).length+(t:Int):=rfl;have o:(BZ (F0 b i) ((q8 b.2.1 i).getD k 0) k t).2.1=2*(q:Int)+(t:Int):=by
   rw[<- c]; rfl
  omega
section
variable (b:j1)
def j7:Nat:=2*(l9 b.2.1).length
def m5(i:Nat):Nat:=((lV b).getD i (a7 y138)).1.toNat
def m9(i:Nat):Nat:=((lV b).getD i (a7 y138)).2.1.toNat
theorem Bm(a:q7 b=true){i:Nat}(hi:i < (lV b).length):((lV b).getD i (a7 y138)).1=(m5 b i:Int)/\((lV b).getD i (a7 y138)).2.1=(m9 b i:Int)/\m5 b i<j7 b/\m9 b i<j7 b:=by
 obtain⟨g,e,c,f⟩:=q0c a (F4 (d:=a7 y138) hi)
 grind[m5,m9,j7]
theorem Hp(a:q7 b=true):j7 b<=1000000:=by
 have c:=(M9 (O4 a).1).len
 grind[j7]
theorem I0U(a:q7 b=true):K7 (l7 b)=some (j7 b:Int):=by
 have c:=(M9 (O4 a).1).len;have e:∀s:List v8,GF s=some (s.length:Int):=fun _=>rfl;unfold K7;rw[e,vS,gP ⟨rfl,⟨by omega,by show 2*((l9 b.2.1).length:Int)<=_; omega⟩,trivial⟩,lE];unfold j7;rw[Int.natCast_mul];rfl
theorem NU(c:wf l5 b)(d:q7 b=true):K1 b=some (j7 b:Int):=by
 have a:=M9 (O4 d).1;have e:=a.len;unfold K1;rw[CT b.2.1 c.2.1 a.fac.ni14 a.fac.np8 a.pin,vS,gP ⟨rfl,⟨by omega,by grind⟩,trivial⟩,lE]
 grind[j7,Int.natCast_mul]
end
def B5(l:List Int)(x:Int):Bool:=(List.range l.length).any fun j=>l.getD j 0==x
theorem r93(l:List Int)(x:Int)(c:l.length<=9223372036854775807):Gq l x=some (B5 l x):=by
 have a:=C2 c (fun j=>l.getD j 0==x) (some true) (e:=some false) (F:=Vf l x) (fun g i hi=>by
  have b:((i:Int)).toNat=i:=rfl;refine(if_pos (decide_eq_true (by omega))).trans ((gP ⟨oo,trivial⟩).trans ?_);rw[b];by_cases h:(l.getD i 0==x)=true
  ·simp_all
  ·rw[if_neg h,if_neg h];exact gP ⟨oo,trivial⟩) (fun g=>if_neg (by simp))
 refine a.trans ?_
 grind[B5,List.range]
def B2(M:Nat)(br:List Int):List Bool:=fN (V2 fun k=>!B5 br (k:Int)) M []
theorem r44(a:List j6)(br:List Int)(e:a.length<=1048576)(c:br.length<=1048576):AS a br=some (B2 a.length br):=by
 refine(lF (n:=a.length) (by omega) (fun i (s:List Bool)=>((i:Int),s)) (V2 fun k=>!B5 br (k:Int)) (fun i s=>s.length=i) (J:=fun s=>some s) (F:=Vh br a) (fun g i s hi b=>?_) (fun i s _ b=>by show(s++[_]).length=_; grind) (fun g s _=>if_neg (by simp)) [] rfl).trans rfl;have d:((i:Int)).toNat=i:=rfl;refine(if_pos (decide_eq_true (by omega))).trans ?_;rw[r93 br _ (by omega),vS];refine(gP ⟨rfl,⟨by grind,by grind⟩,trivial⟩).trans ?_;exact gP ⟨oo,trivial⟩
def Z4(M:Nat)(br:List Int):Bool:=br.all (j3 · 0 ((M:Int)-1))&&BU br
theorem A0P:Bb []=some true:=by
 unfold Bb;refine A0C (fun n a=>?_);obtain⟨m,rfl⟩:∃m,n=m+1:=⟨n-1,by omega⟩;rfl
theorem H0x(xs:List Int)(h:xs.length<=9223372036854775807):Bb xs=some (BU xs):=by
 cases xs with
 | nil=>exact A0P
 | cons x r=>grind[Rz]
theorem L0B{b:j1}(a:q7 b=true)(br:List Int)(h:br.length<=1048576):GO (l7 b) br=some (Z4 (lV b).length br):=by
 have c:=S8 a;have e:DX (l7 b).2.2.1=some ((lV b).length:Int):=rfl;unfold GO;rw[e,vS,Fj br 0 _ (by omega),vS,H0x br (by omega),vS,gP ⟨rfl,oo,rfl,(fun _=>rfl),trivial⟩];rfl
theorem I0Q(M:Nat)(br:List Int)(l:M<=1048576)(h:br.length<=1048576):Mm br (M:Int)=some (Z4 M br):=by
 have b:=C2 (n:=br.length) (by omega) (fun i=>!j3 (br.getD i 0) 0 ((M:Int)-1)||(decide (0<i)&&decide (br.getD i 0<=br.getD (i-1) 0))) (some false) (e:=some true) (F:=VA br (M:Int)) (fun g i hi=>by
  have f:((i:Int)).toNat=i:=rfl;have d:((i:Int)-1).toNat=i-1:=by omega
  refine(if_pos (decide_eq_true (by omega))).trans ?_;rw[L5,vS,f,d];refine(gP ⟨oo,oo,rfl,(fun a=>oo),(fun a=>⟨by have:=of_decide_eq_true a.1; omega,by omega⟩),(fun _=>oo),trivial⟩).trans ?_;have k:decide ((0:Int) < (i:Int))=decide (0<i):=by
   rw[decide_eq_decide]; omega
  rw[k];by_cases a:(!j3 (br.getD i 0) 0 ((M:Int)-1)||(decide (0<i)&&decide (br.getD i 0<=br.getD (i-1) 0)))=true
  ·rw[if_pos a,if_pos a]
  ·rw[if_neg a,if_neg a];exact gP ⟨oo,trivial⟩) (fun g=>if_neg (by simp))
 refine b.trans ?_;have e:Z4 M br=!((List.range br.length).any fun i=>!j3 (br.getD i 0) 0 ((M:Int)-1)||(decide (0<i)&&decide (br.getD i 0<=br.getD (i-1) 0))):=by
  unfold Z4 BU;rw[Bool.eq_iff_iff];simp only[ba,Bool.not_eq_true',<- Bool.not_eq_true,List.any_eq_true,List.all_eq_true,List.mem_range,Bool.or_eq_true];constructor
  ·grind
  ·intro j;refine⟨fun x c=>?_,fun⟨i,hi,a⟩=>j ⟨i,hi,.inr a⟩⟩;obtain⟨i,hi,rfl⟩:=List.getElem_of_mem c
   simp_all
 grind
theorem h0M{b:Type}(g:b->Nat->b)(l:List Nat)(s:b):fN (fun i s=>g s (l.getD i 0)) l.length s=l.foldl g s:=by
 have a:∀n,n<=l.length->fN (fun i s=>g s (l.getD i 0)) n s=(l.take n).foldl g s:=by
  intro n
  induction n with
  | zero=>intro _; rfl
  | succ n c =>
    intro d;have e:l.take (n+1)=l.take n++[l.getD n 0]:=by
     rw[List.take_add_one,gq,List.getElem?_eq_getElem (by omega)];rfl
    rw[e,List.foldl_append,<- c (by omega)];rfl
 have:=a l.length (Nat.le_refl _)
 rwa [List.take_length] at this
theorem z0Y(M:Nat):∀m,m<=M->(fN (fun i (s:List Bool)=>s.set i true) m (List.replicate M false)).length=M/\∀k,k<m->(fN (fun i (s:List Bool)=>s.set i true) m (List.replicate M false)).getD k false=true:=by
 intro m
 induction m with
 | zero=>exact fun _=>⟨List.length_replicate,fun k a=>by omega⟩
 | succ m b =>
   intro d;obtain⟨e,c⟩:=b (by omega);refine⟨by show(List.set _ _ _).length=M; grind,fun k a=>?_⟩;show(List.set _ _ _).getD k false=true;rw[v0d _ (by omega)]
   grind
theorem B0p(br:List Int)(s:List Bool):∀m,(∀j,j<m->(br.getD j 0).toNat<s.length)->(fN (fun i (s:List Bool)=>s.set (br.getD i 0).toNat false) m s).length=s.length/\∀k,(fN (fun i (s:List Bool)=>s.set (br.getD i 0).toNat false) m s).getD k false=(s.getD k false&&!(List.range m).any fun j=>(br.getD j 0).toNat==k):=by
 intro m
 induction m with
 | zero=>exact fun _=>⟨rfl,fun k=>by show s.getD k false=_; simp⟩
 | succ m b =>
   intro a;obtain⟨d,c⟩:=b (fun j e=>a j (by omega));refine⟨by show(List.set _ _ _).length=_; grind,fun k=>?_⟩;show(List.set _ _ _).getD k false=_
   grind
def J8(p:Nat->Bool)(M:Nat):List Int:=((List.range M).filter p).map fun i:Nat=>(i:Int)
theorem NV(p:Nat->Bool):∀m,fN (fun i (s:List Int)=>if p i=true then s++[(i:Int)] else s) m []=J8 p m
 | 0=>rfl
 | m+1=>by
   show(if p m=true then fN _ m []++[(m:Int)] else fN _ m [])=_;rw[NV p m];unfold J8;rw[List.range_succ,List.filter_append,List.map_append]
   grind
theorem Sm(p:Nat->Bool)(M:Nat):(J8 p M).length<=M/\(J8 p M).length=((List.range M).filter p).length:=by
 unfold J8
 grind
theorem Sn(p:Nat->Bool)(M i:Nat):(J8 p M).getD i 0=((((List.range M).filter p).getD i 0:Nat):Int):=by
 grind[J8,List.range]
theorem Lo{p:Nat->Bool}{M i:Nat}(h:i < ((List.range M).filter p).length):((List.range M).filter p).getD i 0<M:=by
 grind[F4]
def Q8(o:Option (List Nat)):List Int×Bool:=match o with
 | none=>([],false)
 | some l=>(l.map (fun v:Nat=>(v:Int)),true)
section
variable {b:j1}
theorem L0z(r:q7 b=true){br:List Int}(a:Z4 (lV b).length br=true)(v:br.length<=1048576):KF (l7 b) br=some (l7 b,B2 (lV b).length br):=by
 have w:=S8 r;have a:=a;unfold Z4 at a;rw[ba] at a;have d:∀j,j<br.length->0<=br.getD j 0/\br.getD j 0 < ((lV b).length:Int):=fun j h=>by
  grind[r7,GX]
 obtain⟨e,u⟩:=z0Y (lV b).length (lV b).length (Nat.le_refl _);obtain⟨o,q⟩:=B0p br (fN (fun i (s:List Bool)=>s.set i true) (lV b).length (List.replicate (lV b).length false)) br.length (fun j h=>by
  have:=d j h;omega)
 have m:fN (fun i (s:List Bool)=>s.set (br.getD i 0).toNat false) br.length (fN (fun i (s:List Bool)=>s.set i true) (lV b).length (List.replicate (lV b).length false))=B2 (lV b).length br:=by
  refine A0L false (by rw[o,e]; exact(Fg _ _).symm) (fun k c=>?_);have c:k < (lV b).length:=by rw[o,e] at c; exact c
  rw[q,u k c,Bool.true_and];refine Eq.trans ?_ (KQ (fun k=>!B5 br (k:Int)) false _ k c).symm;congr 1;unfold B5;rw[Bool.eq_iff_iff,List.any_eq_true,List.any_eq_true];constructor
  ·grind
  ·grind
 unfold KF;have t:((l7 b).2.2.1.length:Int)=((lV b).length:Int):=rfl;rw[t,Int.toNat_natCast];refine(gP ⟨⟨by omega,rfl,by omega,by omega⟩,trivial⟩).trans ?_;rw[lE,List.length_replicate];refine(lF (n:=(lV b).length) (by omega) (fun i (s:List Bool)=>((i:Int),s)) (fun i s=>s.set i true) (fun _ s=>s.length=(lV b).length) (J:=fun s=>KE br (l7 b) s) (F:=Zb br (l7 b) ((lV b).length:Int)) (fun g i s hi f=>?_) (fun i s _ f=>by grind) (fun g s _=>if_neg (by simp)) (List.replicate (lV b).length false) List.length_replicate).trans ?_
 ·have l:((i:Int)).toNat=i:=rfl;refine(if_pos (decide_eq_true (by omega))).trans ?_;refine(gP ⟨oo,by omega,trivial⟩).trans ?_;exact gP ⟨oo,trivial⟩
 ·show KE br (l7 b) _=_;rw[KE];refine(lF (n:=br.length) (by omega) (fun i (s:List Bool)=>((i:Int),s)) (fun i s=>s.set (br.getD i 0).toNat false) (fun _ s=>s.length=(lV b).length) (J:=fun s=>some (l7 b,s)) (F:=Za br (l7 b)) (fun g i s hi f=>?_) (fun i s _ f=>by grind) (fun g s _=>if_neg (by simp)) _ e).trans ?_
  ·have l:((i:Int)).toNat=i:=rfl;have:=d i hi;refine(if_pos (decide_eq_true (by omega))).trans ?_;refine(gP ⟨oo,trivial⟩).trans ?_;rw[l];refine(gP ⟨oo,by omega,trivial⟩).trans ?_;exact gP ⟨oo,trivial⟩
  grind
theorem H0v(e:q7 b=true){lv:List Bool}(d:lv.length=(lV b).length):Nl (l7 b,lv)=some (J8 (fun i=>lv.getD i false) (lV b).length):=by
 have j:=S8 e;refine(lF (n:=(lV b).length) (by omega) (fun i (s:List Int)=>(s,(i:Int))) (fun i s=>if lv.getD i false=true then s++[(i:Int)] else s) (fun i s=>s.length<=i) (J:=fun s=>some s) (F:=Zm (l7 b,lv)) (fun g i s hi c=>?_) (fun i s _ c=>?_) (fun g s _=>if_neg (by simp[l7])) [] (Nat.le_refl _)).trans (congrArg some (NV _ _))
 ·have f:((i:Int)).toNat=i:=rfl;have a:ix (i:Int) (l7 b).2.2.1.length:=⟨by omega,by show(i:Int) < ((lV b).length:Int); omega⟩;refine(if_pos (decide_eq_true a.2)).trans ((gP ⟨a,trivial⟩).trans ?_);rw[lE];refine(gP ⟨⟨by omega,by grind⟩,(fun _=>rfl),trivial⟩).trans ?_;show(if(lv.getD i false&&true)=true then _ else _)=_;rw[Bool.and_true];by_cases h:lv.getD i false=true
  ·rw[if_pos h,if_pos h];refine(gP ⟨⟨by grind,by grind⟩,trivial⟩).trans ?_;exact gP ⟨oo,trivial⟩
  ·rw[if_neg h,if_neg h];exact gP ⟨oo,trivial⟩
 grind
theorem H0w(d:q7 b=true){lv:List Bool}(f:lv.length=(lV b).length)(a:Nat):Nj (l7 b,lv) (a:Int)=some (J8 (fun i=>lv.getD i false&&m5 b i==a) (lV b).length):=by
 have m:=S8 d;refine(lF (n:=(lV b).length) (by omega) (fun i (s:List Int)=>(s,(i:Int))) (fun i s=>if(lv.getD i false&&m5 b i==a)=true then s++[(i:Int)] else s) (fun i s=>s.length<=i) (J:=fun s=>some s) (F:=Zf (l7 b,lv) (a:Int)) (fun g i s hi e=>?_) (fun i s _ e=>?_) (fun g s _=>if_neg (by simp[l7])) [] (Nat.le_refl _)).trans (congrArg some (NV _ _))
 ·have l:((i:Int)).toNat=i:=rfl;have c:ix (i:Int) (l7 b).2.2.1.length:=⟨by omega,by show(i:Int) < ((lV b).length:Int); omega⟩;refine(if_pos (decide_eq_true c.2)).trans ((gP ⟨c,trivial⟩).trans ?_);rw[lE];refine(gP ⟨⟨by omega,by show(i:Int) < (lv.length:Int); omega⟩,(fun _=>rfl),trivial⟩).trans ?_;obtain⟨k,_⟩:=Bm b d hi;have j:(((lV b).getD i (a7 y138)).1==(a:Int))=(m5 b i==a):=by
   rw[k,Bool.eq_iff_iff,beq_iff_eq,beq_iff_eq]; omega
  show(if(lv.getD i false&&(((lV b).getD i (a7 y138)).1==(a:Int)))=true then _ else _)=_;rw[j];by_cases h:(lv.getD i false&&m5 b i==a)=true
  ·rw[if_pos h,if_pos h];refine(gP ⟨⟨by grind,by grind⟩,trivial⟩).trans ?_;exact gP ⟨oo,trivial⟩
  ·rw[if_neg h,if_neg h];exact gP ⟨oo,trivial⟩
 grind
theorem L0n(d:q7 b=true){lv:List Bool}(c:lv.length=(lV b).length)(a:Nat):DY (l7 b,lv) (a:Int)=some (J8 (fun i=>lv.getD i false&&m5 b i==a) (lV b).length):=by
 unfold DY;rw[H0w d c,vS,gP ⟨rfl,trivial⟩,lE]
theorem L0o(o:List Int)(h:o.length<=9223372036854775807):Nk o 0=some (match(List.range o.length).find? (fun v=>(0:Int)==o.getD v 0) with | some v=>(v:Int) | none => -1):=by
 have a:=Dc h (fun v=>(0:Int)==o.getD v 0) (fun v=>some (v:Int)) (e:=some (-1)) (F:=Zi 0 o) 0 (Nat.zero_le _) (fun g i _ hi=>by
  have c:((i:Int)).toNat=i:=rfl;refine(if_pos (decide_eq_true (by omega))).trans ((gP ⟨oo,trivial⟩).trans ?_);rw[c];by_cases b:((0:Int)==o.getD i 0)=true
  ·simp_all
  ·rw[if_neg b,if_neg b];exact gP ⟨oo,trivial⟩) (fun g=>if_neg (by simp))
 rw[Nat.sub_zero,<- List.range_eq_range'] at a;refine Eq.trans a ?_
 grind
end
section
variable {b:j1}
theorem s0c{o:List Int}{i N:Nat}{x:Int}(h:o.length=N):(o.set i x).length=N:=by grind
theorem E0Q(d:q7 b=true){lv:List Bool}{p:Nat->Bool}:lp (QX (l7 b,lv) (J8 p (lV b).length)) (0,List.replicate (j7 b) 0)=KG (l7 b,lv) (((List.range (lV b).length).filter p).foldl (CZ (m9 b)) (List.replicate (j7 b) 0)):=by
 have E:=S8 d;obtain⟨z,q⟩:=Sm p (lV b).length;rw[<- h0M,<- q];refine lF (n:=(J8 p (lV b).length).length) (by omega) (fun i (s:List Int)=>((i:Int),s)) (fun i o=>CZ (m9 b) o (((List.range (lV b).length).filter p).getD i 0)) (fun i o=>o.length=j7 b/\∀v,0<=o.getD v 0/\o.getD v 0<=(i:Int)) (J:=fun s=>KG (l7 b,lv) s) (F:=QX (l7 b,lv) (J8 p (lV b).length)) (fun g i o hi c=>?_) (fun i o hi c=>?_) (fun g s _=>if_neg (by simp)) _ ⟨List.length_replicate,fun v=>?_⟩
 ·have r:((i:Int)).toNat=i:=rfl;obtain⟨e,h⟩:=c;have a:=Lo (p:=p) (M:=(lV b).length) (i:=i) (by omega);refine(if_pos (decide_eq_true (by omega))).trans ?_;refine(gP ⟨oo,by omega,trivial⟩).trans ?_;rw[r,Sn];generalize ((List.range (lV b).length).filter p).getD i 0=k at a;have x:Int.toNat ((k:Nat):Int)=k:=rfl;obtain⟨w,f,l,u⟩:=Bm b d a;have j:ix ((k:Nat):Int) (l7 b).2.2.1.length:=⟨by omega,by show((k:Nat):Int) < ((lV b).length:Int); omega⟩;have y:=h (m9 b k);have t:((l7 b).2.2.1.getD (Int.toNat ((k:Nat):Int)) (a7 y138)).2.1=(m9 b k:Int):=f;have m:Int.toNat ((m9 b k:Nat):Int)=m9 b k:=rfl;rw[t,m];refine(gP ⟨j,oo,by omega,oo,oo,by omega,trivial⟩).trans ?_;rw[lE];exact gP ⟨oo,trivial⟩
 ·obtain⟨e,h⟩:=c;have a:=Lo (p:=p) (M:=(lV b).length) (i:=i) (by omega);obtain⟨w,f,l,u⟩:=Bm b d a;refine⟨s0c e,fun v=>?_⟩
  grind[CZ,Lj,m9,List.range,lV]
 grind
theorem E0P(f:q7 b=true){lv:List Bool}{p:Nat->Bool}{n:Int}{l:List Int}{v:Int}{a:List Int×Int×List Int->Option (List Int×Bool)}{o:List Int}{A:Int}(Q:0<=A)(x:A<=1000000000000)(c:o.length=j7 b)(m:∀w,w<j7 b -> -A<=o.getD w 0/\o.getD w 0<=A):lp (No (l7 b,lv) (J8 p (lV b).length) n l v a) (0,o)=Nn n a (l++[v],((List.range (lV b).length).filter p).foldl (FA (m9 b)) o):=by
 have T:=S8 f;obtain⟨E,r⟩:=Sm p (lV b).length;rw[<- h0M,<- r];refine lF (n:=(J8 p (lV b).length).length) (by omega) (fun i (s:List Int)=>((i:Int),s)) (fun i o=>FA (m9 b) o (((List.range (lV b).length).filter p).getD i 0)) (fun i o=>o.length=j7 b/\∀w,w<j7 b -> -A-(i:Int)<=o.getD w 0/\o.getD w 0<=A) (J:=fun s=>Nn n a (l++[v],s)) (F:=No (l7 b,lv) (J8 p (lV b).length) n l v a) (fun g i o hi d=>?_) (fun i o hi d=>?_) (fun g s _=>if_neg (by simp)) _ ⟨c,fun w P=>by grind⟩
 ·have u:((i:Int)).toNat=i:=rfl;obtain⟨c,h⟩:=d;have e:=Lo (p:=p) (M:=(lV b).length) (i:=i) (by omega);refine(if_pos (decide_eq_true (by omega))).trans ?_;refine(gP ⟨oo,by omega,trivial⟩).trans ?_;rw[u,Sn];generalize ((List.range (lV b).length).filter p).getD i 0=k at e;obtain⟨G,q,V,y⟩:=Bm b f e;have t:ix ((k:Nat):Int) (l7 b).2.2.1.length:=⟨by omega,by show((k:Nat):Int) < ((lV b).length:Int); omega⟩;have H:=h (m9 b k) y;have z:((l7 b).2.2.1.getD (Int.toNat ((k:Nat):Int)) (a7 y138)).2.1=(m9 b k:Int):=q;have j:Int.toNat ((m9 b k:Nat):Int)=m9 b k:=rfl;rw[z,j];refine(gP ⟨t,oo,by omega,oo,oo,by omega,trivial⟩).trans ?_;rw[lE];exact gP ⟨oo,trivial⟩
 ·obtain⟨c,h⟩:=d;have e:=Lo (p:=p) (M:=(lV b).length) (i:=i) (by omega)
  grind[FA]
def N4(b:j1)(lv:List Bool)(out:List Nat)(k:Nat):Option (List Nat):=FB (lV b).length (j7 b) (m5 b) (m9 b) (fun i=>lv.getD i false) k out
theorem So(M N:Nat)(fr b:Nat->Nat)(lv:Nat->Bool)(k:Nat)(a:List Nat):FB M N fr b lv (k+1) a=match N2 M N fr b lv a with | none=>none | some v=>FB M N fr b lv k (a++[v]):=rfl
theorem L0y(d:q7 b=true){lv:List Bool}(h:lv.length=(lV b).length):KH (l7 b,lv)=some (Q8 (N4 b lv [] (j7 b))):=by
 have y:=S8 d;have E:=Hp b d;have l:∀i,i < (lV b).length->m9 b i<j7 b:=fun i hi=>(Bm b d hi).2.2.2;unfold KH;rw[I0U b d,vS,gP ⟨rfl,⟨by omega,rfl,by omega,by omega⟩,trivial⟩,lE,H0v d h,vS,gP ⟨rfl,trivial⟩,lE,Int.toNat_natCast,E0Q d];have u:((List.range (lV b).length).filter fun i=>lv.getD i false).foldl (CZ (m9 b)) (List.replicate (j7 b) 0)=Bl (lV b).length (j7 b) (m5 b) (m9 b) (fun i=>lv.getD i false) []:=rfl;rw[u];have k:(Bl (lV b).length (j7 b) (m5 b) (m9 b) (fun i=>lv.getD i false) []).length=j7 b:=(z0e (fr:=m5 b) l).len;generalize hv6:Bl (lV b).length (j7 b) (m5 b) (m9 b) (fun i=>lv.getD i false) []=v6 at k;rw[KG];have s:=Sq (n:=j7 b) (by omega) (fun i (a:List Nat)=>(a.map (fun v:Nat=>(v:Int)),(i:Int),Bl (lV b).length (j7 b) (m5 b) (m9 b) (fun i=>lv.getD i false) a))
  (fun _ a=>(N2 (lV b).length (j7 b) (m5 b) (m9 b) (fun i=>lv.getD i false) a).map fun v=>a++[v]) (fun _ _=>some ([],false))
  (fun i a=>a.length=i/\Lk (lV b).length (j7 b) (m5 b) (m9 b) (fun i=>lv.getD i false) a (Bl (lV b).length (j7 b) (m5 b) (m9 b) (fun i=>lv.getD i false) a))
  (J:=fun a=>some (a.map (fun v:Nat=>(v:Int)),true)) (F:=Zp (l7 b,lv) v6)
  (fun g i a hi f=>by
    obtain⟨r,c⟩:=f;have H:((i:Int)).toNat=i:=rfl;refine(if_pos (decide_eq_true (by omega))).trans ?_;rw[L0o _ (by rw[c.len]; omega),s0u c,vS];refine(gP ⟨rfl,trivial⟩).trans ?_;rw[lE];cases hn:N2 (lV b).length (j7 b) (m5 b) (m9 b) (fun i=>lv.getD i false) a with
    | none=>rfl
    | some v =>
      obtain⟨t,x⟩:=NR hn;have ev:((v:Int)).toNat=v:=rfl;dsimp only;refine(if_neg (by simp)).trans ?_;refine(gP ⟨⟨by omega,by rw[c.len]; omega⟩,by rw[c.len]; omega,trivial⟩).trans ?_;refine(gP ⟨⟨by simp only[List.length_singleton,List.length_map]; omega,by simp only[List.length_singleton,List.length_map]; omega⟩,trivial⟩).trans ?_;show gd ((DY (l7 b,lv) (v:Int)).isSome=true/\True) (lt (vl (DY (l7 b,lv) (v:Int))) fun j=>lp (No (l7 b,lv) j (i:Int) (a.map fun v:Nat=>(v:Int)) (v:Int) g) (0,(Bl (lV b).length (j7 b) (m5 b) (m9 b) (fun i=>lv.getD i false) a).set v (-1)))=g ((a++[v]).map (fun v:Nat=>(v:Int)),(((i+1:Nat)):Int),Bl (lV b).length (j7 b) (m5 b) (m9 b) (fun i=>lv.getD i false) (a++[v]));rw[L0n d h,vS,gP ⟨rfl,trivial⟩,lE];have q:(a.length:Int)*((lV b).length:Int)<=1000000*6000:=Int.mul_le_mul (by omega) (by omega) (by omega) (by decide);rw[E0P d (A:=6000000001) (by decide) (by decide) (s0c c.len) (fun w m=>by
       rw[Lj _ (by rw[c.len]; exact t)];have z:=c.lo w m;have G:=c.hi w m;split <;> omega)]
      rw[l0A,List.map_append];exact gP ⟨oo,trivial⟩)
  (fun i a o hi f P=>by
    obtain⟨r,c⟩:=f;cases hn:N2 (lV b).length (j7 b) (m5 b) (m9 b) (fun i=>lv.getD i false) a with
    | none=>grind
    | some v =>
      grind[NR,l0A,s0t])
  (fun g a f=>by
    refine(if_neg ?_).trans rfl
    grind)
  (fun i a=>some (Q8 (N4 b lv a (j7 b-i)))) (fun a _=>by
    rw[Nat.sub_self]; rfl)
  (fun i a hi f=>by
    have e:j7 b-i=(j7 b-(i+1))+1:=by omega
    show some (Q8 (FB _ _ _ _ _ (j7 b-i) a))=_;rw[e,So];cases N2 (lV b).length (j7 b) (m5 b) (m9 b) (fun i=>lv.getD i false) a <;> rfl)
  0 (Nat.zero_le _) [] ⟨rfl,z0e l⟩
 grind
end
section
variable {b:j1}
theorem L0m(l:q7 b=true){lv:List Bool}(T:lv.length=(lV b).length):IH (j7 b:Int) (lV b) lv=some (Q8 (N4 b lv [] (j7 b))):=by
 have Y:=S8 l;have hN:=Hp b l;have s:∀i,i < (lV b).length->m9 b i<j7 b:=fun i hi=>(Bm b l hi).2.2.2;have f:((j7 b:Int)).toNat=j7 b:=rfl;unfold IH;rw[f];refine(gP ⟨⟨by omega,rfl,by omega,by omega⟩,trivial⟩).trans ?_;exact Sq (n:=j7 b) (by omega) (fun _ (a:List Nat)=>(N3 (j7 b) a,a.map (fun v:Nat=>(v:Int))))
  (fun _ a=>(N2 (lV b).length (j7 b) (m5 b) (m9 b) (fun i=>lv.getD i false) a).map fun v=>a++[v]) (fun _ _=>some ([],false))
  (fun i a=>a.length=i/\∀v∈a,v<j7 b)
  (J:=fun a=>some (a.map (fun v:Nat=>(v:Int)),true)) (F:=Vy (lV b) lv (j7 b:Int))
  (fun g i a hi d=>by
    obtain⟨H,r⟩:=d;have q:=fun w=>l0J r w;refine(if_pos (decide_eq_true (by grind))).trans ?_;rw[f];refine(gP ⟨⟨by omega,rfl,by omega,by omega⟩,trivial⟩).trans ?_;refine(lF (n:=(lV b).length) (by omega) (fun k (w:List Bool)=>((k:Int),w)) (Da (m5 b) (m9 b) (fun i=>lv.getD i false) a) (fun _ w=>w.length=j7 b) (J:=fun w=>IG (N3 (j7 b) a) (a.map fun v:Nat=>(v:Int)) (j7 b:Int) g w) (F:=Vx (lV b) lv (N3 (j7 b) a) (a.map fun v:Nat=>(v:Int)) (j7 b:Int) g) (fun Q k w x G=>?_) (fun k w _ G=>?_) (fun Q w _=>if_neg (by simp)) (List.replicate (j7 b) false) List.length_replicate).trans ?_
    ·have m:((k:Int)).toNat=k:=rfl;obtain⟨y,E,f3,f4⟩:=Bm b l x;have z:Int.toNat ((m5 b k:Nat):Int)=m5 b k:=rfl;have W:Int.toNat ((m9 b k:Nat):Int)=m9 b k:=rfl;have X:=(q (m5 b k)).1;refine(if_pos (decide_eq_true (by omega))).trans ?_;rw[m,y,E,z,W,(q (m5 b k)).2];refine(gP ⟨oo,(fun _=>oo),(fun _=>oo),(fun _=>by omega),trivial⟩).trans ?_;unfold Da;by_cases c:(lv.getD k false&&!a.contains (m5 b k))=true
     ·rw[if_pos c,if_pos c];refine(gP ⟨oo,oo,by omega,trivial⟩).trans ?_;exact gP ⟨oo,trivial⟩
     ·rw[if_neg c,if_neg c];exact gP ⟨oo,trivial⟩
    ·grind[Da,List.length_set]
    ·show IG _ _ _ g _=_;rw[IG,<- q0V (lv:=fun i=>lv.getD i false) (fr:=m5 b) s r];have V:=(n0G (fr:=m5 b) (lv:=fun i=>lv.getD i false) s a 0 _ (Nat.le_refl _)).1;generalize fN (Da (m5 b) (m9 b) (fun i=>lv.getD i false) a) (lV b).length (List.replicate (j7 b) false)=w at V;have X:=(q 0).1;have j:=Dc (n:=j7 b) (by omega) (fun v=>!((N3 (j7 b) a).getD v false||w.getD v false)) (fun v=>Gs (N3 (j7 b) a) (a.map fun v:Nat=>(v:Int)) (j7 b:Int) g (v:Int)) (e:=some ([],false)) (F:=Vw (N3 (j7 b) a) (a.map fun v:Nat=>(v:Int)) (j7 b:Int) w g) 0 (Nat.zero_le _) (fun P v _ o=>by
      have m:((v:Int)).toNat=v:=rfl;have t:decide ((v:Int) < (j7 b:Int))=true:=decide_eq_true (by omega);refine(gP ⟨(fun _=>oo),(fun _=>by omega),(fun _=>oo),(fun _=>by omega),trivial⟩).trans ?_;rw[m,t,Bool.true_and];by_cases c:((N3 (j7 b) a).getD v false||w.getD v false)=true
      ·rw[if_pos c,if_neg (by grind)];exact gP ⟨oo,trivial⟩
      simp_all) (fun P=>by
      have t:decide ((j7 b:Int) < (j7 b:Int))=false:=decide_eq_false (by omega);refine(gP ⟨(fun h=>by grind),(fun h=>by grind),(fun h=>by grind),(fun h=>by grind),trivial⟩).trans ?_
      grind[trans,Gs])
     rw[Nat.sub_zero,<- List.range_eq_range'] at j;refine Eq.trans j ?_;cases hn:(List.range (j7 b)).find? fun v=>!((N3 (j7 b) a).getD v false||w.getD v false) with
     | none=>rfl
     | some v =>
       have o:=List.mem_range.1 (List.mem_of_find?_eq_some hn);have m:((v:Int)).toNat=v:=rfl;show Gs (N3 (j7 b) a) (a.map fun v:Nat=>(v:Int)) (j7 b:Int) g (v:Int)=g (N3 (j7 b) (a++[v]),(a++[v]).map fun v:Nat=>(v:Int));rw[Gs,s0Q,List.map_append];refine(if_neg (by grind)).trans ?_;refine(gP ⟨oo,by omega,trivial⟩).trans ?_;exact gP ⟨⟨by grind,by grind⟩,trivial⟩)
  (fun i a u hi d he=>by
    obtain⟨H,r⟩:=d;cases hn:N2 (lV b).length (j7 b) (m5 b) (m9 b) (fun i=>lv.getD i false) a with
    | none=>grind
    | some v =>
      grind[NR,List.mem_singleton])
  (fun g a d=>by
    refine(if_neg ?_).trans rfl
    grind)
  (fun i a=>some (Q8 (N4 b lv a (j7 b-i)))) (fun a _=>by
    rw[Nat.sub_self]; rfl)
  (fun i a hi d=>by
    have e:j7 b-i=(j7 b-(i+1))+1:=by omega
    show some (Q8 (FB _ _ _ _ _ (j7 b-i) a))=_;rw[e,So];cases N2 (lV b).length (j7 b) (m5 b) (m9 b) (fun i=>lv.getD i false) a <;> rfl)
  0 (Nat.zero_le _) [] ⟨rfl,fun v o=>nomatch o⟩
theorem NW(M:Nat)(br:List Int):(B2 M br).length=M:=Fg _ _
end
def Ce(b:j1)(br:List Int):Int:=if q7 b=true then(if Z4 (lV b).length br=true then 0 else 2) else 1
theorem I0T(b:j1)(c:wf l5 b)(d:j0 l5 b<=1048576)(br:List Int)(a:br.length<=1048576):CC b br=some (Ce b br):=by
 unfold CC Ce;rw[RN b c d,vS,gP ⟨rfl,trivial⟩];cases hb:q7 b with
 | false=>rfl
 | true =>
   have e:=S8 hb;refine(if_neg (by simp)).trans ?_;rw[RW b c hb,vS,I0Q _ br (by omega) a,gP ⟨rfl,rfl,trivial⟩,lE,I0Q _ br (by omega) a,vS]
   grind
theorem w0p{b:j1}{br:List Int}(h:Ce b br=0):q7 b=true/\Z4 (lV b).length br=true:=by
 unfold Ce at h;split at h
 ·rename_i c;split at h
  ·rename_i a; exact⟨c,a⟩
  ·cases h
 ·cases h
def Sr(b:j1)(br:List Int):List Int×Int:=if Ce b br=0 then(if(Q8 (N4 b (B2 (lV b).length br) [] (j7 b))).2=true then((Q8 (N4 b (B2 (lV b).length br) [] (j7 b))).1,0) else([],7)) else([],Ce b br)
theorem L0u(b:j1)(c:wf l5 b)(e:j0 l5 b<=1048576)(br:List Int)(d:br.length<=1048576):Ja b br=some (Sr b br):=by
 unfold Ja Sr;rw[I0T b c e br d,vS,gP ⟨rfl,trivial⟩,lE];by_cases h:Ce b br=0
 ·obtain⟨a,f⟩:=w0p h;have g:=S8 a;rw[h];refine(if_neg (by decide)).trans ?_;rw[RW b c a,vS,gP ⟨rfl,trivial⟩,lE,NU b c a,vS,r44 _ _ (by omega) d,vS,L0m a (NW _ _),vS];refine(gP ⟨rfl,rfl,rfl,trivial⟩).trans ?_;rw[lE,if_pos rfl];cases h2:(Q8 (N4 b (B2 (lV b).length br) [] (j7 b))).2
  ·refine(if_pos (by simp[h2])).trans ?_;rfl
  ·refine(if_neg (by simp[h2])).trans ?_;rfl
 ·rw[if_neg h];exact if_pos (by simp[h])
section
variable {b:j1}
end
theorem Ss{b:j1}(c:q7 b=true)(a:Int):M3 (l7 b) a=some (j3 a 0 ((j7 b:Int)-1)):=by
 have d:=Hp b c;unfold M3;rw[I0U b c,vS];refine(gP ⟨rfl,oo,rfl,trivial⟩).trans ?_;rw[P9,vS]
section
variable {b:j1}
theorem v0v(d:q7 b=true){lv:List Bool}(j:lv.length=(lV b).length)(a:Nat):MC (l7 b,lv) (a:Int)=some (J8 (fun i=>lv.getD i false&&m9 b i==a) (lV b).length):=by
 have m:=S8 d;refine(lF (n:=(lV b).length) (by omega) (fun i (s:List Int)=>(s,(i:Int))) (fun i s=>if(lv.getD i false&&m9 b i==a)=true then s++[(i:Int)] else s) (fun i s=>s.length<=i) (J:=fun s=>some s) (F:=XC (l7 b,lv) (a:Int)) (fun g i s hi f=>?_) (fun i s _ f=>?_) (fun g s _=>if_neg (by simp[l7])) [] (Nat.le_refl _)).trans (congrArg some (NV _ _))
 ·have l:((i:Int)).toNat=i:=rfl;have c:ix (i:Int) (l7 b).2.2.1.length:=⟨by omega,by show(i:Int) < ((lV b).length:Int); omega⟩;refine(if_pos (decide_eq_true c.2)).trans ((gP ⟨c,trivial⟩).trans ?_);rw[lE];refine(gP ⟨⟨by omega,by show(i:Int) < (lv.length:Int); omega⟩,(fun _=>rfl),trivial⟩).trans ?_;obtain⟨_,e,_⟩:=Bm b d hi;have k:(((lV b).getD i (a7 y138)).2.1==(a:Int))=(m9 b i==a):=by
   rw[e,Bool.eq_iff_iff,beq_iff_eq,beq_iff_eq]; omega
  show(if(lv.getD i false&&(((lV b).getD i (a7 y138)).2.1==(a:Int)))=true then _ else _)=_;rw[k];by_cases h:(lv.getD i false&&m9 b i==a)=true
  ·rw[if_pos h,if_pos h];refine(gP ⟨⟨by simp only[List.length_singleton]; omega,by simp only[List.length_singleton]; omega⟩,trivial⟩).trans ?_;exact gP ⟨oo,trivial⟩
  ·rw[if_neg h,if_neg h];exact gP ⟨oo,trivial⟩
 ·show(if(lv.getD i false&&m9 b i==a)=true then s++[(i:Int)] else s).length<=i+1;split
  ·rw[List.length_append,List.length_singleton]; omega
  ·omega
theorem L0w(d:q7 b=true){lv:List Bool}(c:lv.length=(lV b).length)(a:Nat):DO (l7 b,lv) (a:Int)=some (J8 (fun i=>lv.getD i false&&m9 b i==a) (lV b).length):=by
 unfold DO;rw[v0v d c,vS,gP ⟨rfl,trivial⟩,lE]
end
theorem NX:∀(N:Nat) (l:List Nat),l.Nodup->(∀v∈l,v<N)->l.length<=N
 | 0,l,_,h=>by
   cases l with
   | nil=>exact Nat.le_refl _
   | cons a r=>exact(Nat.not_lt_zero _ (h a (by simp))).elim
 | N+1,l,hd,h=>by
   by_cases c:N∈l
   ·have f:=NX N (l.erase N) (hd.erase N) (fun v b=>by
     have d:=(hd.mem_erase_iff).1 b;have:=h v d.2;have:=d.1;omega)
    have:=List.length_erase_of_mem c;have:0<l.length:=List.length_pos_of_mem c;omega
   ·have:=NX N l hd (fun v b=>by
     have f:=h v b;have:v≠N:=fun e=>c (e ▸ b);omega)
    omega
theorem A0z{l:List Nat}{v:Nat}(h:v∈l):∃p,p<l.length/\l.getD p 0=v:=by
 obtain⟨p,a,e⟩:=List.getElem_of_mem h;exact⟨p,a,by rw[gq,List.getElem?_eq_getElem a]; exact e⟩
structure OGood(M N:Nat)(fr to:Nat->Nat)(lv:Nat->Bool)(out:List Nat):Prop where
 nd:out.Nodup
 lt:∀v∈out,v<N
 bef:∀i,i<M->lv i=true->∀q,q<out.length->out.getD q 0=to i->∃p,p<q/\out.getD p 0=fr i
theorem Su{l:List Nat}{v q:Nat}(h:q<l.length):(l++[v]).getD q 0=l.getD q 0:=by
 rw[gq,gq,List.getElem?_append_left h]
theorem t0c{l:List Nat}{v:Nat}:(l++[v]).getD l.length 0=v:=by
 rw[gq,List.getElem?_append_right (Nat.le_refl _),Nat.sub_self];rfl
theorem OGood.snoc{M N:Nat}{fr k:Nat->Nat}{lv:Nat->Bool}{d:List Nat}(h:OGood M N fr k lv d){v:Nat}(o:v<N)(t:v ∉ d)(j:AA M fr k lv d v=0):OGood M N fr k lv (d++[v]):=by
 refine⟨?_,fun w f=>?_,fun i hi m q x e=>?_⟩
 ·rw[List.nodup_append];exact⟨h.nd,by simp,fun a r b s=>fun e=>t (by rw[<- List.mem_singleton.1 s,<- e]; exact r)⟩
 ·rcases List.mem_append.1 f with f | f
  ·exact h.lt w f
  ·rw[List.mem_singleton.1 f]; exact o
 ·rw[List.length_append,List.length_singleton] at x;by_cases c:q<d.length
  ·rw[Su c] at e;obtain⟨p,g,l⟩:=h.bef i hi m q c e;exact⟨p,g,by rw[Su (by omega)]; exact l⟩
  ·have c:q=d.length:=by omega
   subst c;rw[t0c] at e;unfold AA at j;rw[List.countP_eq_zero] at j;have u:=j i (List.mem_range.2 hi);have n:fr i∈d:=by simpa [m,e] using u
   obtain⟨p,g,l⟩:=A0z n;exact⟨p,g,by rw[Su g]; exact l⟩
theorem v0x{M N:Nat}{fr a:Nat->Nat}{lv:Nat->Bool}:∀(k:Nat) (out l:List Nat),OGood M N fr a lv out->FB M N fr a lv k out=some l->OGood M N fr a lv l/\l.length=out.length+k:=by
 intro k
 induction k with
 | zero=>intro out l h e; cases e; exact⟨h,rfl⟩
 | succ k i =>
   intro out l h e;rw[So] at e;cases hn:N2 M N fr a lv out with
   | none=>rw[hn] at e; cases e
   | some v =>
     rw[hn] at e;obtain⟨d,c⟩:=NR hn;have g:AA M fr a lv out v=0:=by
      unfold N2 at hn;have:=List.find?_some hn;simp only[ba,beq_iff_eq] at this;exact this.2
     obtain⟨f,b⟩:=i (out++[v]) l (h.snoc d c g) e;exact⟨f,by rw[b,List.length_append,List.length_singleton]; omega⟩
section
variable {b:j1}
def H9(b:j1)(c:q9)(k:Nat)(sp:Sp):Sp×Sp:=vl (BP (l7 b) c (k:Int) sp)
theorem Sw{k:Nat}(a:k < (lV b).length):j3 (k:Int) 0 (((lV b).length:Int)-1)=true:=r7.2 oo
theorem Sx(i:wf l5 b)(e:j0 l5 b<=1048576)(g:q7 b=true){c:q9}(a:wf u4 c)(j:F1 c=true){k:Nat}(d:k < (lV b).length):∃dv lv,SpanV b c (k:Int) dv lv/\∀sp,F2 sp=true->H9 b c k sp=Db dv lv sp/\BP (l7 b) c (k:Int) sp=some (H9 b c k sp):=by
 obtain⟨dv,lv,h⟩:=E0C i e g a j (Sw d);refine⟨dv,lv,h,fun sp f=>?_⟩;have:=h.spans (Sw d) f;unfold H9;rw[this];exact⟨rfl,rfl⟩
theorem y0S(j:wf l5 b)(f:j0 l5 b<=1048576)(g:q7 b=true){c:q9}(a:wf u4 c)(l:F1 c=true){k:Nat}(i:k < (lV b).length){sp:Sp}(d:F2 sp=true):0<=(H9 b c k sp).1.1/\(H9 b c k sp).1.1<=(H9 b c k sp).1.2/\(H9 b c k sp).1.2<=5000000/\F2 (H9 b c k sp).2=true:=by
 obtain⟨n,m,h,e⟩:=Sx j f g a l i;rw[(e sp d).1];exact h.ok d
def Q0F(x:y9):Bool:=H8 x.1
abbrev H4(b:j1)(br:List Int):Nat->Bool:=fun i=>(B2 (lV b).length br).getD i false
def I0D(b:j1)(c:q9)(br:List Int)(ss:List Ho)(out:List Nat):Option (Nat->Option y9):=I0E (lV b).length (m5 b) (m9 b) (H4 b br) (H9 b c) (V4 ss) Q0F out fun _=>none
structure OrdOk(b:j1)(br:List Int)(out:List Nat):Prop where
 nd:out.Nodup
 ahead:Ll (lV b).length (m5 b) (m9 b) (H4 b br) [] out
 all:∀v,v<j7 b->v∈out
 lt:∀v∈out,v<j7 b
theorem w0v{M:Nat}{fr c:Nat->Nat}{lv:Nat->Bool}{N:Nat}{a:List Nat}(h:OGood M N fr c lv a):Ll M fr c lv [] a:=by
 have b:∀(r d:List Nat),a=d++r->Ll M fr c lv d r:=by
  intro r
  induction r with
  | nil=>intro d _; trivial
  | cons v r n =>
    intro d e;refine⟨fun k l o i=>?_,n (d++[v]) (by rw[e,List.append_assoc]; rfl)⟩;have m:a.getD d.length 0=v:=by rw[e,gq,List.getElem?_append_right (Nat.le_refl _),Nat.sub_self]; rfl
    have f:d.length<a.length:=by rw[e,List.length_append,List.length_cons]; omega
    obtain⟨p,g,j⟩:=h.bef k l o d.length f (by rw[m,i]);rw[<- j,e,gq,List.getElem?_append_left g,List.getElem?_eq_getElem g];exact List.getElem_mem g
 exact b a [] rfl
theorem E0T(_:q7 b=true){br:List Int}{a:List Nat}(h:N4 b (B2 (lV b).length br) [] (j7 b)=some a):OrdOk b br a:=by
 have g:OGood (lV b).length (j7 b) (m5 b) (m9 b) (H4 b br) []:=⟨List.nodup_nil,fun _ h=>(by cases h),fun i _ _ q j=>(Nat.not_lt_zero _ j).elim⟩;obtain⟨c,k⟩:=v0x (j7 b) [] a g h;rw[List.length_nil,Nat.zero_add] at k;refine⟨c.nd,w0v c,fun v l=>?_,c.lt⟩;by_cases f:v∈a
 ·exact f
 ·have:=NX (j7 b) (v :: a) (List.nodup_cons.2 ⟨f,c.nd⟩) (fun w d=>by
   rcases List.mem_cons.1 d with e | d
   ·omega
   ·exact c.lt w d)
  rw[List.length_cons] at this;omega
end
section
variable {M:Nat} {fr to:Nat->Nat} {lv:Nat->Bool} {sp:Nat->Sp->Sp×Sp} {src:Nat->Option y9}
end
section
variable {b:j1}
theorem o0m{s:Sp}:H8 s=true ↔ -1000000000<=s.1/\s.1<=s.2/\s.2<=1000000000:=by
 unfold H8;simp only[ba,dq,r7];omega
structure Sy(N:Nat)(t:NT):Prop where
 l1:t.1.length=N
 l2:t.2.1.length=N
 l3:t.2.2.length=N
 vals:∀v,v<N->H8 (t.2.1.getD v (0,0))=true/\F2 (t.2.2.getD v (0,0))=true/\(t.1.getD v false=false->t.2.1.getD v (0,0)=(0,0)/\t.2.2.getD v (0,0)=(0,0))
end
theorem A0R{d:List Nat}{v:Nat}(h:v ∉ d)(r:List Nat):(d++v :: r).idxOf v=d.length:=by
 rw[List.idxOf_append,if_neg h,List.idxOf_cons_self];omega
theorem F0h{d:List Nat}{v:Nat}(h:v∈d)(r:List Nat):(d++r).idxOf v<d.length:=by
 rw[List.idxOf_append,if_pos h];exact List.idxOf_lt_length_of_mem h
theorem m0r{M:Nat}{fr a:Nat->Nat}{lv:Nat->Bool}{k:Nat}(b:k<M)(f:lv k=true):∀(r d:List Nat),(d++r).Nodup->Ll M fr a lv d r->a k∈r->fr k∈d++r/\(d++r).idxOf (fr k) < (d++r).idxOf (a k)
 | [],_,_,_,h=>by cases h
 | v :: r,d,hd,ha,h=>by
   by_cases e:a k=v
   ·have c:=ha.1 k b f e;have i:v ∉ d:=fun g=>(List.nodup_append.1 hd).2.2 v g v List.mem_cons_self rfl;rw[e,A0R i];exact⟨List.mem_append_left _ c,F0h c _⟩
   ·have:=m0r b f r (d++[v]) (by rw[List.append_assoc]; exact hd) ha.2 (List.mem_of_ne_of_mem e h)
    rwa [List.append_assoc] at this
theorem OrdOk.pos{b:j1}{br:List Int}{a:List Nat}(h:OrdOk b br a){k:Nat}(c:k < (lV b).length)(d:H4 b br k=true)(e:m9 b k<j7 b):a.idxOf (m5 b k)<a.idxOf (m9 b k)/\m5 b k<j7 b:=by
 have:=m0r c d a [] h.nd h.ahead (h.all _ e);exact⟨this.2,h.lt _ this.1⟩
theorem OrdOk.idx{b:j1}{br:List Int}{a:List Nat}(h:OrdOk b br a){v:Nat}(c:v<j7 b):a.idxOf v<a.length:=List.idxOf_lt_length_of_mem (h.all v c)
theorem NY(s:Int×Int):J4 s=some (H8 s)/\R8 s=some (H8 s):=by
 have e:∀x,CE x=some (j3 x (-1000000000) 1000000000):=fun _=>rfl;refine⟨?_,?_⟩
 ·unfold J4;rw[e,e,vS,vS];exact gP ⟨rfl,fun _=>rfl,trivial⟩
 ·unfold R8;rw[L5,L5,vS,vS];exact gP ⟨rfl,fun _=>rfl,trivial⟩
def Dd(n:Int)(l:List r4)(i:Nat):Bool:=!j3 (l.getD i (a7 y75)).1 0 (n-1)||!H8 (l.getD i (a7 y75)).2.1||!F2 (l.getD i (a7 y75)).2.2||decide (0 < (i:Int))&&decide ((l.getD i (a7 y75)).1<=(l.getD ((i:Int)-1).toNat (a7 y75)).1)
def F8(b:j1):Int:=2*((l9 b.2.1).length:Int)
def AB(b:j1)(l:List r4):Bool:=!(List.range l.length).any (Dd (F8 b) l)
theorem Q0q(b:j1)(c:q7 b=true)(a:Int):M3 (l7 b) a=some (j3 a 0 (F8 b-1)):=by
 have e:F8 b=(j7 b:Int):=by
  unfold F8 j7;omega
 rw[e];exact Ss c a
theorem L0A(b:j1)(d:q7 b=true)(l:List r4)(f:l.length<=9223372036854775807):KD (l7 b) l=some (AB b l):=by
 have a:=C2 (n:=l.length) f (Dd (F8 b) l) (some false) (e:=some true) (F:=YY (l7 b) l) (fun g i hi=>by
  have c:((i:Int)).toNat=i:=rfl;refine(if_pos (by simpa using hi)).trans ?_;rw[c,gP ⟨oo,trivial⟩,lE,Q0q b d,vS,(NY _).1,vS,(NP _).1,vS,gP ⟨rfl,(fun _=>rfl),(fun _=>rfl),(fun h=>⟨by have:=of_decide_eq_true h.1; omega,by omega⟩),(fun h=>⟨by have:=of_decide_eq_true h.1; omega,by omega⟩),trivial⟩,gP ⟨oo,trivial⟩];rfl) (fun g=>aE)
 unfold KD AB;refine a.trans ?_;cases(List.range l.length).any (Dd (F8 b) l) <;> rfl
theorem L0v(b:j1)(k:wf l5 b)(d:q7 b=true)(l:List r4)(m:l.length<=9223372036854775807):Jb b l=some (AB b l):=by
 have a:=M9 (O4 d).1;have f:(I8 b.2.1.1.length b.2.1.2.2.length (k6 b.2.1) (s8 b.2.1)).length<=78:=a.len;have e:K1 b=some (F8 b):=by
  unfold K1;rw[CT b.2.1 k.2.1 a.fac.ni14 a.fac.np8 a.pin,vS,gP ⟨rfl,oo,trivial⟩,lE];rfl
 have o:0<=F8 b/\F8 b<=156:=by
  have:(l9 b.2.1).length<=78:=f;unfold F8;omega
 have c:=C2 (n:=l.length) m (Dd (F8 b) l) (some false) (e:=some true) (F:=Wv l (F8 b)) (fun g i hi=>by
  have j:((i:Int)).toNat=i:=rfl;refine(if_pos (by simpa using hi)).trans ?_;rw[j,L5,vS,(NY _).2,vS,(NP _).2,vS,gP ⟨oo,oo,rfl,(fun h=>⟨by have:=of_decide_eq_true h.1; omega,by omega⟩),(fun h=>⟨by have:=of_decide_eq_true h.1; omega,by omega⟩),(fun _=>oo),(fun _=>oo),(fun _=>rfl),(fun _=>oo),(fun _=>rfl),trivial⟩,gP ⟨oo,trivial⟩];unfold Dd;cases j3 (l.getD i (a7 y75)).1 0 (F8 b-1) <;> cases H8 (l.getD i (a7 y75)).2.1 <;> cases F2 (l.getD i (a7 y75)).2.2 <;> cases decide (0 < (i:Int)) <;> cases decide ((l.getD i (a7 y75)).1<=(l.getD ((i:Int)-1).toNat (a7 y75)).1) <;> rfl) (fun g=>aE)
 unfold Jb;rw[e,vS,gP ⟨rfl,trivial⟩,lE];refine c.trans ?_;unfold AB;cases(List.range l.length).any (Dd (F8 b) l) <;> rfl
def zs(s:Int×Int):Bool:=s.1==0&&(s.2==0&&true)
def FC(t:A3)(i:Nat):Bool:=!H8 (t.2.1.getD i (a7 y73))||!F2 (t.2.2.getD i (a7 y73))||!t.1.getD i false&&(!zs (t.2.1.getD i (a7 y73))||!zs (t.2.2.getD i (a7 y73)))
def AD(n:Int)(t:A3):Bool:=(t.1.length:Int) != n||(t.2.1.length:Int) != n||(t.2.2.length:Int) != n
def Bn(n:Int)(t:A3):Bool:=!AD n t&&!(List.range t.1.length).any (FC t)
theorem l0a{n:Int}{t:A3}(h:AD n t=false):t.2.1.length=t.1.length/\t.2.2.length=t.1.length:=by
 unfold AD at h;simp only[Bool.or_eq_false_iff,bne_eq_false_iff_eq] at h;omega
theorem L0C(b:j1)(f:q7 b=true)(t:A3)(j:wf y65 t):KC (l7 b) t=some (Bn (F8 b) t):=by
 have q:=(M9 (O4 f).1).len;have e:∀s:List v8,GF s=some (s.length:Int):=fun _=>rfl;have l:∀s:List Bool,GN s=some (s.length:Int):=fun _=>rfl;have d:∀s:List s7,DW s=some (s.length:Int):=fun _=>rfl;have k:K7 (l7 b)=some (F8 b):=by
  unfold K7;rw[e,vS,gP ⟨rfl,⟨by show _<=2*((l9 b.2.1).length:Int); omega,by show 2*((l9 b.2.1).length:Int)<=_; omega⟩,trivial⟩,lE];rfl
 have a:t.1.length<=9223372036854775807:=j.1.1;unfold KC;rw[k,vS,gP ⟨rfl,trivial⟩,lE,l,d,d,vS,vS,vS,gP ⟨rfl,(fun _=>rfl),(fun _=>rfl),trivial⟩,lE];show(if AD (F8 b) t=true then some false else _)=_;unfold Bn;cases hc:AD (F8 b) t with
 | true=>rfl
 | false =>
   obtain⟨o,m⟩:=l0a hc;have c:=C2 (n:=t.1.length) a (FC t) (some false) (e:=some true) (F:=YW t) (fun g i hi=>by
    have h:((i:Int)).toNat=i:=rfl;refine(if_pos (by simpa using hi)).trans ?_;rw[h,gP ⟨oo,trivial⟩,(NY _).1,vS,(NP _).1,vS,gP ⟨oo,rfl,(fun _=>oo),(fun _=>rfl),(fun _=>oo),(fun _=>oo),trivial⟩,lE,gP ⟨oo,trivial⟩];rfl) (fun g=>aE)
   refine(if_neg (by simp)).trans (c.trans ?_);cases(List.range t.1.length).any (FC t) <;> rfl
theorem r85(n:Int)(t:A3)(d:wf y65 t):Je n t=some (Bn n t):=by
 have a:t.1.length<=9223372036854775807:=d.1.1;unfold Je;show(if AD n t=true then some false else _)=_;unfold Bn;cases hc:AD n t with
 | true=>rfl
 | false =>
   obtain⟨h,f⟩:=l0a hc;have b:=C2 (n:=t.1.length) a (FC t) (some false) (e:=some true) (F:=Wz t) (fun g i hi=>by
    have c:((i:Int)).toNat=i:=rfl;refine(if_pos (by simpa using hi)).trans ?_;rw[c,(NY _).2,vS,(NP _).2,vS,gP ⟨oo,rfl,(fun _=>oo),(fun _=>rfl),(fun _=>oo),(fun _=>oo),(fun _=>oo),trivial⟩,lE,gP ⟨oo,trivial⟩];rfl) (fun g=>aE)
   refine(if_neg (by simp)).trans (b.trans ?_);cases(List.range t.1.length).any (FC t) <;> rfl
section
variable {b:j1}
theorem Sz:F8 b=(j7 b:Int):=by
 unfold F8 j7;omega
theorem j0a{n:Int}{l:List r4}{i:Nat}:Dd n l i=false↔((0<=(l.getD i (a7 y75)).1/\(l.getD i (a7 y75)).1<n)/\H8 (l.getD i (a7 y75)).2.1=true/\F2 (l.getD i (a7 y75)).2.2=true)/\(0<i->(l.getD (i-1) (a7 y75)).1 < (l.getD i (a7 y75)).1):=by
 have e:((i:Int)-1).toNat=i-1:=by omega
 unfold Dd;rw[e];simp only[Bool.or_eq_false_iff,Bool.not_eq_false',Bool.and_eq_false_iff,decide_eq_false_iff_not,r7];constructor
 ·rintro⟨⟨⟨a,c⟩,d⟩,f⟩;exact⟨⟨⟨a.1,by omega⟩,c,d⟩,fun b=>by rcases f with f | f <;> omega⟩
 ·rintro⟨⟨a,c,d⟩,f⟩;refine⟨⟨⟨⟨a.1,by omega⟩,c⟩,d⟩,?_⟩;by_cases b:0<i
  ·exact .inr (by have:=f b; omega)
  ·exact .inl (by omega)
theorem u0W{l:List r4}:AB b l=true↔∀i,i<l.length->((0<=(l.getD i (a7 y75)).1/\(l.getD i (a7 y75)).1 < (j7 b:Int))/\H8 (l.getD i (a7 y75)).2.1=true/\F2 (l.getD i (a7 y75)).2.2=true)/\(0<i->(l.getD (i-1) (a7 y75)).1 < (l.getD i (a7 y75)).1):=by
 unfold AB;rw[Av,Sz];exact⟨fun h i hi=>j0a.1 (h i hi),fun h i hi=>j0a.2 (h i hi)⟩
theorem r0V{l:List r4}(h:AB b l=true):Ln l/\∀s∈l,(0<=s.1/\s.1 < (j7 b:Int))/\H8 s.2.1=true/\F2 s.2.2=true:=by
 have d:=u0W.1 h;constructor
 ·refine List.pairwise_iff_getElem.2 fun i j hi f c=>?_;have a:∀k,i<k->k<l.length->(l.getD i (a7 y75)).1 < (l.getD k (a7 y75)).1:=by
   intro k
   induction k with
   | zero=>intro q; omega
   | succ k m =>
     intro o n;have s:=(d (k+1) n).2 (by omega);rw[Nat.add_sub_cancel] at s;by_cases e:i=k
     ·subst e; exact s
     ·exact Int.lt_trans (m (by omega) (by omega)) s
  have:=a j c f
  rwa [gq,List.getElem?_eq_getElem hi,gq,List.getElem?_eq_getElem f] at this
 ·intro s g;obtain⟨i,hi,rfl⟩:=List.mem_iff_getElem.1 g;have:=(d i hi).1
  rwa [gq,List.getElem?_eq_getElem hi] at this
theorem w0A{s:Int×Int}:zs s=true↔s=(0,0):=by
 obtain⟨x,y⟩:=s;unfold zs;simp
theorem o0g{t:A3}:Bn (F8 b) t=true↔Sy (j7 b) t:=by
 have j:a7 y73=((0:Int),(0:Int)):=rfl;unfold Bn;rw[ba,Av,Sz];have e:∀i,FC t i=false↔(H8 (t.2.1.getD i (0,0))=true/\F2 (t.2.2.getD i (0,0))=true/\(t.1.getD i false=false->t.2.1.getD i (0,0)=(0,0)/\t.2.2.getD i (0,0)=(0,0))):=fun i=>by
  unfold FC;rw[j,<- w0A,<- w0A];generalize zs (t.2.1.getD i (0,0))=z1;generalize zs (t.2.2.getD i (0,0))=z2;generalize H8 (t.2.1.getD i (0,0))=s1;generalize F2 (t.2.2.getD i (0,0))=s2;generalize t.1.getD i false=r;cases z1 <;> cases z2 <;> cases s1 <;> cases s2 <;> cases r <;> simp
 constructor
 ·rintro⟨f,g⟩;have f:AD (j7 b:Int) t=false:=by simpa using f
  unfold AD at f;simp only[Bool.or_eq_false_iff,bne_eq_false_iff_eq] at f;obtain⟨⟨a,c⟩,d⟩:=f;exact⟨by omega,by omega,by omega,fun v k=>(e v).1 (g v (by omega))⟩
 ·rintro⟨a,c,d,h⟩;refine⟨?_,fun i hi=>(e i).2 (h i (by omega))⟩;have:AD (j7 b:Int) t=false:=by
   unfold AD;rw[a,c,d];simp
  rw[this];rfl
end
theorem t0g{a:Type}(q:a->Bool)(d:a)(l:List a):l.find? q=((List.range l.length).find? fun i=>q (l.getD i d)).map fun i=>l.getD i d:=by
 cases h:(List.range l.length).find? fun i=>q (l.getD i d) with
 | none =>
   rw[List.find?_eq_none] at h;refine List.find?_eq_none.2 fun x b=>?_;obtain⟨i,hi,rfl⟩:=List.mem_iff_getElem.1 b
   simp_all
 | some i =>
   grind[List.find?_range_eq_some,hi,List.find?_eq_some_iff_getElem,List.getElem?_eq_getElem]
theorem v0u(l:List r4)(v:Nat)(d:l.length<=9223372036854775807):ME l (v:Int)=some (match(List.range l.length).find? (fun i=>(l.getD i (a7 y75)).1==(v:Int)) with | some i=>(i:Int) | none => -1):=by
 have a:=Dc d (fun i=>(l.getD i (a7 y75)).1==(v:Int)) (fun i=>some (i:Int)) (e:=some (-1)) (F:=XG l (v:Int)) 0 (Nat.zero_le _) (fun g i _ hi=>by
  have c:((i:Int)).toNat=i:=rfl;refine(if_pos (decide_eq_true (by omega))).trans ?_;rw[c];refine(gP ⟨oo,rfl,trivial⟩).trans ?_;show(if((l.getD i (a7 y75)).1==(v:Int))=true then _ else _)=_;by_cases b:((l.getD i (a7 y75)).1==(v:Int))=true
  ·simp_all
  ·rw[if_neg b,if_neg b];exact gP ⟨oo,trivial⟩) (fun g=>if_neg (by simp))
 rw[Nat.sub_zero,<- List.range_eq_range'] at a;refine Eq.trans a ?_
 grind
def I0C(v:Nat)(o:Option y9):r4×Bool:=match o with
 | some x=>(((v:Int),x.1,x.2),true)
 | none=>((0,(0,0),0,0),false)
theorem L0x(l:List r4)(v:Nat)(d:l.length<=9223372036854775807):JV l (v:Int)=some (I0C v (V4 l v)):=by
 unfold JV;rw[v0u l v d,vS,gP ⟨rfl,trivial⟩,lE];unfold V4;rw[t0g _ (a7 y75)];cases h:(List.range l.length).find? fun i=>(l.getD i (a7 y75)).1==(v:Int) with
 | none=>rfl
 | some i =>
   rw[List.find?_range_eq_some] at h;obtain⟨a,c,-⟩:=h;have hi:=List.mem_range.1 c;have b:((i:Int)).toNat=i:=rfl;have a:(l.getD i (a7 y75)).1=(v:Int):=by simpa using a
   show(if decide ((0:Int)<=(i:Int))=true then _ else _)=_;refine(if_pos (decide_eq_true (by omega))).trans ?_;show gd (ix (i:Int) l.length/\True) _=_;rw[b];refine(gP ⟨oo,trivial⟩).trans ?_;rw[lE];show some (l.getD i (a7 y75),true)=some (((v:Int),(l.getD i (a7 y75)).2.1,(l.getD i (a7 y75)).2.2),true)
   grind
section
variable {b:j1}
theorem Lp{t:NT}{v:Nat}:V3 t v=if t.1.getD v false=true then some (t.2.1.getD v (0,0),t.2.2.getD v (0,0)) else none:=rfl
end
section
variable {b:j1}
theorem u0V(f:wf l5 b)(i:j0 l5 b<=1048576)(d:q7 b=true){c:q9}(g:wf u4 c)(h:F1 c=true){k:Nat}(e:k < (lV b).length){sp:Sp}(a:F2 sp=true):Gp b c ((lV b).getD k (a7 y138)) sp=some (H9 b c k sp):=by
 obtain⟨v,j,l⟩:=q0n f d h (Sw e) sp a
 grind[Sx]
end
section
variable {b:j1}
structure Way(b:j1)(out:List Nat)(i:Nat)(T:Nat->Option y9):Prop where
 ok:∀v x,T v=some x->H8 x.1=true/\F2 x.2=true
 no:∀j,i<=j->j<out.length->T (out.getD j 0)=none
end
def T3(b:j1)(c:q9)(br:List Int)(ss:List r4):Int:=if(q7 b&&F1 c)=true then(if(Z4 (lV b).length br&&AB b ss)=true then(if(Q8 (N4 b (B2 (lV b).length br) [] (j7 b))).2=true then 0 else 7) else 2) else 1
structure TG(b:j1)(c:q9)(br:List Int)(ss:List r4)(out:List Nat):Prop where
 hb:q7 b=true
 hc:F1 c=true
 hbr:Z4 (lV b).length br=true
 hs:AB b ss=true
 ho:N4 b (B2 (lV b).length br) [] (j7 b)=some out
section
variable {b:j1} {c:q9} {br:List Int} {ss:List r4} {out:List Nat}
theorem u0P(h:T3 b c br ss=0):∃out,TG b c br ss out:=by
 unfold T3 at h;split at h
 ·rename_i d;split at h
  ·rename_i a;split at h
   ·rename_i e;rw[ba] at d a;cases ho:N4 b (B2 (lV b).length br) [] (j7 b) with
    | none=>rw[ho] at e; cases e
    | some out=>exact⟨out,d.1,d.2,a.1,a.2,ho⟩
   omega
  omega
 omega
theorem TG.code(h:TG b c br ss out):T3 b c br ss=0:=by
 unfold T3;rw[h.hb,h.hc,h.hbr,h.hs,h.ho];rfl
theorem TG.ord(h:TG b c br ss out):OrdOk b br out:=E0T h.hb h.ho
theorem TG.len(h:TG b c br ss out):out.length<=1000000:=Nat.le_trans (NX _ _ h.ord.nd h.ord.lt) (Hp b h.hb)
theorem TG.src(h:TG b c br ss out):Ln ss/\∀s∈ss,H8 s.2.1=true/\F2 s.2.2=true:=⟨(r0V h.hs).1,fun s hs=>((r0V h.hs).2 s hs).2⟩
theorem A0m(d:wf l5 b)(e:j0 l5 b<=1048576)(f:wf u4 c)(a:br.length<=1048576)(g:ss.length<=9223372036854775807):Jd b c br ss=some (if T3 b c br ss=0 then((Q8 (N4 b (B2 (lV b).length br) [] (j7 b))).1,0) else([],T3 b c br ss)):=by
 unfold Jd T3;rw[RN b d e,r84 c f,vS,vS];refine(gP ⟨rfl,fun _=>rfl,trivial⟩).trans ?_;cases hb:q7 b with
 | false=>rfl
 | true =>
   cases hc:F1 c with
   | false=>rfl
   | true =>
     refine(if_neg (by simp)).trans ?_;rw[I0T b d e br a,L0v b d hb ss g,vS,vS];refine(gP ⟨rfl,fun _=>rfl,trivial⟩).trans ?_;rw[lE,L0u b d e br a];unfold Ce Sr Ce;rw[hb];cases hk:Z4 (lV b).length br with
     | false=>rfl
     | true =>
       cases hs:AB b ss with
       | false=>rfl
       | true =>
         refine(if_neg (by simp)).trans ?_;rw[vS];refine(gP ⟨rfl,trivial⟩).trans ?_
         grind[lE,Q8,N4,B2,lV,j7]
def ptF(b:j1)(c:q9)(br:List Int)(ss:List r4):A3×Int:=if T3 b c br ss=0 then(match I0D b c br ss ((N4 b (B2 (lV b).length br) [] (j7 b)).getD []) with
 | some T=>(K0d (j7 b) T,0)
 | none=>(([],[],[]),3)) else(([],[],[]),T3 b c br ss)
theorem TG.pt(h:TG b c br ss out):ptF b c br ss=match I0D b c br ss out with
 | some T=>(K0d (j7 b) T,0)
 | none=>(([],[],[]),3):=by
 unfold ptF;rw[if_pos h.code,h.ho];rfl
theorem TG.res(h:TG b c br ss out):(Q8 (N4 b (B2 (lV b).length br) [] (j7 b))).1=out.map fun v:Nat=>(v:Int):=by
 rw[h.ho];rfl
end
def Z5(b:j1)(c:q9)(br:List Int)(ss:List r4)(t:A3):Int:=if(q7 b&&F1 c&&!Bn (F8 b) t)=true then 1 else T3 b c br ss
def SA(b:j1)(c:q9)(br:List Int)(ss:List r4)(t:A3):Int ⊕ (D9×List Int×Int):=if Z5 b c br ss t=0 then .inr ((l7 b,B2 (lV b).length br),(Q8 (N4 b (B2 (lV b).length br) [] (j7 b))).1,0) else .inl (Z5 b c br ss t)
section
variable {b:j1} {c:q9} {br:List Int} {ss:List r4} {out:List Nat} {t:A3}
theorem l0b(h:Z5 b c br ss t=0):Bn (F8 b) t=true/\∃out,TG b c br ss out:=by
 unfold Z5 at h;split at h
 ·cases h
 ·rename_i d;obtain⟨out,a⟩:=u0P h;refine⟨?_,out,a⟩;rw[a.hb,a.hc] at d
  grind
theorem H0k(f:wf l5 b)(g:j0 l5 b<=1048576)(e:wf u4 c)(a:br.length<=1048576)(h:ss.length<=9223372036854775807)(d:wf y65 t):Ap b c br ss t=some (SA b c br ss t):=by
 unfold Ap SA Z5 T3;rw[L0F b f g,L0E c e,vS,vS];refine(gP ⟨rfl,fun _=>rfl,trivial⟩).trans ?_;cases hb:q7 b with
 | false=>rfl
 | true =>
   cases hc:F1 c with
   | false=>rfl
   | true =>
     refine(if_neg (by simp)).trans ?_;rw[L0D b f hb,vS];refine(gP ⟨rfl,trivial⟩).trans ?_;rw[lE,L0C b hb t d,vS];refine(gP ⟨fun _=>rfl,trivial⟩).trans ?_;cases htm:Bn (F8 b) t with
     | false=>rfl
     | true =>
       refine(if_neg (by simp)).trans ?_;rw[L0B hb br a,L0A b hb ss h,vS,vS];refine(gP ⟨rfl,fun _=>rfl,trivial⟩).trans ?_;cases hk:Z4 (lV b).length br with
       | false=>rfl
       | true =>
         cases hs:AB b ss with
         | false=>rfl
         | true =>
           refine(if_neg (by simp)).trans ?_;rw[L0z hb hk a,vS];refine(gP ⟨rfl,trivial⟩).trans ?_;rw[lE,L0y hb (NW _ _),vS];refine(gP ⟨rfl,trivial⟩).trans ?_
           grind[lE,Q8,N4,B2,lV,j7]
end
theorem Lq(s:Int×Int)(md:Int):BO s md=some (p8 s md):=by
 grind[BO,p8]
theorem SB(s:Int×Int)(md:Int):U2 s md=some (p8 s md):=by
 grind[U2,p8]
theorem B0a(s d:Int×Int)(md:Int):p8 (NS s d) md=p8 s md+p8 d md:=by
 grind[p8,NS]
theorem E0R{s d:Int×Int}(a:H8 s=true)(b:0<=d.1/\d.1<=d.2/\d.2<=5000000):Gz s d=some (NS s d):=by
 have a:=o0m.1 a;unfold Gz;exact(gP ⟨oo,oo,trivial⟩).trans rfl
theorem F0l{s:Int×Int}(md:Int)(a:H8 s=true) : -1000000000<=p8 s md/\p8 s md<=1000000000:=by
 grind[o0m,p8]
theorem A0Z{d:Int×Int}(md:Int)(a:0<=d.1/\d.1<=d.2/\d.2<=5000000):0<=p8 d md/\p8 d md<=5000000:=by
 grind[p8]
section
variable {b:j1} {c:q9} {br:List Int} {ss:List r4} {t:A3} {md:Int}
def Hq(b:j1)(c:q9)(br:List Int)(ss:List r4)(t:A3)(md:Int)(v:Nat):Option (Option Nat):=Hn (lV b).length (m5 b) (m9 b) (H4 b br) (H9 b c) (V4 ss) (V3 t) md v
def SC:Option (Option Nat)->Int×Int
 | none=>(0,5)
 | some none=>(-1,0)
 | some (some k)=>((k:Int),0)
def wF(b:j1)(c:q9)(br:List Int)(ss:List r4)(t:A3)(md:Int)(v:Nat):Int×Int:=if(decide (v<j7 b)&&t.1.getD v false)=true then SC (Hq b c br ss t md v) else(0,4)
theorem t0f{p q:Nat->Bool}{M:Nat}:((List.range M).filter p).find? q=(List.range M).find? fun k=>p k&&q k:=by
 grind
theorem C0g(d:q7 b=true){v:Int}(a:j3 v 0 ((j7 b:Int)-1)=false):AY (l7 b,B2 (lV b).length br) c ss t v md=some (0,4):=by
 unfold AY;show gd ((M3 (l7 b) v).isSome=true/\_) (if(!vl (M3 (l7 b) v)||_)=true then _ else _)=_;rw[Ss d,vS,a];exact(gP ⟨rfl,fun h=>(by grind),trivial⟩).trans (if_pos rfl)
theorem K0u(E:wf l5 b)(z:j0 l5 b<=1048576)(h:q7 b=true)(m:wf u4 c)(G:F1 c=true)(hl:ss.length<=9223372036854775807)(q:Sy (j7 b) t){v:Nat}(l:v<j7 b) :
  AY (l7 b,B2 (lV b).length br) c ss t (v:Int) md=some (wF b c br ss t md v):=by
 have hM:=S8 h;have w:=NW (lV b).length br;have n1:=q.l1;have n2:=q.l2;have n3:=q.l3;have u:((v:Int)).toNat=v:=rfl;unfold AY wF;show gd ((M3 (l7 b) (v:Int)).isSome=true/\_) (if(!vl (M3 (l7 b) (v:Int))||_)=true then _ else _)=_;rw[Ss h,vS,r7.2 (oo:(0:Int)<=(v:Int)/\(v:Int)<=(j7 b:Int)-1),u,decide_eq_true l];refine(gP ⟨rfl,fun _=>oo,trivial⟩).trans ?_;cases f:t.1.getD v false with
 | false=>rfl
 | true =>
   refine(if_neg (by simp)).trans ?_;rw[if_pos (by rfl)];have hd:V3 t v=some (t.2.1.getD v (0,0),t.2.2.getD v (0,0)):=by rw[Lp,if_pos f]
   unfold Hq;rw[Sk hd];refine(gP ⟨oo,by rw[Lq]; rfl,trivial⟩).trans ?_;rw[Lq,vS,lE,show t.2.1.getD v (a7 y73)=t.2.1.getD v (0,0) from rfl,L0x ss v hl,vS];refine(gP ⟨rfl,trivial⟩).trans ?_;rw[lE];refine(gP ⟨fun _=>by grind[Lq],trivial⟩).trans ?_;rw[Lq,vS,lE];have s:gd ((DO (l7 b,B2 (lV b).length br) (v:Int)).isSome=true/\True) (lt (vl (DO (l7 b,B2 (lV b).length br) (v:Int))) fun V=>lp (JX V (p8 (t.2.1.getD v (0,0)) md) t md (l7 b,B2 (lV b).length br) c) 0)=some (SC (match(List.range (lV b).length).find? (S9 (m5 b) (m9 b) (H4 b br) (H9 b c) (V3 t) md (p8 (t.2.1.getD v (0,0)) md) v) with
    | some k=>some (some k)
    | none=>none)):=by
    rw[L0w h w v,vS];refine(gP ⟨rfl,trivial⟩).trans ?_;rw[lE];obtain⟨q1,T⟩:=Sm (fun i=>H4 b br i&&m9 b i==v) (lV b).length;have j:=Dc (n:=(J8 (fun i=>H4 b br i&&m9 b i==v) (lV b).length).length) (by omega) (fun i=>(fun k=>match V3 t (m5 b k) with
     | none=>false
     | some x=>p8 x.1 md+p8 (H9 b c k x.2).1 md==p8 (t.2.1.getD v (0,0)) md) (((List.range (lV b).length).filter fun i=>H4 b br i&&m9 b i==v).getD i 0)) (fun i=>some (((((List.range (lV b).length).filter fun i=>H4 b br i&&m9 b i==v).getD i 0:Nat):Int),0)) (e:=some (0,5)) (F:=JX (J8 (fun i=>H4 b br i&&m9 b i==v) (lV b).length) (p8 (t.2.1.getD v (0,0)) md) t md (l7 b,B2 (lV b).length br) c) 0 (Nat.zero_le _) (fun g i _ hi=>by
     have u:((i:Int)).toNat=i:=rfl;have o:=Lo (p:=fun i=>H4 b br i&&m9 b i==v) (M:=(lV b).length) (i:=i) (by omega);unfold JX;refine(if_pos (decide_eq_true (by omega))).trans ?_;rw[u];refine(gP ⟨oo,by omega,trivial⟩).trans ?_;rw[Sn];generalize ((List.range (lV b).length).filter fun i=>H4 b br i&&m9 b i==v).getD i 0=k at o;have Q:Int.toNat ((k:Nat):Int)=k:=rfl;obtain⟨P,f2,W,f4⟩:=Bm b h o;refine(gP ⟨(⟨by omega,by show((k:Nat):Int) < ((lV b).length:Int); omega⟩:ix ((k:Nat):Int) (l7 b).2.2.1.length),trivial⟩).trans ?_;rw[lE,Q];have e5:((l7 b).2.2.1.getD k (a7 y138)).1=(m5 b k:Int):=P;have H:Int.toNat ((m5 b k:Nat):Int)=m5 b k:=rfl;have l:=q.vals _ W;rw[e5];refine(gP ⟨oo,trivial⟩).trans ?_;rw[H];simp only[Lp];by_cases f:t.1.getD (m5 b k) false=true
     ·obtain⟨_,_,_,e⟩:=Sx E z h m G o;have Y:=(e _ l.2.1).2;have y:=y0S E z h m G o l.2.1;have X:=E0R l.1 ⟨y.1,y.2.1,y.2.2.1⟩;simp only[f,show t.2.2.getD (m5 b k) (a7 y73)=t.2.2.getD (m5 b k) (0,0) from rfl,show t.2.1.getD (m5 b k) (a7 y73)=t.2.1.getD (m5 b k) (0,0) from rfl,Y,vS,Option.isSome_some,if_true];refine(if_neg (by simp)).trans ?_;refine(gP ⟨oo,trivial,trivial⟩).trans ?_;rw[lE];simp only[X,Lq,B0a,vS,Option.isSome_some];refine(gP ⟨oo,trivial,trivial,trivial⟩).trans ?_;rw[lE];by_cases d:(p8 (t.2.1.getD (m5 b k) (0,0)) md+p8 (H9 b c k (t.2.2.getD (m5 b k) (0,0))).1 md==p8 (t.2.1.getD v (0,0)) md)=true
      ·rw[if_pos d,if_pos d]
      ·rw[if_neg d,if_neg d];exact gP ⟨oo,trivial⟩
     ·have f:t.1.getD (m5 b k) false=false:=by simpa using f
      simp only[f];refine(if_pos (by simp)).trans ?_;exact(gP ⟨oo,trivial⟩).trans (by simp)) (fun g=>by
     unfold JX;exact if_neg (by simp))
    rw[Nat.sub_zero,<- List.range_eq_range',T] at j;refine Eq.trans j ?_;have a:=t0g (fun k=>match V3 t (m5 b k) with
     | none=>false
     | some x=>p8 x.1 md+p8 (H9 b c k x.2).1 md==p8 (t.2.1.getD v (0,0)) md) 0 ((List.range (lV b).length).filter fun i=>H4 b br i&&m9 b i==v)
    rw[t0f] at a;have r:(fun k=>(H4 b br k&&m9 b k==v)&&match V3 t (m5 b k) with
     | none=>false
     | some x=>p8 x.1 md+p8 (H9 b c k x.2).1 md==p8 (t.2.1.getD v (0,0)) md)=S9 (m5 b) (m9 b) (H4 b br) (H9 b c) (V3 t) md (p8 (t.2.1.getD v (0,0)) md) v:=rfl
    rw[r] at a;rw[a];cases(List.range ((List.range (lV b).length).filter fun i=>H4 b br i&&m9 b i==v).length).find? _ <;> rfl
   cases hs:V4 ss v with
   | none=>exact(if_neg (by simp[I0C])).trans s
   | some x =>
     show(if(true&&p8 x.1 md==p8 (t.2.1.getD v (0,0)) md)=true then _ else _)=some (SC (if(p8 x.1 md==p8 (t.2.1.getD v (0,0)) md)=true then _ else _));rw[Bool.true_and];by_cases d:(p8 x.1 md==p8 (t.2.1.getD v (0,0)) md)=true
     ·rw[if_pos d,if_pos d]; rfl
     grind
theorem A0i(hi:Ln ss)(v:Nat)(y:y9):((List.range ss.length).any fun i=>(ss.getD i (a7 y75)).1==(v:Int)&&p8 (ss.getD i (a7 y75)).2.1 md==p8 y.1 md)=Hm (V4 ss v) md y:=by
 cases hs:V4 ss v with
 | none =>
   refine List.any_eq_false.2 fun i a=>?_;have c:=List.mem_range.1 a;intro h;rw[ba,beq_iff_eq] at h
   grind[r0W,F4]
 | some x =>
   obtain⟨s,g,f,rfl⟩:=u0X hs;obtain⟨j,e,d⟩:=List.mem_iff_getElem.1 g;have d:ss.getD j (a7 y75)=s:=by rw[gq,List.getElem?_eq_getElem e]; exact d
   show _=(p8 s.2.1 md==p8 y.1 md);by_cases b:(p8 s.2.1 md==p8 y.1 md)=true
   ·rw[b];exact List.any_eq_true.2 ⟨j,List.mem_range.2 e,by rw[d,f,b]; simp⟩
   ·rw[Bool.not_eq_true] at b;rw[b];refine List.any_eq_false.2 fun i a=>?_;have c:=List.mem_range.1 a;intro h;rw[ba,beq_iff_eq] at h
    grind[r0W,F4,Option.some.inj]
theorem A0e(e:wf l5 b)(a:q7 b=true){v:Int}(d:j3 v 0 ((j7 b:Int)-1)=false):Cz b c (lV b) (B2 (lV b).length br) ss t v md=some (0,4):=by
 have g:=Hp b a;have f:m3 v 0 ((j7 b:Int)-1)=some (j3 v 0 ((j7 b:Int)-1)):=rfl;unfold Cz;simp only[NU b e a,vS,Option.isSome_some,f,d];exact(gP ⟨trivial,oo,trivial,fun h=>(by grind),trivial⟩).trans (if_pos rfl)
theorem H0n(s:wf l5 b)(E:j0 l5 b<=1048576)(f:q7 b=true)(l:wf u4 c)(G:F1 c=true)(hl:ss.length<=9223372036854775807)(hi:Ln ss)(m:Sy (j7 b) t){v:Nat}(j:v<j7 b) :
  Cz b c (lV b) (B2 (lV b).length br) ss t (v:Int) md=some (wF b c br ss t md v):=by
 have hM:=S8 f;have aA:=NW (lV b).length br;have hN:=Hp b f;have n1:=m.l1;have n2:=m.l2;have n3:=m.l3;have w:((v:Int)).toNat=v:=rfl;have X:m3 (v:Int) 0 ((j7 b:Int)-1)=some true:=congrArg some (r7.2 (oo:(0:Int)<=(v:Int)/\(v:Int)<=(j7 b:Int)-1));unfold Cz wF;simp only[NU b s f,vS,Option.isSome_some,X,w,decide_eq_true j];refine(gP ⟨trivial,oo,trivial,fun _=>oo,trivial⟩).trans ?_;cases hr:t.1.getD v false with
 | false=>rfl
 | true =>
   refine(if_neg (by simp)).trans ?_;rw[if_pos (by rfl)];have hd:V3 t v=some (t.2.1.getD v (0,0),t.2.2.getD v (0,0)):=by rw[Lp,if_pos hr]
   unfold Hq;rw[Sk hd];simp only[SB,vS,Option.isSome_some];refine(gP ⟨oo,trivial,trivial⟩).trans ?_;rw[lE,show t.2.1.getD v (a7 y73)=t.2.1.getD v (0,0) from rfl];have a:=C2 (n:=ss.length) hl (fun i=>(ss.getD i (a7 y75)).1==(v:Int)&&p8 (ss.getD i (a7 y75)).2.1 md==p8 (t.2.1.getD v (0,0)) md) (some (-1,0)) (e:=Mf (p8 (t.2.1.getD v (0,0)) md) t md b c (B2 (lV b).length br) (v:Int) (lV b) ()) (F:=Mg ss (v:Int) (p8 (t.2.1.getD v (0,0)) md) md t b c (B2 (lV b).length br) (lV b)) (fun g i hi=>by
    have w:((i:Int)).toNat=i:=rfl;unfold Mg;refine(if_pos (decide_eq_true (by omega))).trans ?_;simp only[w,SB,vS,Option.isSome_some];refine(gP ⟨oo,fun _=>oo,fun _=>trivial,trivial⟩).trans ?_;rw[lE];split
    ·rfl
    ·exact gP ⟨oo,trivial⟩) (fun g=>by
    grind[Mg])
   refine a.trans ?_;have W:=A0i (md:=md) hi v (t.2.1.getD v (0,0),t.2.2.getD v (0,0));have y:((List.range ss.length).any fun i=>(ss.getD i (a7 y75)).1==(v:Int)&&p8 (ss.getD i (a7 y75)).2.1 md==p8 (t.2.1.getD v (0,0)) md)=Hm (V4 ss v) md (t.2.1.getD v (0,0),t.2.2.getD v (0,0)):=W;rw[y];by_cases o:Hm (V4 ss v) md (t.2.1.getD v (0,0),t.2.2.getD v (0,0))=true
   ·rw[if_pos o,if_pos o]; rfl
   ·rw[if_neg o,if_neg o];unfold Mf;have a:=Dc (n:=(lV b).length) (by omega) (S9 (m5 b) (m9 b) (H4 b br) (H9 b c) (V3 t) md (p8 (t.2.1.getD v (0,0)) md) v) (fun i=>some ((i:Int),0)) (e:=some (0,5)) (F:=Me (p8 (t.2.1.getD v (0,0)) md) t md b c (B2 (lV b).length br) (v:Int) (lV b)) 0 (Nat.zero_le _) (fun g k _ q=>by
     have T:Int.toNat ((k:Nat):Int)=k:=rfl;obtain⟨Q,V,Y,f4⟩:=Bm b f q;have P:Int.toNat ((m5 b k:Nat):Int)=m5 b k:=rfl;have j:=m.vals _ Y;have H:(((m9 b k:Nat):Int) != (v:Int))=!(m9 b k==v):=by
      by_cases h:m9 b k=v
      ·rw[h,bne_self_eq_false,beq_self_eq_true];rfl
      ·have x:((m9 b k:Nat):Int)≠(v:Int):=by omega
       rw[bne_iff_ne.2 x,beq_eq_false_iff_ne.2 h];rfl
     unfold Me;refine(if_pos (decide_eq_true (by omega))).trans ?_;refine(gP ⟨oo,trivial⟩).trans ?_;rw[lE,T];have es:=fun h=>u0V s E f l G q (sp:=t.2.2.getD (m5 b k) (0,0)) h;simp only[Q,V,H,P];refine(gP ⟨oo,fun _=>oo,trivial⟩).trans ?_;show(if(!H4 b br k||!(m9 b k==v)||!t.1.getD (m5 b k) false)=true then _ else _)=_;have r:S9 (m5 b) (m9 b) (H4 b br) (H9 b c) (V3 t) md (p8 (t.2.1.getD v (0,0)) md) v k=false->Md (k:Int) g ()=if S9 (m5 b) (m9 b) (H4 b br) (H9 b c) (V3 t) md (p8 (t.2.1.getD v (0,0)) md) v k=true then some ((k:Int),0) else g ((k:Int)+1):=fun e1=>by
      rw[e1,if_neg (by simp)];exact gP ⟨oo,trivial⟩
     cases h1:H4 b br k with
     | false=>grind[trans,S9]
     | true =>
       cases x:(m9 b k==v) with
       | false=>grind[trans,S9]
       | true =>
         by_cases d:t.1.getD (m5 b k) false=true
         ·have u:S9 (m5 b) (m9 b) (H4 b br) (H9 b c) (V3 t) md (p8 (t.2.1.getD v (0,0)) md) v k=(p8 (t.2.1.getD (m5 b k) (0,0)) md+p8 (H9 b c k (t.2.2.getD (m5 b k) (0,0))).1 md==p8 (t.2.1.getD v (0,0)) md):=by
           unfold S9;rw[h1,x,Lp,if_pos d];rfl
          have z:=y0S s E f l G q j.2.1;have l1:=F0l md j.1;have l2:=A0Z md ⟨z.1,z.2.1,z.2.2.1⟩;rw[u,d];refine(if_neg (by simp)).trans ?_;simp only[show t.2.2.getD (m5 b k) (a7 y73)=t.2.2.getD (m5 b k) (0,0) from rfl,show t.2.1.getD (m5 b k) (a7 y73)=t.2.1.getD (m5 b k) (0,0) from rfl,es j.2.1,SB,vS,Option.isSome_some];refine(gP ⟨oo,trivial,trivial⟩).trans ?_;rw[lE];refine(gP ⟨oo,trivial,trivial,oo,trivial⟩).trans ?_;rw[lE];dsimp only;split
          ·rfl
          ·exact gP ⟨oo,trivial⟩
         ·have d:t.1.getD (m5 b k) false=false:=by simpa using d
          rw[d];exact(if_pos (by simp)).trans (r (by unfold S9; rw[Lp,if_neg (by rw[d]; decide)]; exact Bool.and_false _))) (fun g=>by
     unfold Me;exact if_neg (by simp))
    rw[Nat.sub_zero,<- List.range_eq_range'] at a;refine Eq.trans a ?_;cases(List.range (lV b).length).find? _ <;> rfl
end
section
variable {b:j1} {c:q9} {br:List Int} {ss:List r4} {t:A3} {md:Int} {out:List Nat}
theorem u0w{v:Nat}:(∃k:Nat,wF b c br ss t md v=((k:Int),0)/\Hq b c br ss t md v=some (some k))∨(wF b c br ss t md v=(-1,0)/\Hq b c br ss t md v=some none)∨(wF b c br ss t md v).2≠0:=by
 unfold wF;split
 ·cases Hq b c br ss t md v with
  | none=>exact .inr (.inr (by decide))
  | some o =>
    cases o with
    | none=>exact .inr (.inl ⟨rfl,rfl⟩)
    | some k=>exact .inl ⟨k,rfl,rfl⟩
 omega
theorem z0w(a:OrdOk b br out){v:Nat}(g:v<j7 b)(i:(wF b c br ss t md v).2=0)(j:0<=(wF b c br ss t md v).1):(wF b c br ss t md v).1.toNat < (lV b).length/\m5 b (wF b c br ss t md v).1.toNat<j7 b/\out.idxOf (m5 b (wF b c br ss t md v).1.toNat)<out.idxOf v:=by
 rcases u0w (b:=b) (c:=c) (br:=br) (ss:=ss) (t:=t) (md:=md) (v:=v) with ⟨k,e,h⟩ | ⟨e,h⟩ | h
 ·rw[e];obtain⟨d,f,k3,-⟩:=u0u h;have:=a.pos d f (by omega)
  grind
 ·grind
 omega
def PI(b:j1)(out:List Nat)(v:Nat)(acc:List Int):Prop:=v<j7 b/\acc.length+out.idxOf v<=out.length
theorem PI.step(a:OrdOk b br out){v:Nat}{acc:List Int}(h:PI b out v acc)(e:(wF b c br ss t md v).2=0)(f:0<=(wF b c br ss t md v).1):PI b out (m5 b (wF b c br ss t md v).1.toNat) ((wF b c br ss t md v).1 :: acc)/\out.idxOf (m5 b (wF b c br ss t md v).1.toNat)<out.idxOf v:=by
 obtain⟨g,d,k3⟩:=z0w a h.1 e f;have:=h.2;exact⟨⟨d,by grind⟩,k3⟩
end
section
variable {b:j1} {c:q9} {br:List Int} {ss:List r4} {t:A3} {md v:Int} {out:List Nat}
theorem A0f(g:wf l5 b)(i:j0 l5 b<=1048576)(a:wf u4 c)(d:br.length<=1048576)(j:ss.length<=9223372036854775807)(f:wf y65 t):Jf b c br ss t=some (Z5 b c br ss t):=by
 unfold Jf Z5;rw[RN b g i,r84 c a,vS,vS,r85 _ t f,vS,A0m g i a d j,vS];cases hb:q7 b with
 | false =>
   refine(gP ⟨rfl,fun h=>(by grind),fun h=>(by grind),fun h=>(by grind),trivial⟩).trans ?_
   grind[T3]
 | true =>
   have e:K1 b=some (j7 b:Int):=NU b g hb;rw[e,vS,<- Sz];refine(gP ⟨rfl,fun _=>rfl,fun _=>rfl,fun _=>rfl,trivial⟩).trans ?_;cases hc:F1 c with
   | false =>
     grind[T3]
   | true =>
     cases ht:Bn (F8 b) t with
     | false=>rfl
     | true =>
       refine(if_neg (by simp)).trans ((gP ⟨rfl,trivial⟩).trans ?_)
       grind[lE,T3]
end
section
variable {b:j1} {c:q9} {br:List Int} {ss:List r4} {t:A3} {md v:Int} {out:List Nat}
def NZ(b:j1)(c:q9)(br:List Int)(ss:List r4)(t:A3)(v md:Int):Int×Int:=if Z5 b c br ss t=0 then(if(md==0||md==1)=true then(if j3 v 0 ((j7 b:Int)-1)=true then wF b c br ss t md v.toNat else(0,4)) else(0,2)) else(0,Z5 b c br ss t)
theorem Q0G(l:wf l5 b)(j:j0 l5 b<=1048576)(a:wf u4 c)(d:br.length<=1048576)(m:ss.length<=9223372036854775807)(f:wf y65 t):KI b c br ss t v md=some (NZ b c br ss t v md):=by
 unfold KI NZ;rw[H0k l j a d m f];unfold SA;by_cases h:Z5 b c br ss t=0
 ·obtain⟨g,n,i⟩:=l0b h;rw[if_pos h,if_pos h];refine(if_neg (by simp[KJ])).trans ((gP ⟨rfl,trivial⟩).trans ?_);have e:AY (l7 b,B2 (lV b).length br) c ss t v md=some (if j3 v 0 ((j7 b:Int)-1)=true then wF b c br ss t md v.toNat else(0,4)):=by
   cases hi:j3 v 0 ((j7 b:Int)-1) with
   | true =>
     have o:=r7.1 hi;obtain⟨k,rfl⟩:∃k:Nat,v=(k:Int):=⟨v.toNat,by omega⟩;exact K0u l j i.hb a i.hc m (o0g.1 g) (by omega)
   | false=>exact C0g i.hb hi
  show(if((0:Int) != 0)=true then(some ((0:Int),(0:Int)):Option (Int×Int)) else gd ((DJ md).isSome=true/\True) (if(!vl (DJ md))=true then some ((0:Int),(2:Int)) else gd ((AY (l7 b,B2 (lV b).length br) c ss t v md).isSome=true/\True) (lt (vl (AY (l7 b,B2 (lV b).length br) c ss t v md)) fun x=>some x)))=_;rw[if_neg (by decide),gP ⟨rfl,trivial⟩,e];show(if(!(md==0||md==1))=true then some (0,2) else _)=_;cases hmd:(md==0||md==1) <;> rfl
 ·rw[if_neg h,if_neg h];refine(if_pos rfl).trans ((gP ⟨rfl,trivial⟩).trans ?_);exact if_pos (by show(Z5 b c br ss t != 0)=true; simp[h])
theorem H0o(f:wf l5 b)(l:j0 l5 b<=1048576)(e:wf u4 c)(d:br.length<=1048576)(m:ss.length<=9223372036854775807)(i:wf y65 t):Jg b c br ss t v md=some (NZ b c br ss t v md):=by
 unfold Jg NZ;rw[A0f f l e d m i,vS];refine(gP ⟨rfl,trivial⟩).trans ?_;rw[lE];by_cases h:Z5 b c br ss t=0
 ·obtain⟨j,n,a⟩:=l0b h;have q:=S8 a.hb;rw[if_pos h,h];refine(if_neg (by decide)).trans ((gP ⟨rfl,trivial⟩).trans ?_);show(if(!(md==0||md==1))=true then some (0,2) else _)=_;cases hmd:(md==0||md==1) with
  | false=>rfl
  | true =>
    refine(if_neg (by simp)).trans ?_;rw[if_pos rfl];have g:Cz b c (lV b) (B2 (lV b).length br) ss t v md=some (if j3 v 0 ((j7 b:Int)-1)=true then wF b c br ss t md v.toNat else(0,4)):=by
     cases hi:j3 v 0 ((j7 b:Int)-1) with
     | true =>
       have o:=r7.1 hi;obtain⟨k,rfl⟩:∃k:Nat,v=(k:Int):=⟨v.toNat,by omega⟩;exact H0n f l a.hb e a.hc m a.src.1 (o0g.1 j) (by omega)
     | false=>exact A0e f a.hb hi
    simp only[RW b f a.hb,vS,Option.isSome_some];refine(gP (by simp)).trans ?_;rw[lE];simp only[r44 (lV b) br (by omega) d,g,vS,Option.isSome_some];exact gP (by simp)
 ·rw[if_neg h];exact if_pos (by simp[h])
end
theorem T4{a:Type}{V:Prop}[Decidable V]{e:Option a}{P:a->Prop}(b:V)(h:∃r,e=some r/\P r):∃r,gd V e=some r/\P r:=by grind[gP]
theorem T5{a b:Type}{x:a}{f:a->Option b}{P:b->Prop}(h:∃r,f x=some r/\P r):∃r,lt x f=some r/\P r:=h
theorem SD{br:List Int}(h:br.length<=1048576):j0 (.sl (.int .i64)) br<=1048576:=by
 have e:j0 (.sl (.int .i64)) br=br.length+0:=Zt;omega
theorem Oa(n:Nat){l:Int}(a:0<=l)(b:l<=1048576):n6 n l<0∨0<=n6 n l/\n6 n l<=1048576/\n<=1048576:=by
 unfold n6;split <;> omega
theorem r3(b:Gf)(c:Gg)(br:List Int)(ss:List BF)(t:Gi)(v md:Int)(k:wf R6 b)(f:wf U1 c)(_:wf (.sl (.int .i64)) br)(i:wf (.sl y106) ss)(d:wf X0 t)(_:H3 v)(_:H3 md):u3 b c br ss t v md=some true:=by
 have j:∀e:Option Bool,(∃r,e=some r/\r=true)->e=some true:=by rintro e ⟨r,rfl,rfl⟩; rfl
 refine j _ ?_;unfold u3;by_cases g:(1048576:Int) < (br.length:Int)
 ·rw[if_pos (decide_eq_true g)];exact⟨_,rfl,rfl⟩
 rw[if_neg (by simpa using g)];have a:br.length<=1048576:=by omega
 simp only[z7 b 1048576 k (by decide) (by decide),vS,Option.isSome_some];refine T4 (by simp) (T5 ?_);rcases Oa (j0 R6 b) (l:=1048576) (by decide) (by decide) with h | ⟨a0,a1,hm⟩
 ·rw[if_pos (decide_eq_true h)];exact⟨_,rfl,rfl⟩
 rw[if_neg (by simpa using a0)];generalize n6 (j0 R6 b) 1048576=l0 at a0 a1;simp only[z8 c l0 f a0 (by omega),vS,Option.isSome_some];refine T4 (by simp) (T5 ?_);rcases Oa (j0 U1 c) a0 a1 with h | ⟨b0,b1,hmc⟩
 ·rw[if_pos (decide_eq_true h)];exact⟨_,rfl,rfl⟩
 rw[if_neg (by simpa using b0)];generalize n6 (j0 U1 c) l0=l1 at b0 b1;simp only[z9 ss l1 i b0 (by omega),vS,Option.isSome_some];refine T4 (by simp) (T5 ?_);rcases Oa (j0 (.sl y106) ss) b0 b1 with h | ⟨c0,c1,hms⟩
 ·rw[if_pos (decide_eq_true h)];exact⟨_,rfl,rfl⟩
 rw[if_neg (by simpa using c0)];generalize n6 (j0 (.sl y106) ss) l1=l2 at c0 c1;simp only[z10 t l2 d c0 (by omega),vS,Option.isSome_some];refine T4 (by simp) (T5 ?_);rcases Oa (j0 X0 t) c0 c1 with h | ⟨d0,d1,hmt⟩
 ·rw[if_pos (decide_eq_true h)];exact⟨_,rfl,rfl⟩
 rw[if_neg (by simpa using d0)];have u:ss.length<=9223372036854775807:=i.1;have m:=Bd br (SD a);have q:=w15 ss hms;have s:=w16 t hmt;have n:=w12 b hm;have o:=w13 c hmc;simp only[n,o,m,q,s,H0o (v:=v) (md:=md) k hm f a u d,vS,Option.isSome_some];refine T4 (by simp) (T5 ?_);refine T4 (by simp) (T5 ?_);refine T4 (by simp) (T5 ?_);refine T4 (by simp) (T5 ?_);refine T4 (by simp) (T5 ?_);simp only[n,o,m,q,s,Q0G (v:=v) (md:=md) k hm f a u d,vS,Option.isSome_some];refine T4 (by simp) (T5 ?_);rw[if_neg (by simp)];simp only[Zz b hm,vS,Option.isSome_some];refine T4 (by simp) (T5 ?_);simp only[Zz b hm,vS];rw[if_neg (by simp)];simp only[Ar br (SD a),vS,Option.isSome_some];refine T4 (by simp) (T5 ?_);simp only[Ar br (SD a),vS];rw[if_neg (by simp)];simp only[ZA ss hms,vS,Option.isSome_some];refine T4 (by simp) (T5 ?_);simp only[ZA ss hms,vS];rw[if_neg (by simp)];simp only[ZC t hmt,vS,Option.isSome_some];refine T4 (by simp) (T5 ?_);simp only[ZC t hmt,vS];rw[if_neg (by simp)];exact⟨_,rfl,rfl⟩
end Go.Proofs.YtechodbafnmddaaGreatDoor
end

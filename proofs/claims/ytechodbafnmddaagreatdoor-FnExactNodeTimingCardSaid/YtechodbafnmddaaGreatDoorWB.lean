/- What a table says at a place: the program's function and the reference's agree. -/
import Derived.Test.YtechodbafnmddaaGreatDoorWA
import Derived.Test.YtechodbafnmddaaGreatDoorF92c
import Derived.Test.YtechodbafnmddaaGreatDoorXF
import Derived.Test.YtechodbafnmddaaGreatDoorG92
set_option maxHeartbeats 0
section
namespace Go.Proofs.YtechodbafnmddaaGreatDoor
open Go Go.Proofs Go.Proofs.Xv Go.Proofs.Xl Go.Proofs.Xd
def D8(t:m4)(r q:Nat):Int:=t.2.2.getD (r*t.2.1.length+q) 0
def l7(t:m4)(r q:Nat)(w c d:Int):Int:=D8 t r q*w*c+D8 t r (q+1)*w*d
theorem FK{t:m4}(a:x4 t=true){r q:Nat}(g:r<t.1.length)(e:q<t.2.1.length){w c:Int}(f:0<=w)(b:w<=100000)(d:0<=c)(j:c<=100000) :
  (-100000000000<=D8 t r q*w/\D8 t r q*w<=100000000000) /\ -10000000000000000<=D8 t r q*w*c/\D8 t r q*w*c<=10000000000000000:=by
 obtain⟨_,_,_,_,m,_,_⟩:=Dh a;have h:=o0v a (i:=r*t.2.1.length+q) (by have:=Oi g e; omega);have k:=F6 (A:=1000000) h.1 h.2 f b (by decide);have l:=F6 (A:=100000000000) (B:=100000) (x:=D8 t r q*w) (by grind[D8]) (by grind[D8]) d j (by decide)
 grind[D8]
def Sh(n q:Nat)(c d:Int)(M:List (Int×Int)):Prop:=(c=1/\d=0/\M=[((q:Int),1)])∨(q+1<n/\0<c/\0<d/\c+d<=100000/\M=[((q:Int),c),((q:Int)+1,d)])
theorem s0F{t:m4}(f:x4 t=true){r q:Nat}(e:r<t.1.length)(g:q<t.2.1.length){w c d:Int}{M:List (Int×Int)}(h:Sh t.2.1.length q c d M)(b:0<=w)(a:w<=100000) : -20000000000000000<=l7 t r q w c d/\l7 t r q w c d<=20000000000000000:=by
 unfold l7;rcases h with ⟨rfl,rfl,_⟩ | ⟨hq1,c0,d0,hcd,_⟩
 ·have i:=(FK f e g b a (c:=1) (by decide) (by decide)).2;rw[Int.mul_zero]; omega
 ·have i:=(FK f e g b a (c:=c) (by omega) (by omega)).2;have j:=(FK f e hq1 b a (c:=d) (by omega) (by omega)).2;omega
theorem SL{t:m4}(f:x4 t=true){r q:Nat}(d:r<t.1.length)(e:q<t.2.1.length){w c:Int}(n:0<=w)(v:w<=100000)(m:0<=c)(o:c<=100000){R:Int}(E:R=(r:Int)){v1:List AB×Int}{v11:Int}{z b:Int×Int->Option Int}{s:Int}(G : -100000000000000000<=s)(P:s<=100000000000000000){i:Nat}(hi:i<v1.1.length)(H:v1.1.length<=2)
  {Q:Int} (g:Q=(q:Int)) (y:v1.1.getD i (a6 M8)=(Q,c)):GS t (R,w) v1 v11 z b (s,(i:Int))=b (s+D8 t r q*w*c,(i:Int)+1):=by
 subst E; subst g;obtain⟨_,T,_,F,V,_,x⟩:=Dh f;have k:=Oi d e;have l:=FK f d e n v m o;have u:((i:Int)).toNat=i:=rfl;have j:(r:Int)*(t.2.1.length:Int)=((r*t.2.1.length:Nat):Int):=by simp
 have h:(((r*t.2.1.length:Nat):Int)+(q:Int)).toNat=r*t.2.1.length+q:=by omega
 rw[GS,if_pos (by grind),u,gP ⟨oo,hi,trivial⟩,lE,y];unfold D8 at l ⊢;show gd (b7 ((r:Int)*(t.2.1.length:Int))/\b7 ((r:Int)*(t.2.1.length:Int)+(q:Int))/\ix ((r:Int)*(t.2.1.length:Int)+(q:Int)) t.2.2.length/\b7 (t.2.2.getD ((r:Int)*(t.2.1.length:Int)+(q:Int)).toNat 0*w)/\b7 (t.2.2.getD ((r:Int)*(t.2.1.length:Int)+(q:Int)).toNat 0*w*c)/\b7 (s+t.2.2.getD ((r:Int)*(t.2.1.length:Int)+(q:Int)).toNat 0*w*c)/\True) (lt (s+t.2.2.getD ((r:Int)*(t.2.1.length:Int)+(q:Int)).toNat 0*w*c) fun a=>gd _ (b (a,(i:Int)+1)))=_;rw[j,h,gP ⟨oo,oo,oo,oo,oo,oo,trivial⟩,lE,gP ⟨oo,trivial⟩]
theorem F0K{t:m4}{a:AB}{v1:List AB×Int}{v11:Nat}(d:v11<=2){b c:Int×Int->Option Int}{s:Int}:GS t a v1 (v11:Int) b c (s,(v1.1.length:Int))=b (s,(v11:Int)+1):=by
 rw[GS,if_neg (by simp),QN,gP ⟨oo,trivial⟩]
theorem J5{a b:Type}{F:(a->Option b)->a->Option b}{n:Nat}{s:a}:D7 F (n+1) s=F (D7 F n) s:=rfl
theorem FL:((0:Nat):Int)+1=((1:Nat):Int):=rfl
theorem FM:((1:Nat):Int)+1=((2:Nat):Int):=rfl
theorem SM{t:m4}(f:x4 t=true){r q:Nat}(e:r<t.1.length)(g:q<t.2.1.length){w c d:Int}{M:List (Int×Int)}(l:Sh t.2.1.length q c d M)(b:0<=w)(a:w<=100000){R T:Int}(h:R=(r:Int)){v11:Nat}(k:v11<=2){j:Int×Int->Option Int}{s:Int}(u : -50000000000000000<=s)(m:s<=50000000000000000) :
  lp (GS t (R,w) (M,T) (v11:Int) j) (s,0)=j (s+l7 t r q w c d,(v11:Int)+1):=by
 unfold l7;rcases l with ⟨rfl,rfl,rfl⟩ | ⟨hq1,c0,d0,hcd,rfl⟩
 ·refine Dq 2 (by decide) fun n=>?_;rw[J5];refine(SL (v1:=([((q:Int),1)],T)) (i:=0) (s:=s) (c:=1) f e g b a (by decide) (by decide) h (by omega) (by omega) (Nat.le_refl 1) (Nat.le_succ 1) rfl rfl).trans ?_;rw[Int.mul_zero,Int.add_zero,J5,FL];exact F0K (v1:=([((q:Int),1)],T)) k
 ·have o:=(FK f e g b a (c:=c) (by omega) (by omega)).2;refine Dq 3 (by decide) fun n=>?_;rw[J5];refine(SL (v1:=([((q:Int),c),((q:Int)+1,d)],T)) (i:=0) (s:=s) (c:=c) f e g b a (by omega) (by omega) h (by omega) (by omega) (Nat.le_succ 1) (Nat.le_refl 2) rfl rfl).trans ?_;rw[J5,FL];refine(SL (v1:=([((q:Int),c),((q:Int)+1,d)],T)) (i:=1) (s:=s+D8 t r q*w*c) (c:=d) (q:=q+1) f e hq1 b a (by omega) (by omega) h (by omega) (by omega) (Nat.le_refl 2) (Nat.le_refl 2) (Int.natCast_succ q).symm rfl).trans ?_;rw[<- Int.add_assoc,J5,FM];exact F0K (v1:=([((q:Int),c),((q:Int)+1,d)],T)) k
theorem z0w{t:m4}(h:x4 t=true){p u r q k:Nat}(b:r=p+u)(d:r<t.1.length)(f:q<t.2.1.length){w c W:Int}(g:0<=w)(E:w<=100000)(e:0<=c)(z:c<=100000)(V:W=w*c){i v1:Int×Int×Int}(G:i.1=(p:Int)){q0:Nat}(P:v1.1=(q0:Int))(y:q=q0+k)(F:k<=1)(Y:u<=1){j:Int×Int->Option Int}{s:Int}(T : -100000000000000000<=s)(X:s<=100000000000000000) :
  BY (k:Int) s t i (u:Int) v1 j W=j (s+D8 t r q*w*c,(k:Int)+1):=by
 obtain⟨_,a4,_,Q,hl,_,H⟩:=Dh h;have v:=Oi d f;have x:=FK h d f g E e z;subst b; subst y;have n:((p:Int)+(u:Int))*(t.2.1.length:Int)=(((p+u)*t.2.1.length:Nat):Int):=by simp
 have m:((((p+u)*t.2.1.length:Nat):Int)+(q0:Int)+(k:Int)).toNat=(p+u)*t.2.1.length+(q0+k):=by omega
 have a:W*D8 t (p+u) (q0+k)=D8 t (p+u) (q0+k)*w*c:=by grind
 rw[BY];by_cases hp:0<W
 ·unfold D8 at x a ⊢;rw[if_pos (by grind),G,P,n,m,a,gP ⟨oo,oo,oo,oo,oo,oo,oo,trivial⟩,lE,GD,gP ⟨oo,trivial⟩]
 ·have l:W=0:=by
   have:0<=w*c:=Int.mul_nonneg g e;omega
  have o:D8 t (p+u) (q0+k)*w*c=0:=by grind
  rw[if_neg (by grind),GD,gP ⟨oo,trivial⟩,o,Int.add_zero]
theorem SN{t:m4}{u k:Nat}{d v1:Int×Int×Int}(c:k<=1){a:Int×Int->Option Int}{s W:Int}(b:W=0):BY (k:Int) s t d (u:Int) v1 a W=a (s,(k:Int)+1):=by
 subst b;rw[BY,if_neg (by simp),GD,gP ⟨oo,trivial⟩]
theorem z0O{w c:Int}(e:0<=w)(a:w<=100000)(b:0<=c)(d:c<=100000):b7 (w*c)/\True:=by
 have:=F6 (A:=100000) (B:=100000) (x:=w) (y:=c) (by omega) a b d (by decide);exact⟨oo,trivial⟩
theorem Om{t:m4}{u k:Nat}(o:k<=1){a v1:Int×Int×Int}{l b:Int×Int->Option Int}{s w e:Int}(q:(if(u:Int)=1 then a.2.2 else a.2.1)=w)(d:(if k=0 then v1.2.1 else v1.2.2)=e)(g:0<=w)(f:w<=100000)(i:0<=e)(h:e<=100000) :
  DS t a (u:Int) v1 l b (s,(k:Int))=BY (k:Int) s t a (u:Int) v1 b (w*e):=by
 have n:∀W,W=w->Ja (k:Int) s t a (u:Int) v1 b W=BY (k:Int) s t a (u:Int) v1 b (w*e):=by
  intro W m;subst m;rw[Ja];by_cases j:k=0
  ·subst j;have c:v1.2.1=e:=d;rw[if_pos (by rfl),c,gP (z0O g f i h)]
  ·rw[if_neg j] at d;rw[if_neg (by grind),d,gP (z0O g f i h)]
 grind[DS]
theorem SO{t:m4}{u:Nat}(d:u<=1){b v1:Int×Int×Int}{a c:Int×Int->Option Int}{s:Int}:DS t b (u:Int) v1 a c (s,((2:Nat):Int))=a (s,(u:Int)+1):=by
 rw[DS,if_neg (by simp),Qp,gP ⟨oo,trivial⟩]
theorem z0v{t:m4}(o:x4 t=true){p u r q:Nat}(h:r=p+u)(l:u<=1)(m:r<t.1.length)(y:q<t.2.1.length){a b w c d:Int}{M:List (Int×Int)}(x:Sh t.2.1.length q c d M)(E:(if(u:Int)=1 then b else a)=w)(g:0<=w)(f:w<=100000){z:Int×Int->Option Int}{s:Int}(Q : -50000000000000000<=s)(H:s<=50000000000000000) :
  lp (DS t ((p:Int),a,b) (u:Int) ((q:Int),c,d) z) (s,0)=z (s+l7 t r q w c d,(u:Int)+1):=by
 have j:0<=c/\c<=100000/\0<=d/\d<=100000:=by
  rcases x with ⟨rfl,rfl,_⟩ | ⟨_,_,_,_,_⟩ <;> omega
 obtain⟨i,v,F,G⟩:=j;have P:=(FK o m y g f i v).2;refine Dq 3 (by decide) fun n=>?_;rw[J5];refine(Om (k:=0) (e:=c) (by decide) E rfl g f i v).trans ?_;refine(z0w o h m y g f i v rfl rfl (q0:=q) rfl (k:=0) rfl (by decide) l (by omega) (by omega)).trans ?_;rw[J5,FL];refine(Om (k:=1) (e:=d) (by decide) E rfl g f F G).trans ?_;unfold l7;rcases x with ⟨rfl,rfl,_⟩ | ⟨hq1,_,_,_,_⟩
 ·refine(SN (by decide) (Int.mul_zero w)).trans ?_;rw[J5,FM,SO l,Int.mul_zero,Int.add_zero]
 ·refine(z0w o h m hq1 g f F G rfl rfl (q0:=q) rfl (k:=1) rfl (by decide) l (by omega) (by omega)).trans ?_
  grind[J5,FM,SO,Int.add_assoc]
theorem F0k{t:m4}{p u q:Nat}(m:u<=1){a b c d:Int}(g:(if(u:Int)=1 then b else a)=0)(h:0<=c)(j:c<=100000)(i:0<=d)(l:d<=100000){f:Int×Int->Option Int}{s:Int} :
  lp (DS t ((p:Int),a,b) (u:Int) ((q:Int),c,d) f) (s,0)=f (s,(u:Int)+1):=by
 refine Dq 3 (by decide) fun n=>?_;rw[J5];refine(Om (k:=0) (e:=c) (by decide) g rfl (by decide) (by decide) h j).trans ?_;refine(SN (by decide) (Int.zero_mul _)).trans ?_;rw[J5,FL];refine(Om (k:=1) (e:=d) (by decide) g rfl (by decide) (by decide) i l).trans ?_;refine(SN (by decide) (Int.zero_mul _)).trans ?_
 grind[J5,FM,SO]
theorem FN{xs:List Int}(x:Int)(h:C0 xs=true):∃(p:Nat) (a b:Int) (L:List (Int×Int)),p<xs.length/\Sh xs.length p a b L/\BX xs x=some ((p:Int),a,b)/\J7 xs x=some (L,a+b):=by
 obtain⟨p,a,b,e,d,f⟩:=L0D x h;rcases f with ⟨rfl,rfl,c⟩ | ⟨c,h4,h5,h6,h7⟩
 ·exact⟨p,1,0,_,e,.inl ⟨rfl,rfl,rfl⟩,d,c⟩
 ·exact⟨p,a,b,_,e,.inr ⟨c,h4,h5,h6,rfl⟩,d,h7⟩
theorem SP{t:m4}(g:x4 t=true){p q:Nat}(h:p<t.1.length)(f:q<t.2.1.length){a b c d:Int}{L M:List (Int×Int)}(i:Sh t.1.length p a b L)(e:Sh t.2.1.length q c d M)(T U m:Int) :
  lp (Fe t (M,U) (L,T) m) (0,0)=GR (L,T) (M,U) m (l7 t p q a c d+(if b=0 then 0 else l7 t (p+1) q b c d)):=by
 have j:∀n:Nat,((n:Int)).toNat=n:=fun _=>rfl;rcases i with ⟨rfl,rfl,rfl⟩ | ⟨hp1,a0,b0,hab,rfl⟩
 ·refine Dq 2 (by decide) fun n=>?_;rw[J5,Fe,if_pos (by simp),gP ⟨⟨by decide,by simp⟩,by simp,trivial⟩,lE];refine(SM (v11:=0) g h f e (w:=1) (by decide) (by decide) rfl (by decide) (by decide) (by decide)).trans ?_;rw[J5,FL,Fe,if_neg (by simp),if_pos rfl,Int.zero_add,Int.add_zero]
 ·have k:=s0F g h f e (w:=a) (by omega) (by omega);refine Dq 3 (by decide) fun n=>?_;rw[J5,Fe,if_pos (by simp),gP ⟨⟨by decide,by simp⟩,by simp,trivial⟩,lE];refine(SM (v11:=0) g h f e (w:=a) (by omega) (by omega) rfl (by decide) (by decide) (by decide)).trans ?_;rw[J5,FL,Fe,if_pos (by simp),gP ⟨⟨by decide,by simp⟩,by simp,trivial⟩,lE];refine(SM (v11:=1) g hp1 f e (w:=b) (by omega) (by omega) (Int.natCast_succ p).symm (by decide) (by omega) (by omega)).trans ?_;rw[J5,FM,Fe,if_neg (by simp),if_neg (by omega),Int.zero_add]
theorem F0l{t:m4}(j:x4 t=true){p q:Nat}(l:p<t.1.length)(f:q<t.2.1.length){a b c d:Int}{L M:List (Int×Int)}(v:Sh t.1.length p a b L)(e:Sh t.2.1.length q c d M)(m:Int) :
  lp (GF t ((p:Int),a,b) ((q:Int),c,d) m) (0,0)=MF ((p:Int),a,b) ((q:Int),c,d) m (l7 t p q a c d+(if b=0 then 0 else l7 t (p+1) q b c d)):=by
 have i:0<=a/\a<=100000/\0<=b/\b<=100000/\(b≠0->p+1<t.1.length):=by
  rcases v with ⟨rfl,rfl,_⟩ | ⟨_,_,_,_,_⟩ <;> omega
 obtain⟨o,k,x,y,h⟩:=i;have g:0<=c/\c<=100000/\0<=d/\d<=100000:=by
  rcases e with ⟨rfl,rfl,_⟩ | ⟨_,_,_,_,_⟩ <;> omega
 obtain⟨s,E,z,F⟩:=g;have G:=s0F j l f e o k;refine Dq 3 (by decide) fun n=>?_;rw[J5,GF,if_pos (by simp)];refine(z0v (u:=0) (p:=p) (r:=p) (w:=a) j rfl (by decide) l f e rfl o k (by decide) (by decide)).trans ?_;rw[J5,FL,GF,if_pos (by simp)];by_cases hz:b=0
 ·subst hz;refine(F0k (u:=1) (by decide) rfl s E z F).trans ?_;rw[J5,FM,GF,if_neg (by simp),if_pos rfl,Int.zero_add,Int.add_zero]
 ·refine(z0v (u:=1) (p:=p) (r:=p+1) (w:=b) j rfl (by decide) (h hz) f e rfl x y (by omega) (by omega)).trans ?_;rw[J5,FM,GF,if_neg (by simp),if_neg hz,Int.zero_add]
theorem z0W{t:m4}(a:x4 t=true){r q:Nat}(c:r<t.1.length)(b:q<t.2.1.length) : -1000000<=D8 t r q/\D8 t r q<=1000000:=by
 obtain⟨_,_,_,_,d,_,_⟩:=Dh a;exact o0v a (i:=r*t.2.1.length+q) (by have:=Oi c b; omega)
theorem SQ{v w c:Int}(f : -1000000<=v)(e:v<=1000000)(d:0<=w)(b:0<=c) : -(1000000*(w*c))<=v*w*c/\v*w*c<=1000000*(w*c):=by
 have a:0<=w*c:=Int.mul_nonneg d b;rw[Int.mul_assoc];refine⟨?_,Int.mul_le_mul_of_nonneg_right e a⟩;have:=Int.mul_le_mul_of_nonneg_right f a;rw[Int.neg_mul] at this;exact this
theorem Hz{t:m4}(f:x4 t=true){r q:Nat}(g:r<t.1.length)(j:q<t.2.1.length){w c d:Int}{M:List (Int×Int)}(i:Sh t.2.1.length q c d M)(b:0<=w) : -(1000000*(w*(c+d)))<=l7 t r q w c d/\l7 t r q w c d<=1000000*(w*(c+d)):=by
 unfold l7;have a:=z0W f g j;rcases i with ⟨rfl,rfl,_⟩ | ⟨hq1,c0,d0,hcd,_⟩
 ·have h:=SQ a.1 a.2 b (c:=1) (by decide);rw[Int.mul_zero,Int.add_zero,Int.add_zero]; exact h
 ·have e:=z0W f g hq1;have h:=SQ a.1 a.2 b (c:=c) (by omega);have k:=SQ e.1 e.2 b (c:=d) (by omega);rw[Int.mul_add w,Int.mul_add 1000000];omega
theorem HA{t:m4}(f:x4 t=true)(s l m:Int):∃r,F5 t s l m=some r/\Ay t s l m=some r /\ -1000000<=r/\r<=1000000:=by
 have h:C0 t.1=true/\C0 t.2.1=true:=by
  simp only[x4,ba] at f;exact⟨f.1.1.1,f.1.1.2⟩
 obtain⟨p,a,b,L,u,k,P,F⟩:=FN s h.1;obtain⟨q,c,d,M,i,g,H,G⟩:=FN l h.2;have v:0<=a/\0<=b/\1<=a+b/\a+b<=100000/\a<=100000/\b<=100000/\(b≠0->p+1<t.1.length):=by
  rcases k with ⟨rfl,rfl,_⟩ | ⟨_,_,_,_,_⟩ <;> omega
 have E:1<=c+d/\c+d<=100000:=by
  rcases g with ⟨rfl,rfl,_⟩ | ⟨_,_,_,_,_⟩ <;> omega
 have Q:=F6 (A:=100000) (B:=100000) (x:=a+b) (y:=c+d) (by omega) (by omega) (by omega) (by omega) (by decide);have e:0 < (a+b)*(c+d):=Int.mul_pos (by omega) (by omega);have T:=Hz f u i g (w:=a) (by omega);have W : -(1000000*(b*(c+d)))<=(if b=0 then 0 else l7 t (p+1) q b c d)/\(if b=0 then 0 else l7 t (p+1) q b c d)<=1000000*(b*(c+d)):=by
  by_cases hz:b=0
  ·rw[if_pos hz,hz,Int.zero_mul]; decide
  ·rw[if_neg hz]; exact Hz f (v.2.2.2.2.2.2 hz) i g (by omega)
 have V:1000000*((a+b)*(c+d))=1000000*(a*(c+d))+1000000*(b*(c+d)):=by rw[Int.add_mul,Int.mul_add 1000000]
 obtain⟨o,n⟩:=N6 (l7 t p q a c d+(if b=0 then 0 else l7 t (p+1) q b c d)) ((a+b)*(c+d)) m (by omega) (by omega) e;have j:=Dr (a:=l7 t p q a c d+(if b=0 then 0 else l7 t (p+1) q b c d)) (K:=1000000) m e (by omega) (by omega);have z:b7 ((a+b)*(c+d)):=oo;have i2:b7 (a+b):=oo;have i3:b7 (c+d):=oo;refine⟨_,?_,?_,j⟩
 ·unfold F5;rw[F,gP ⟨rfl,trivial⟩,vS,lE,G,gP ⟨rfl,trivial⟩,vS,lE,SP f u i k g,GR,o,gP ⟨z,rfl,trivial⟩,vS,lE]
 ·unfold Ay;rw[P,gP ⟨rfl,trivial⟩,vS,lE,H,gP ⟨rfl,trivial⟩,vS,lE,F0l f u i k g,MF,n,gP ⟨i2,i3,z,rfl,trivial⟩,vS,lE]
end Go.Proofs.YtechodbafnmddaaGreatDoor
end
section
namespace Go.Proofs.YtechodbafnmddaaGreatDoor
open Go Go.Proofs Go.Proofs.Sv Go.Proofs.Xv Go.Proofs.Xl Go.Proofs.Xd
section
variable {b:j0}
theorem FO(b:j0){n:Nat}(h:n<b.2.2.length):(l5 b).2.2.2.1.getD ((n:Int)).toNat 0=(q9 b n).getD 0 0/\ix (n:Int) (l5 b).2.2.2.1.length:=by
 have a:(l5 b).2.2.2.1.length=b.2.2.length:=Fy _ _;exact⟨Ls _ 0 _ n h,oo⟩
theorem FP(b:j0){n:Nat}(h:n<b.2.2.length):(l5 b).2.2.2.2.1.getD ((n:Int)).toNat []=R9 b n/\ix (n:Int) (l5 b).2.2.2.2.1.length:=by
 have a:(l5 b).2.2.2.2.1.length=b.2.2.length:=Fy _ _;exact⟨Ls _ [] _ n h,oo⟩
theorem F0v(u:wf j7 b)(j:p9 b=true){n k:Nat}(t:n<b.2.2.length)(V:k < (q6 b.2.1 n).length){s m:Int}(e:0<=s)(w:s<=1000000)(g:m=0∨m=1) :
  ∃r,O5 s ((R9 b n).getD k 0) m=some r/\IZ b (n:Int) (k:Int) s m=some r/\0<=r:=by
 have d:=Ac j t;obtain⟨T,i⟩:=d.delays;have c:=i (o3 b n k).toNat;have Q:=d.sn;have G:=d.wf.snkIn k (by omega);obtain⟨X,f2,W⟩:=Ol s ((r8 b n).getD (o3 b n k).toNat 0);have hs:=F6 (A:=1000000) (B:=1000000) (x:=s) (y:=s) (by omega) (by omega) (by omega) (by omega) (by decide);have h:=F6 (A:=301000000) (B:=301000000) (x:=(r8 b n).getD (o3 b n k).toNat 0) (y:=(r8 b n).getD (o3 b n k).toNat 0) (by omega) (by omega) (by omega) (by omega) (by decide);have H:0<=s*s:=Int.mul_nonneg e e;have o:0<=(r8 b n).getD (o3 b n k).toNat 0*(r8 b n).getD (o3 b n k).toNat 0:=Int.mul_nonneg c.1 c.1;obtain⟨r,z,Y,v,q,F,_⟩:=H0Y e w c.1 c.2 g;refine⟨r,by grind[FD],?_,F⟩;have E:((n:Int)).toNat=n:=rfl;have f:((k:Int)).toNat=k:=rfl;have a:0<=(b.2.2.getD n (a6 y172)).2.2.2.getD k 0/\((b.2.2.getD n (a6 y172)).2.2.2.getD k 0).toNat < (r8 b n).length:=by rw[T]; exact G
 have P:k < (b.2.2.getD n (a6 y172)).2.2.2.length:=by
  show k < (j1 b n).2.2.2.length;omega
 unfold IZ;rw[J0q b u d,vS,E,f,gP ⟨rfl,oo,oo,⟨a.1,by omega⟩,a.2,trivial⟩,lE];show gd (b7 (1000000*s)/\b7 (1000000*s*s)/\b7 (4*(r8 b n).getD (o3 b n k).toNat 0)/\b7 (4*(r8 b n).getD (o3 b n k).toNat 0*(r8 b n).getD (o3 b n k).toNat 0)/\b7 (1000000*s*s+4*(r8 b n).getD (o3 b n k).toNat 0*(r8 b n).getD (o3 b n k).toNat 0)/\(Bi (1000000*s*s+4*(r8 b n).getD (o3 b n k).toNat 0*(r8 b n).getD (o3 b n k).toNat 0) m).isSome=true/\(O2 (vl (Bi (1000000*s*s+4*(r8 b n).getD (o3 b n k).toNat 0*(r8 b n).getD (o3 b n k).toNat 0) m)) 1000 m).isSome=true/\True) (lt (vl (O2 (vl (Bi (1000000*s*s+4*(r8 b n).getD (o3 b n k).toNat 0*(r8 b n).getD (o3 b n k).toNat 0) m)) 1000 m)) fun l=>some l)=_;rw[v,vS,q,vS,gP ⟨oo,oo,oo,oo,oo,rfl,rfl,trivial⟩,lE]
theorem LG(i:wf j7 b)(f:p9 b=true){q:Int}(g:j3 q 0 (((lV b).length:Int)-1)=true){s m:Int}(x:0<=s)(G:s<=1000000)(v:m=0∨m=1) :
  ∃r,B4 (l5 b) q s m=some r/\Y6 b ((lV b).getD q.toNat (a6 y138)) s m=some r/\r<=1000000:=by
 have g:=r6.1 g;have d:ix q (l5 b).2.2.1.length:=⟨g.1,by show q < ((lV b).length:Int); omega⟩;generalize hl:(lV b).getD q.toNat (a6 y138)=l;have e:(l5 b).2.2.1.getD q.toNat (a6 y138)=l:=hl;have c:l∈lV b:=by rw[<- hl]; exact H0 (by omega)
 rcases FI f c with ⟨a,n,h⟩ | ⟨n,k,h⟩
 ·obtain⟨t,H⟩:=BA h.slw h.trs;obtain⟨r,T,z,W,w⟩:=HA H s ((q9 b n).getD 0 0) m;obtain⟨o,j⟩:=FO b h.nlt;refine⟨r,?_,?_,w⟩
  ·unfold B4;refine(gP ⟨d,trivial⟩).trans ?_;rw[lE,e,S5 h.pix h.net,vS,gP ⟨rfl,trivial⟩,lE];refine(if_pos (by rw[h.kind]; rfl)).trans ?_;rw[FJ h,vS,o,T,vS];refine(gP ⟨rfl,by decide,t,j,rfl,trivial⟩).trans ?_;rw[lE];have:min r 1000000=r:=by omega
   rw[this]
  ·unfold Y6;refine(if_pos (by rw[h.kind]; rfl)).trans ?_;rw[J0v i f h,vS,gP ⟨rfl,trivial⟩,lE];show gd (_/\ix (l.2.1.tmod 2) a.2.2.2.2.2.length/\(Ay (a.2.2.2.2.2.getD (l.2.1.tmod 2).toNat (a6 y269)) s ((q9 b n).getD 0 0) m).isSome=true/\True) (lt (vl (Ay (a.2.2.2.2.2.getD (l.2.1.tmod 2).toNat (a6 y269)) s ((q9 b n).getD 0 0) m)) fun E=>some E)=_;rw[z,vS,gP ⟨by decide,t,rfl,trivial⟩,lE]
 ·obtain⟨r,P,F,V⟩:=F0v i f h.nlt h.klt x G v;obtain⟨o,j⟩:=FP b h.nlt;have Q:=FE b n;have y:=h.klt;refine⟨min r 1000000,?_,?_,by omega⟩
  ·unfold B4;refine(gP ⟨d,trivial⟩).trans ?_;rw[lE,e,S5 h.pix h.net,vS,gP ⟨rfl,trivial⟩,lE];refine(if_neg (by rw[h.kind]; decide)).trans ?_;rw[o,h.idx];have u:((k:Int)).toNat=k:=rfl;rw[u,P,vS];refine(gP ⟨j,oo,rfl,trivial⟩).trans ?_;rw[lE]
  ·unfold Y6;refine(if_neg (by rw[h.kind]; decide)).trans ?_;rw[J0u i f h,vS,h.idx,F,vS,gP ⟨rfl,rfl,trivial⟩,lE,Int.min_comm]
def w6(c:p7)(k m:Int):Int:=if(k==1)=true then(if(m==0)=true then c.2.1 else c.2.2.1) else(if(m==0)=true then c.2.2.2.1 else c.2.2.2.2)
theorem LH(c:p7)(k m:Int):GV c k m=some (w6 c k m):=by
 grind[GV,w6]
theorem L0R(c:p7)(k m:Int):DU c k m=some (w6 c k m):=by
 grind[DU,w6]
def F2(c:p7):Bool:=D5 c.1&&(decide (100<=c.2.1)&&decide (c.2.1<=c.2.2.1)&&decide (c.2.2.1<=5000))&&(decide (100<=c.2.2.2.1)&&decide (c.2.2.2.1<=c.2.2.2.2)&&decide (c.2.2.2.2<=5000))
theorem Cv{c:p7}(h:F2 c=true)(k m:Int):0<=w6 c k m/\w6 c k m<=5000:=by
 grind[F2,w6]
theorem On(w:wf j7 b)(j:p9 b=true){c:p7}(hc:F2 c=true){q:Int}(u:j3 q 0 (((lV b).length:Int)-1)=true)(s m:Int) :
  ∃r,H4 (l5 b) c q s m=some r/\Y7 b c ((lV b).getD q.toNat (a6 y138)) s m=some r /\ -6000000<=r/\r<=6000000:=by
 have u:=r6.1 u;have g:ix q (l5 b).2.2.1.length:=⟨u.1,by show q < ((lV b).length:Int); omega⟩;generalize hl:(lV b).getD q.toNat (a6 y138)=l;have i:(l5 b).2.2.1.getD q.toNat (a6 y138)=l:=hl;have f:l∈lV b:=by rw[<- hl]; exact H0 (by omega)
 have hf:=Cv hc l.2.2.1 m;have d:∀p:Int,-1000000<=p->p<=1000000->V9 c l m p=some (m5 (p*w6 c l.2.2.1 m) 1000 m)/\GG c l m p=some (m5 (p*w6 c l.2.2.1 m) 1000 m) /\ -6000000<=m5 (p*w6 c l.2.2.1 m) 1000 m/\m5 (p*w6 c l.2.2.1 m) 1000 m<=6000000:=fun p p0 p1=>by
  have hp:=F6 (A:=1000000) (B:=5000) (x:=p) (y:=w6 c l.2.2.1 m) (by omega) (by omega) (by omega) (by omega) (by decide);have o:=N6 (p*w6 c l.2.2.1 m) 1000 m (by omega) (by omega) (by decide);have T:=Dr (a:=p*w6 c l.2.2.1 m) (b:=1000) (K:=6000000) m (by decide) (by omega) (by omega);have v:V8 p (w6 c l.2.2.1 m) m=some (m5 (p*w6 c l.2.2.1 m) 1000 m):=by
   unfold V8;rw[o.1,vS,gP ⟨oo,rfl,trivial⟩,lE]
  refine⟨?_,?_,T⟩
  ·rw[V9,LH,vS,v,vS,gP ⟨rfl,rfl,trivial⟩,lE]
  ·rw[GG,L0R,vS,o.2,vS,gP ⟨rfl,oo,rfl,trivial⟩,lE]
 rcases FI j f with ⟨a,n,h⟩ | ⟨n,k,h⟩
 ·obtain⟨P,t2⟩:=BA h.del h.trs;obtain⟨r,l1,Y,l3,V⟩:=HA t2 s ((q9 b n).getD 0 0) m;obtain⟨G,z⟩:=FO b h.nlt;obtain⟨E,F,t⟩:=d r l3 V;refine⟨_,?_,?_,t⟩
  ·unfold H4;refine(gP ⟨g,trivial⟩).trans ?_;rw[lE,i,S5 h.pix h.net,vS,gP ⟨rfl,trivial⟩,lE];refine(if_pos (by rw[h.kind]; rfl)).trans ?_;rw[FJ h,vS,G,l1,vS];refine(gP ⟨rfl,by decide,P,z,rfl,trivial⟩).trans ?_;rw[lE];exact E
  ·unfold Y7;refine(if_pos (by rw[h.kind]; rfl)).trans ?_;rw[J0v w j h,vS,gP ⟨rfl,trivial⟩,lE];show gd (_/\ix (l.2.1.tmod 2) a.2.2.2.2.1.length/\(Ay (a.2.2.2.2.1.getD (l.2.1.tmod 2).toNat (a6 y269)) s ((q9 b n).getD 0 0) m).isSome=true/\True) (lt (vl (Ay (a.2.2.2.2.1.getD (l.2.1.tmod 2).toNat (a6 y269)) s ((q9 b n).getD 0 0) m)) fun v1=>GG c l m v1)=_;rw[Y,vS,gP ⟨by decide,P,rfl,trivial⟩,lE];exact F
 ·have Q:=Ac j h.nlt;obtain⟨dl,W⟩:=Q.delays;have o:=W (o3 b n k).toNat;obtain⟨G,z⟩:=FP b h.nlt;have aA:=FE b n;have e:=h.klt;have X:=s0A b n m;have H:((k:Int)).toNat=k:=rfl;have T:=Dr (a:=(r8 b n).getD (o3 b n k).toNat 0) (b:=1000) (K:=301000) m (by decide) (by omega) (by omega);obtain⟨E,F,t⟩:=d (m5 ((r8 b n).getD (o3 b n k).toNat 0) 1000 m) (by omega) (by omega);refine⟨_,?_,?_,t⟩
  ·unfold H4;refine(gP ⟨g,trivial⟩).trans ?_;rw[lE,i,S5 h.pix h.net,vS,gP ⟨rfl,trivial⟩,lE];refine(if_neg (by rw[h.kind]; decide)).trans ?_;rw[G,h.idx,H,FD e,(N6 _ 1000 m (by omega) (by omega) (by decide)).1,vS];refine(gP ⟨z,oo,rfl,trivial⟩).trans ?_;rw[lE];exact E
  ·unfold Y7;refine(if_neg (by rw[h.kind]; decide)).trans ?_;rw[J0u w j h,vS,L0S b w Q,vS,h.idx,H,gP ⟨rfl,rfl,oo,by omega,trivial⟩,lE,s0B e];exact F
theorem J0s(s:Int):Dc s=some (j3 s 0 1000000):=by
 unfold Dc;rw[R5,vS,gP ⟨rfl,trivial⟩]
end
theorem SR{b:j0}{q:Int}(h:j3 q 0 (((lV b).length:Int)-1)=true):ix q (lV b).length/\q.toNat < (lV b).length:=by
 have:=r6.1 h;exact⟨oo,by omega⟩
theorem M0n(c:p7)(e:wf u5 c):KP c=some (F2 c):=by
 have d:∀a b,Fk a b=some (decide (100<=a)&&decide (a<=b)&&decide (b<=5000)):=fun _ _=>rfl;unfold KP F2;rw[Sm _ e.1,vS,d,vS,d,vS,gP ⟨rfl,(fun _=>rfl),(fun _=>rfl),trivial⟩]
def SS(c:p7)(i:Nat):Bool:=!j3 ([c.2.1,c.2.2.1,c.2.2.2.1,c.2.2.2.2].getD i 0) 100 5000
theorem r84(c:p7)(q:wf u5 c):Ca c=some (F2 c):=by
 unfold Ca;rw[lE];have b:=C4 (n:=4) (by decide) (SS c) (some false) (e:=Jz c ()) (F:=MY [c.2.1,c.2.2.1,c.2.2.2.1,c.2.2.2.2] c) (fun g i hi=>by
  have m:((i:Int)).toNat=i:=rfl;have f:([c.2.1,c.2.2.1,c.2.2.2.1,c.2.2.2.2]:List Int).length=4:=rfl;refine(if_pos (decide_eq_true (by rw[f]; omega))).trans ?_;rw[m,M3,vS,gP ⟨⟨by omega,by rw[f]; omega⟩,hi,rfl,trivial⟩,gP ⟨oo,trivial⟩];rfl) (fun g=>by
  show MY [c.2.1,c.2.2.1,c.2.2.2.1,c.2.2.2.2] c g (((4:Nat):Int))=_;rw[MY];exact if_neg (by simp))
 refine b.trans ?_;have j:Jz c ()=some (D5 c.1&&decide (c.2.1<=c.2.2.1)&&decide (c.2.2.2.1<=c.2.2.2.2)):=by
  unfold Jz;rw[NY _ q.1,vS,gP ⟨rfl,trivial⟩]
 rw[j];have k:(List.range 4).any (SS c)=(!j3 c.2.1 100 5000||(!j3 c.2.2.1 100 5000||(!j3 c.2.2.2.1 100 5000||(!j3 c.2.2.2.2 100 5000||false)))):=rfl;have l:(if(List.range 4).any (SS c)=true then false else(D5 c.1&&decide (c.2.1<=c.2.2.1)&&decide (c.2.2.2.1<=c.2.2.2.2)))=F2 c:=by
  rw[k,Bool.eq_iff_iff];unfold F2 j3;by_cases h:(!(decide (100<=c.2.1)&&decide (c.2.1<=5000))||(!(decide (100<=c.2.2.1)&&decide (c.2.2.1<=5000))||(!(decide (100<=c.2.2.2.1)&&decide (c.2.2.2.1<=5000))||(!(decide (100<=c.2.2.2.2)&&decide (c.2.2.2.2<=5000))||false))))=true
  ·rw[if_pos h];simp only[Bool.or_eq_true,Bool.not_eq_true',Bool.and_eq_false_iff,decide_eq_false_iff_not,Bool.false_eq_true,or_false] at h;simp only[ba,dq,Bool.false_eq_true,false_iff];rintro⟨⟨_,a⟩,d⟩;omega
  ·rw[if_neg h];simp only[Bool.or_eq_true,Bool.not_eq_true',Bool.and_eq_false_iff,decide_eq_false_iff_not,Bool.false_eq_true,or_false] at h;simp only[ba,dq];constructor
   ·rintro⟨⟨a,d⟩,o⟩;exact⟨⟨a,by omega⟩,by omega⟩
   ·rintro⟨⟨a,d⟩,o⟩;exact⟨⟨a,by omega⟩,by omega⟩
 rw[<- l];split <;> rfl
end Go.Proofs.YtechodbafnmddaaGreatDoor
end
section
namespace Go.Proofs.YtechodbafnmddaaGreatDoor
open Go Go.Proofs Go.Proofs.Xv Go.Proofs.Xl Go.Proofs.Xd
theorem HB{a b:Int}(m:Int)(c:0<=a)(d:0<b):0<=m5 a b m:=by
 unfold m5;have f:=Int.emod_nonneg a (Int.ne_of_gt d);have e:0<=a / b:=Int.ediv_nonneg c (Int.le_of_lt d);rw[Int.tdiv_eq_ediv_of_nonneg c,Int.tmod_eq_emod_of_nonneg c,if_neg (by rw[ba,dq]; omega)];split <;> omega
theorem t0b(xs:List Int):∀n i,i<=n->fN (fun i m=>min m (xs.getD (i+1) 0)) n (xs.getD 0 0)<=xs.getD i 0
 | 0,i,h=>by
   have:i=0:=by omega
   subst this;exact Int.le_refl _
 | n+1,i,h=>by
   show min (fN (fun i m=>min m (xs.getD (i+1) 0)) n (xs.getD 0 0)) (xs.getD (n+1) 0)<=_;rcases Nat.lt_or_ge n i with a | a
   ·have:i=n+1:=by omega
    subst this;omega
   ·have:=t0b xs n i a;omega
theorem Oo{l:List Cj}(h:C1 l true=true){t:Cj}(b:t∈l):∀i,i<t.2.2.length->0<=t.2.2.getD i 0:=fun i hi=>by
 unfold C1 at h;rw[ba] at h;have:=List.all_eq_true.1 h.2 t b;simp only[Bool.true_and,ba,Bool.not_eq_true',decide_eq_false_iff_not] at this;have c:=t0b t.2.2 (t.2.2.length-1) i (by omega);have a:¬W5 t.2.2<0:=this.2;unfold W5 at a;omega
theorem Oq{t:m4}(g:∀i,i<t.2.2.length->0<=t.2.2.getD i 0){r q:Nat}{w c d:Int}(a:0<=w)(e:0<=c)(f:0<=d):0<=l7 t r q w c d:=by
 have b:∀r q,0<=D8 t r q:=fun r q=>by
  unfold D8;rcases Nat.lt_or_ge (r*t.2.1.length+q) t.2.2.length with h | h
  ·exact g _ h
  ·rw[gq,List.getElem?_eq_none h]; exact Int.le_refl _
 unfold l7;have k:=Int.mul_nonneg (Int.mul_nonneg (b r q) a) e;have j:=Int.mul_nonneg (Int.mul_nonneg (b r (q+1)) a) f;omega
theorem p0f{t:m4}(h:x4 t=true)(F:∀i,i<t.2.2.length->0<=t.2.2.getD i 0)(s l m:Int):∀r,F5 t s l m=some r->0<=r:=by
 intro r z;have k:C0 t.1=true/\C0 t.2.1=true:=by
  simp only[x4,ba] at h;exact⟨h.1.1.1,h.1.1.2⟩
 obtain⟨p,a,b,L,j,E,Y,H⟩:=FN s k.1;obtain⟨q,c,d,M,o,n,X,P⟩:=FN l k.2;have g:0<=a/\0<=b/\1<=a+b/\a+b<=100000/\a<=100000/\b<=100000/\(b≠0->p+1<t.1.length):=by
  rcases E with ⟨rfl,rfl,_⟩ | ⟨_,_,_,_,_⟩ <;> omega
 have e:0<=c/\0<=d/\1<=c+d/\c+d<=100000:=by
  rcases n with ⟨rfl,rfl,_⟩ | ⟨_,_,_,_,_⟩ <;> omega
 have Q:=F6 (A:=100000) (B:=100000) (x:=a+b) (y:=c+d) (by omega) (by omega) (by omega) (by omega) (by decide);have f:0 < (a+b)*(c+d):=Int.mul_pos (by omega) (by omega);have T:=Hz h j o n (w:=a) (by omega);have x2 : -(1000000*(b*(c+d)))<=(if b=0 then 0 else l7 t (p+1) q b c d)/\(if b=0 then 0 else l7 t (p+1) q b c d)<=1000000*(b*(c+d)):=by
  by_cases hz:b=0
  ·rw[if_pos hz,hz,Int.zero_mul]; decide
  ·rw[if_neg hz]; exact Hz h (g.2.2.2.2.2.2 hz) o n (by omega)
 have W:=Oq F (r:=p) (q:=q) g.1 e.1 e.2.1;have y2:0<=(if b=0 then 0 else l7 t (p+1) q b c d):=by
  split
  ·exact Int.le_refl _
  ·exact Oq F g.2.1 e.1 e.2.1
 have V:1000000*((a+b)*(c+d))=1000000*(a*(c+d))+1000000*(b*(c+d)):=by rw[Int.add_mul,Int.mul_add 1000000]
 have u:=(N6 (l7 t p q a c d+(if b=0 then 0 else l7 t (p+1) q b c d)) ((a+b)*(c+d)) m (by omega) (by omega) f).1;have G:b7 ((a+b)*(c+d)):=oo;have v:F5 t s l m=some (m5 (l7 t p q a c d+(if b=0 then 0 else l7 t (p+1) q b c d)) ((a+b)*(c+d)) m):=by
  unfold F5;rw[H,gP ⟨rfl,trivial⟩,vS,lE,P,gP ⟨rfl,trivial⟩,vS,lE,SP h j o E n,GR,u,gP ⟨G,rfl,trivial⟩,vS,lE]
 rw[v] at z;cases z;exact HB m (by omega) f
end Go.Proofs.YtechodbafnmddaaGreatDoor
end
section
namespace Go.Proofs.YtechodbafnmddaaGreatDoor
open Go Go.Proofs Go.Proofs.Sv Go.Proofs.Xv Go.Proofs.Xl Go.Proofs.Xd
theorem Ot{a:Int}(m:Int)(h:0<=a):m5 a 1000 m=if 0<a % 1000/\m=1 then a / 1000+1 else a / 1000:=by
 unfold m5;have b:=Int.emod_nonneg a (show(1000:Int)≠0 by decide);rw[Int.tdiv_eq_ediv_of_nonneg h,Int.tmod_eq_emod_of_nonneg h,if_neg (by rw[ba,dq]; omega)];by_cases c:0<a % 1000/\m=1
 ·rw[if_pos c,if_pos (by rw[ba,dq,beq_iff_eq]; exact c)]
 ·rw[if_neg c,if_neg (by rw[ba,dq,beq_iff_eq]; exact c)]
theorem t0M{a b:Int}(m:Int)(h:0<=a)(c:a<=b):m5 a 1000 m<=m5 b 1000 m:=by
 rw[Ot m h,Ot m (by omega)];split <;> split <;> omega
theorem SU{a b:Int}(h:0<=a)(c:a<=b):m5 a 1000 0<=m5 b 1000 1:=by
 rw[Ot 0 h,Ot 1 (by omega)];rw[if_neg (by omega)];split <;> omega
theorem s0Z{p x y:Int}(a:0<=p)(h:x<=y):p*x<=p*y:=Int.mul_le_mul_of_nonneg_left h a
section
variable {b:j0}
structure R0u(b:j0)(q:Int)(B:Int->Int->Int):Prop where
 bd:∀s m,0<=B s m/\B s m<=1000000
 val:∀c,F2 c=true->∀s m,H4 (l5 b) c q s m=some (m5 (B s m*w6 c ((lV b).getD q.toNat (a6 y138)).2.2.1 m) 1000 m)
theorem B0H(W:p9 b=true){q:Int}(w:j3 q 0 (((lV b).length:Int)-1)=true):∃B,R0u b q B:=by
 have w:=r6.1 w;have i:ix q (l5 b).2.2.1.length:=⟨w.1,by show q < ((lV b).length:Int); omega⟩;generalize hl:(lV b).getD q.toNat (a6 y138)=l;have j:(l5 b).2.2.1.getD q.toNat (a6 y138)=l:=hl;have f:l∈lV b:=by rw[<- hl]; exact H0 (by omega)
 have e:∀(c:p7) (m p:Int),F2 c=true -> -1000000<=p->p<=1000000->V9 c l m p=some (m5 (p*w6 c l.2.2.1 m) 1000 m):=fun c m p g p0 p1=>by
  have hf:=Cv g l.2.2.1 m;have hp:=F6 (A:=1000000) (B:=5000) (x:=p) (y:=w6 c l.2.2.1 m) (by omega) (by omega) (by omega) (by omega) (by decide);have V:=N6 (p*w6 c l.2.2.1 m) 1000 m (by omega) (by omega) (by decide);have z:V8 p (w6 c l.2.2.1 m) m=some (m5 (p*w6 c l.2.2.1 m) 1000 m):=by
   unfold V8;rw[V.1,vS,gP ⟨oo,rfl,trivial⟩,lE]
  rw[V9,LH,vS,z,vS,gP ⟨rfl,rfl,trivial⟩,lE]
 rcases FI W f with ⟨a,n,h⟩ | ⟨n,k,h⟩
 ·obtain⟨u,E⟩:=BA h.del h.trs;have P:(l.2.1.tmod 2).toNat<a.2.2.2.2.1.length:=by have:=u.1; have:=u.2; omega
  have t:=Oo h.del (H0 (d:=a6 y269) P);obtain⟨Q,F⟩:=FO b h.nlt;refine⟨fun s m=>vl (F5 (a.2.2.2.2.1.getD (l.2.1.tmod 2).toNat (a6 y269)) s ((q9 b n).getD 0 0) m),⟨fun s m=>?_,fun c g s m=>?_⟩⟩
  ·obtain⟨r,o,l2,X,T⟩:=HA E s ((q9 b n).getD 0 0) m;have:=p0f E t s ((q9 b n).getD 0 0) m r o;rw[o,vS];omega
  ·obtain⟨r,o,l2,X,T⟩:=HA E s ((q9 b n).getD 0 0) m;show _=some (m5 (vl (F5 (a.2.2.2.2.1.getD (l.2.1.tmod 2).toNat (a6 y269)) s ((q9 b n).getD 0 0) m)*w6 c ((lV b).getD q.toNat (a6 y138)).2.2.1 m) 1000 m);rw[hl];unfold H4;refine(gP ⟨i,trivial⟩).trans ?_;rw[lE,j,S5 h.pix h.net,vS,gP ⟨rfl,trivial⟩,lE];refine(if_pos (by rw[h.kind]; rfl)).trans ?_;rw[FJ h,vS,Q,o,vS];refine(gP ⟨rfl,by decide,u,F,rfl,trivial⟩).trans ?_;rw[lE];exact e c m r g X T
 ·have no:=Ac W h.nlt;obtain⟨dl,db⟩:=no.delays;have V:=db (o3 b n k).toNat;obtain⟨Q,F⟩:=FP b h.nlt;have aA:=FE b n;have v:=h.klt;have Y:((k:Int)).toNat=k:=rfl;have G:=fun m=>Dr (a:=(r8 b n).getD (o3 b n k).toNat 0) (b:=1000) (K:=301000) m (by decide) (by omega) (by omega);have H:=fun m=>HB (a:=(r8 b n).getD (o3 b n k).toNat 0) (b:=1000) m (by omega) (by decide);refine⟨fun _ m=>m5 ((r8 b n).getD (o3 b n k).toNat 0) 1000 m,⟨fun s m=>⟨H m,by have:=(G m).2; omega⟩,fun c g s m=>?_⟩⟩;show _=some (m5 (m5 ((r8 b n).getD (o3 b n k).toNat 0) 1000 m*w6 c ((lV b).getD q.toNat (a6 y138)).2.2.1 m) 1000 m);rw[hl];unfold H4;refine(gP ⟨i,trivial⟩).trans ?_;rw[lE,j,S5 h.pix h.net,vS,gP ⟨rfl,trivial⟩,lE];refine(if_neg (by rw[h.kind]; decide)).trans ?_;rw[Q,h.idx,Y,FD v,(N6 _ 1000 m (by omega) (by omega) (by decide)).1,vS];refine(gP ⟨F,oo,rfl,trivial⟩).trans ?_;rw[lE];exact e c m _ g (by have:=G m; omega) (by have:=G m; omega)
end
theorem B0Q{a b c:Int}(g:0<=a)(d:0<b)(h:a<=c*b):m5 a b 1<=c:=by
 rw[Af g d];have e:=Int.mul_ediv_add_emod a b;split
 ·rename_i hz;rcases Int.lt_or_le (a / b) c with f | f
  ·omega
  ·have:=Int.mul_le_mul_of_nonneg_right f (show 0<=b by omega);have:b*(a / b)=a / b*b:=Int.mul_comm _ _;omega
 ·exact Int.ediv_le_of_le_mul d h
theorem B0q{a b:Int}(d:0<=a)(c:0<b):a<=m5 a b 1*b:=by
 rw[Af d c];have e:=Int.mul_ediv_add_emod a b;have g:=Int.emod_lt_of_pos a c;have f:=Int.emod_nonneg a (show b≠0 by omega);have:b*(a / b)=a / b*b:=Int.mul_comm _ _;split
 ·grind
 ·omega
theorem HC{a b c d:Int}(i:0<=a)(g:0<b)(j:0<=c)(e:0<d)(h:a*d<=c*b){m:Int}(l:m=0∨m=1):m5 a b m<=m5 c d m:=by
 rcases l with rfl | rfl
 ·rw[Cs i g,Cs j e,Int.le_ediv_iff_mul_le e];have k:=Int.mul_le_mul_of_nonneg_right (Int.ediv_mul_le a (show b≠0 by omega)) (show 0<=d by omega);have f:a / b*d*b<=c*b:=by rw[Int.mul_assoc,Int.mul_comm d b,<- Int.mul_assoc]; omega
  exact Int.le_of_mul_le_mul_right f g
 ·refine B0Q i g ?_;have k:=Int.mul_le_mul_of_nonneg_right (B0q j e) (show 0<=b by omega);have f:a*d<=m5 c d 1*b*d:=by rw[Int.mul_assoc,Int.mul_comm b d,<- Int.mul_assoc]; omega
  exact Int.le_of_mul_le_mul_right f e
theorem B0y{a b:Int}(d:0<=a)(c:0<b):m5 a b 0<=m5 a b 1:=by
 grind[Cs,Af]
theorem C0H{xs:List Int}(h:C0 xs=true){p:Nat}(a:p<xs.length):J7 xs (xs.getD p 0)=some ([((p:Int),1)],1):=by
 obtain⟨k,l⟩:=Bu h;have c:((xs.length:Int)-1).toNat=xs.length-1:=by omega
 have j:xs.getD 0 0<=xs.getD p 0:=by
  rcases Nat.eq_zero_or_pos p with e | e
  ·grind
  ·have:=Bz h e a; omega
 have m:xs.getD p 0<=xs.getD (xs.length-1) 0:=by
  rcases Nat.lt_or_ge p (xs.length-1) with e | e
  ·have:=Bz h e (by omega); omega
  ·grind
 have b:r5 xs (xs.getD p 0)=xs.getD p 0:=by unfold r5; omega
 have g:∀i,i<p->xs.getD i 0<r5 xs (xs.getD p 0):=fun i hi=>by rw[b]; exact Bz h hi a
 have d:∀i,p<=i->i<xs.length->r5 xs (xs.getD p 0)<=xs.getD i 0:=fun i hi f=>by
  rw[b];rcases Nat.eq_or_lt_of_le hi with e | e
  ·grind
  ·have:=Bz h e f; omega
 unfold J7;rw[gP ⟨oo,oo,oo,trivial⟩,c];change lt (r5 xs (xs.getD p 0)) _=_;rw[lE,LF (by omega) a g d,gP ⟨rfl,trivial⟩,vS,lE,if_pos (by grind)]
theorem Ou{t:m4}(k:x4 t=true)(_:∀i,i<t.2.2.length->0<=t.2.2.getD i 0){s l:Int}{p q:Nat}{a b c d:Int}{L M:List (Int×Int)}(f:p<t.1.length)(o:Sh t.1.length p a b L)(u:J7 t.1 s=some (L,a+b))(h:q<t.2.1.length)(g:Sh t.2.1.length q c d M)(v:J7 t.2.1 l=some (M,c+d))(m:Int) :
  F5 t s l m=some (m5 (l7 t p q a c d+(if b=0 then 0 else l7 t (p+1) q b c d)) ((a+b)*(c+d)) m):=by
 have j:0<=a/\0<=b/\1<=a+b/\a+b<=100000/\a<=100000/\b<=100000/\(b≠0->p+1<t.1.length):=by
  rcases o with ⟨rfl,rfl,_⟩ | ⟨_,_,_,_,_⟩ <;> omega
 have r:0<=c/\0<=d/\1<=c+d/\c+d<=100000:=by
  rcases g with ⟨rfl,rfl,_⟩ | ⟨_,_,_,_,_⟩ <;> omega
 have F:=F6 (A:=100000) (B:=100000) (x:=a+b) (y:=c+d) (by omega) (by omega) (by omega) (by omega) (by decide);have e:0 < (a+b)*(c+d):=Int.mul_pos (by omega) (by omega);have G:=Hz k f h g (w:=a) (by omega);have E : -(1000000*(b*(c+d)))<=(if b=0 then 0 else l7 t (p+1) q b c d)/\(if b=0 then 0 else l7 t (p+1) q b c d)<=1000000*(b*(c+d)):=by
  by_cases hz:b=0
  ·grind
  ·rw[if_neg hz]; exact Hz k (j.2.2.2.2.2.2 hz) h g (by omega)
 have H:1000000*((a+b)*(c+d))=1000000*(a*(c+d))+1000000*(b*(c+d)):=by grind
 have n:=(N6 (l7 t p q a c d+(if b=0 then 0 else l7 t (p+1) q b c d)) ((a+b)*(c+d)) m (by omega) (by omega) e).1;have z:b7 ((a+b)*(c+d)):=oo;unfold F5;rw[u,gP ⟨rfl,trivial⟩,vS,lE,v,gP ⟨rfl,trivial⟩,vS,lE,SP k f h o g,GR,n,gP ⟨z,rfl,trivial⟩,vS,lE]
theorem LI(t:m4)(r q:Nat)(w c d:Int):l7 t r q w c d=w*l7 t r q 1 c d:=by
 grind[l7]
structure LJ(t:m4)(l:Int)(V:Int->Int->Int):Prop where
 val:∀s m,F5 t s l m=some (V s m)
 pos:∀s m,0<=V s m
 two:∀s,V s 0<=V s 1
 lo:∀s,∃i,i<t.1.length/\V (t.1.getD i 0) 0<=V s 0
 hi:∀s,∃i,i<t.1.length/\V s 1<=V (t.1.getD i 0) 1
theorem B0k{t:m4}(z:x4 t=true)(H:∀i,i<t.2.2.length->0<=t.2.2.getD i 0)(l:Int):∃V,LJ t l V:=by
 have w:C0 t.1=true/\C0 t.2.1=true:=by
  simp only[x4,ba] at z;exact⟨z.1.1.1,z.1.1.2⟩
 obtain⟨q,c,d,M,P,G,X,T⟩:=FN l w.2;have x:0<=c/\0<=d/\1<=c+d/\c+d<=100000:=by
  rcases G with ⟨rfl,rfl,_⟩ | ⟨_,_,_,_,_⟩ <;> omega
 have F:∀r,0<=l7 t r q 1 c d:=fun r=>Oq H (by decide) x.1 x.2.1;have j:∀s,∃(p:Nat) (a b:Int),p<t.1.length/\0<=a/\0<=b/\1<=a+b/\(b≠0->p+1<t.1.length)/\∀m,F5 t s l m=some (m5 (a*l7 t p q 1 c d+b*l7 t (p+1) q 1 c d) ((a+b)*(c+d)) m):=fun s=>by
  obtain⟨p,a,b,L,g,Q,Y,W⟩:=FN s w.1;have e:0<=a/\0<=b/\1<=a+b/\(b≠0->p+1<t.1.length):=by
   rcases Q with ⟨rfl,rfl,_⟩ | ⟨_,_,_,_,_⟩ <;> omega
  refine⟨p,a,b,g,e.1,e.2.1,e.2.2.1,e.2.2.2,fun m=>?_⟩;rw[Ou z H g Q W P G T m];by_cases hz:b=0
  ·rw[if_pos hz,LI t p q a,hz,Int.zero_mul]
  ·rw[if_neg hz,LI t p q a,LI t (p+1) q b]
 have E:∀p,p<t.1.length->∀m,F5 t (t.1.getD p 0) l m=some (m5 (l7 t p q 1 c d) (c+d) m):=fun p g m=>by
  have:=Ou z H (a:=1) (b:=0) g (.inl ⟨rfl,rfl,rfl⟩) (C0H w.1 g) P G T m;rw[this,if_pos rfl,Int.add_zero,Int.add_zero,Int.one_mul]
 have u:∀{a b:Int} (p:Nat),0<=a->0<=b->0<=a*l7 t p q 1 c d+b*l7 t (p+1) q 1 c d:=fun p n k=>by
  have:=Int.mul_nonneg n (F p);have:=Int.mul_nonneg k (F (p+1));omega
 have c7:∀{a b:Int},1<=a+b->0 < (a+b)*(c+d):=fun h=>Int.mul_pos (by omega) (by omega);refine⟨fun s m=>vl (F5 t s l m),⟨fun s m=>?_,fun s m=>?_,fun s=>?_,fun s=>?_,fun s=>?_⟩⟩
 ·obtain⟨p,a,b,_,_,_,_,_,h⟩:=j s
  grind[vl,F5,vS]
 ·obtain⟨p,a,b,_,n,k,e,_,h⟩:=j s;show 0<=vl (F5 t s l m);rw[h,vS];exact HB m (u p n k) (c7 e)
 ·obtain⟨p,a,b,_,n,k,e,_,h⟩:=j s;show vl (F5 t s l 0)<=vl (F5 t s l 1);rw[h,h,vS,vS];exact B0y (u p n k) (c7 e)
 ·obtain⟨p,a,b,g,n,k,e,v,h⟩:=j s;have o:∀r,r<t.1.length->(a+b)*l7 t r q 1 c d<=a*l7 t p q 1 c d+b*l7 t (p+1) q 1 c d->∃i,i<t.1.length/\vl (F5 t (t.1.getD i 0) l 0)<=vl (F5 t s l 0):=fun r y f=>by
   refine⟨r,y,?_⟩;rw[h,E r y,vS,vS];refine HC (F r) (by omega) (u p n k) (c7 e) ?_ (.inl rfl);have:=Int.mul_le_mul_of_nonneg_right f (show 0<=c+d by omega)
   grind
  by_cases hz:b=0
  ·grind
  ·rcases Int.le_total (l7 t p q 1 c d) (l7 t (p+1) q 1 c d) with f | f
   ·refine o p g ?_;have:=Int.mul_le_mul_of_nonneg_left f k
    grind
   ·refine o (p+1) (v hz) ?_;have:=Int.mul_le_mul_of_nonneg_left f n
    grind
 ·obtain⟨p,a,b,g,n,k,e,v,h⟩:=j s;have o:∀r,r<t.1.length->a*l7 t p q 1 c d+b*l7 t (p+1) q 1 c d<=(a+b)*l7 t r q 1 c d->∃i,i<t.1.length/\vl (F5 t s l 1)<=vl (F5 t (t.1.getD i 0) l 1):=fun r y f=>by
   refine⟨r,y,?_⟩;rw[h,E r y,vS,vS];refine HC (u p n k) (c7 e) (F r) (by omega) ?_ (.inr rfl);have:=Int.mul_le_mul_of_nonneg_right f (show 0<=c+d by omega)
   grind
  by_cases hz:b=0
  ·grind
  ·rcases Int.le_total (l7 t p q 1 c d) (l7 t (p+1) q 1 c d) with f | f
   ·refine o (p+1) (v hz) ?_;have:=Int.mul_le_mul_of_nonneg_left f n
    grind
   ·refine o p g ?_;have:=Int.mul_le_mul_of_nonneg_left f k
    grind
theorem r0m{s d:Int}(e:0<=s)(t:s<=1000000)(c:0<=d)(v:d<=301000000):∃r z,O5 s d 0=some r/\O5 s d 1=some z/\r<=z:=by
 obtain⟨k,w,u⟩:=Ol s d;have o:=F6 (A:=1000000) (B:=1000000) (x:=s) (y:=s) (by omega) (by omega) (by omega) (by omega) (by decide);have q:=F6 (A:=301000000) (B:=301000000) (x:=d) (y:=d) (by omega) (by omega) (by omega) (by omega) (by decide);have g:0<=s*s:=Int.mul_nonneg e e;have f:0<=d*d:=Int.mul_nonneg c c;obtain⟨R,l,h,j⟩:=SK (n:=250000*(s*s)+d*d) (by omega) (by omega);have a:=l.1;have i:=F6 (A:=3000000000) (B:=3000000000) (x:=R) (y:=R) (by omega) (by omega) (by omega) (by omega) (by decide);have b:∀m,O5 s d m=some (J4 (250000*(s*s)+d*d) m R):=fun m=>by
  unfold O5;rw[k,j,vS,gP ⟨oo,oo,oo,oo,oo,trivial⟩,gP ⟨rfl,trivial⟩,lE,gP ⟨(fun _=>oo),trivial⟩];unfold J4;split
  ·have:R.tdiv 500=R / 500:=Int.tdiv_eq_ediv_of_nonneg a;exact gP ⟨by decide,oo,trivial⟩
  ·rw[(N6 R 500 m (by omega) (by omega) (by decide)).1,vS,gP ⟨rfl,trivial⟩,lE]
 refine⟨_,_,b 0,b 1,?_⟩;unfold J4;rw[if_neg (by simp),Cs a (by decide)]
 grind[Int.tdiv_eq_ediv_of_nonneg,Af]
def F3(s:Int×Int):Bool:=j3 s.1 (-1000000000) 1000000000&&j3 s.2 (-1000000000) 1000000000&&decide (s.1<=s.2)
def F4(s:Int×Int):Bool:=F3 s&&j3 s.1 0 1000000&&j3 s.2 0 1000000
theorem I0R(s:Int×Int):Z2 s=some (F4 s):=by
 have e:∀x,CV x=some (j3 x (-1000000000) 1000000000):=fun _=>rfl;have a:I2 s=some (F3 s):=by
  unfold I2;rw[e,e,vS,vS];exact gP ⟨rfl,fun _=>rfl,trivial⟩
 unfold Z2;rw[a,vS,J0s,J0s,vS,vS];exact gP ⟨rfl,fun _=>rfl,fun _=>rfl,trivial⟩
theorem Ov(s:Int×Int):Z2 s=some (F4 s)/\Bm s=some (F4 s):=by
 refine⟨I0R s,?_⟩;unfold Bm;refine congrArg some ?_;unfold F4 F3 j3;rw[Bool.eq_iff_iff];simp only[ba,dq];omega
theorem q0I{b:j0}(e:wf j7 b)(d:p9 b=true){c:p7}(h:F2 c=true){q:Int}(a:j3 q 0 (((lV b).length:Int)-1)=true)(sp:Int×Int)(g:F4 sp=true) :
  ∃v:(Int×Int)×Int×Int,Cf (l5 b) c q sp=some v/\GH b c ((lV b).getD q.toNat (a6 y138)) sp=some v:=by
 unfold F4 at g;rw[ba,ba] at g;have i:=r6.1 g.1.2;have f:=r6.1 g.2;have j:=r6.1 a;have k:ix q (l5 b).2.2.1.length:=⟨j.1,by show q < ((lV b).length:Int); omega⟩;obtain⟨o,X,Y,_⟩:=On e d h a sp.1 0;obtain⟨r,w,s,_⟩:=On e d h a sp.2 0;obtain⟨l,y,Q,_⟩:=On e d h a sp.1 1;obtain⟨n,T,x,_⟩:=On e d h a sp.2 1;obtain⟨E,u,G,_⟩:=LG e d a i.1 i.2 (m:=0) (.inl rfl);obtain⟨W,V,f2,_⟩:=LG e d a f.1 f.2 (m:=0) (.inl rfl);obtain⟨s3,H,F,_⟩:=LG e d a i.1 i.2 (m:=1) (.inr rfl);obtain⟨P,t,z,_⟩:=LG e d a f.1 f.2 (m:=1) (.inr rfl);refine⟨((min o r,max l n),min E W,max s3 P),?_,?_⟩
 ·unfold Cf;rw[X,w,y,T];refine(gP ⟨rfl,rfl,rfl,rfl,trivial⟩).trans ?_;rw[lE];refine(gP ⟨k,trivial⟩).trans ?_;rw[lE];refine(if_neg ?_).trans ?_
  ·show ¬(decide ((0:Int)<0)&&_)=true;simp
  ·show Ff (l5 b) q sp (min o r,max l n)=_;rw[Ff,u,V,H,t];rfl
 ·unfold GH;rw[Y,Q,G,F,s,x,f2,z];rfl
section
variable {b:j0}
theorem p0r(_:p9 b=true){q:Int}(d:j3 q 0 (((lV b).length:Int)-1)=true){a:A7}{n:Nat}(h:LD b ((lV b).getD q.toNat (a6 y138)) a n){V:Int->Int->Int}(e:LJ (a.2.2.2.2.1.getD (((lV b).getD q.toNat (a6 y138)).2.1.tmod 2).toNat (a6 y269)) ((q9 b n).getD 0 0) V)(g:∀s m,V s m<=1000000){c:p7}(t:F2 c=true)(s m:Int) :
  H4 (l5 b) c q s m=some (m5 (V s m*w6 c ((lV b).getD q.toNat (a6 y138)).2.2.1 m) 1000 m):=by
 have d:=r6.1 d;have f:ix q (l5 b).2.2.1.length:=⟨d.1,by show q < ((lV b).length:Int); omega⟩;generalize hl:(lV b).getD q.toNat (a6 y138)=l at h e;have j:(l5 b).2.2.1.getD q.toNat (a6 y138)=l:=hl;have v:=e.pos s m;have w:=g s m;have z:=Cv t l.2.2.1 m;have E:=F6 (A:=1000000) (B:=5000) (x:=V s m) (y:=w6 c l.2.2.1 m) (by omega) (by omega) (by omega) (by omega) (by decide);have r:=N6 (V s m*w6 c l.2.2.1 m) 1000 m (by omega) (by omega) (by decide);have i:V8 (V s m) (w6 c l.2.2.1 m) m=some (m5 (V s m*w6 c l.2.2.1 m) 1000 m):=by
  unfold V8;rw[r.1,vS,gP ⟨oo,rfl,trivial⟩,lE]
 obtain⟨k,F⟩:=BA h.del h.trs;obtain⟨o,u⟩:=FO b h.nlt;unfold H4;refine(gP ⟨f,trivial⟩).trans ?_;rw[lE,j,S5 h.pix h.net,vS,gP ⟨rfl,trivial⟩,lE];refine(if_pos (by rw[h.kind]; rfl)).trans ?_;rw[FJ h,vS,o,e.val,vS];refine(gP ⟨rfl,by decide,k,u,rfl,trivial⟩).trans ?_;rw[lE];show V9 c l m (V s m)=_;rw[V9,LH,vS,i,vS,gP ⟨rfl,rfl,trivial⟩,lE]
theorem Ow(_:p9 b=true){T:List m4}(g:C1 T true=true){x:Int}(j:x=0∨x=1)(l:Int):∃V,LJ (T.getD x.toNat (a6 y269)) l V/\∀s m,V s m<=1000000:=by
 obtain⟨c,f⟩:=BA g j;have a:x.toNat<T.length:=by have:=c.1; have:=c.2; omega
 obtain⟨V,e⟩:=B0k f (Oo g (H0 (d:=a6 y269) a)) l;refine⟨V,e,fun s m=>?_⟩;obtain⟨r,h,_,_,i⟩:=HA f s l m;have:=e.val s m;rw[h] at this;cases this;exact i
theorem v0x(_:wf j7 b)(i:p9 b=true){q:Int}(G:j3 q 0 (((lV b).length:Int)-1)=true){s:Int}(F:0<=s)(P:s<=1000000):∃r z,B4 (l5 b) q s 0=some r/\B4 (l5 b) q s 1=some z/\r<=z:=by
 obtain⟨E,Y⟩:=SR G;have e:ix q (l5 b).2.2.1.length:=E;have d:(lV b).getD q.toNat (a6 y138)∈lV b:=H0 Y;rcases FI i d with ⟨a,n,h⟩ | ⟨n,k,h⟩
 ·obtain⟨V,t,o⟩:=Ow i h.slw h.trs ((q9 b n).getD 0 0);obtain⟨u,Q⟩:=BA h.slw h.trs;obtain⟨f,g⟩:=FO b h.nlt;generalize hl:(lV b).getD q.toNat (a6 y138)=l at h t u Q f g;have c:(l5 b).2.2.1.getD q.toNat (a6 y138)=l:=hl;have val:∀m,B4 (l5 b) q s m=some (V s m):=fun m=>by
   unfold B4;refine(gP ⟨e,trivial⟩).trans ?_;rw[lE,c,S5 h.pix h.net,vS,gP ⟨rfl,trivial⟩,lE];refine(if_pos (by rw[h.kind]; rfl)).trans ?_;rw[FJ h,vS,f,t.val,vS];refine(gP ⟨rfl,by decide,u,g,rfl,trivial⟩).trans ?_;rw[lE];have:=o s m;have:min (V s m) 1000000=V s m:=by omega
   rw[this]
  exact⟨_,_,val 0,val 1,t.two s⟩
 ·have W:=Ac i h.nlt;obtain⟨dl,y⟩:=W.delays;have v:=y (o3 b n k).toNat;obtain⟨f,g⟩:=FP b h.nlt;have X:=FE b n;have j:=h.klt;generalize hl:(lV b).getD q.toNat (a6 y138)=l at h;have c:(l5 b).2.2.1.getD q.toNat (a6 y138)=l:=hl;obtain⟨r,z,T,H,w3⟩:=r0m F P v.1 v.2;have val:∀m r,O5 s ((r8 b n).getD (o3 b n k).toNat 0) m=some r->B4 (l5 b) q s m=some (min r 1000000):=fun m r w=>by
   unfold B4;refine(gP ⟨e,trivial⟩).trans ?_;rw[lE,c,S5 h.pix h.net,vS,gP ⟨rfl,trivial⟩,lE];refine(if_neg (by rw[h.kind]; decide)).trans ?_;rw[f,h.idx];have x:((k:Int)).toNat=k:=rfl;rw[x,FD j,w,vS];refine(gP ⟨g,oo,rfl,trivial⟩).trans ?_;rw[lE]
  exact⟨_,_,val 0 r T,val 1 z H,by omega⟩
end
theorem r0l{xs:List Int}(x:Int)(h:C0 xs=true):∃p:Nat,p<xs.length/\((r5 xs x=xs.getD p 0/\J7 xs x=some ([((p:Int),1)],1)) ∨
  (p+1<xs.length/\xs.getD p 0<r5 xs x/\r5 xs x<xs.getD (p+1) 0/\J7 xs x=some ([((p:Int),xs.getD (p+1) 0-r5 xs x),((p:Int)+1,r5 xs x-xs.getD p 0)],(xs.getD (p+1) 0-r5 xs x)+(r5 xs x-xs.getD p 0)))):=by
 obtain⟨t,s⟩:=Bu h;have f:((xs.length:Int)-1).toNat=xs.length-1:=by omega
 have k:xs.getD 0 0<=r5 xs x:=by
  have:xs.getD 0 0<=xs.getD (xs.length-1) 0:=by
   by_cases v:xs.length=1
   ·grind
   ·have:=Bz h (by omega:0<xs.length-1) (by omega); omega
  unfold r5; omega
 have m:r5 xs x<=xs.getD (xs.length-1) 0:=by unfold r5; omega
 obtain⟨p,a,d,c⟩:=u0g h k m;by_cases g:xs.getD p 0=r5 xs x
 ·refine⟨p,a,.inl ⟨g.symm,?_⟩⟩;unfold J7;rw[gP ⟨oo,oo,oo,trivial⟩,f];change lt (r5 xs x) _=_;rw[lE,LF (by omega) a d c,gP ⟨rfl,trivial⟩,vS,lE,if_pos (by simpa using g)]
 ·have b:r5 xs x<xs.getD p 0:=by have:=c p (Nat.le_refl _) a; omega
  have j:0<p:=by
   apply Nat.pos_of_ne_zero;intro n; subst n; omega
  obtain⟨q,rfl⟩:∃q,p=q+1:=⟨p-1,by omega⟩;have e:=d q (by omega);have u:=LC h a;have r:=LC h (by omega:q<xs.length);have i:(((q+1:Nat):Int))-1=(q:Int):=by omega
  have o:(((q+1:Nat):Int)).toNat=q+1:=rfl;have l:((q:Int)).toNat=q:=rfl;refine⟨q,by omega,.inr ⟨a,e,b,?_⟩⟩;unfold J7;rw[gP ⟨oo,oo,oo,trivial⟩,f];change lt (r5 xs x) _=_;rw[lE,LF (by omega) a d c,gP ⟨rfl,trivial⟩,vS,lE,if_neg (by grind)];simp only[i,o,l];refine(gP ⟨oo,oo,oo,oo,oo,oo,oo,oo,oo,oo,trivial⟩).trans ?_;rw[lE]
  grind
theorem t0n{t:m4}(Y:x4 t=true)(hp:∀i,i<t.2.2.length->0<=t.2.2.getD i 0)(aC:∀r q,r+1<t.1.length->q<t.2.1.length->D8 t r q<=D8 t (r+1) q)(l:Int){V:Int->Int->Int}(hV:LJ t l V){s n m:Int}(hm:m=0∨m=1)(hs:s<=n):V s m<=V n m:=by
 have v:C0 t.1=true/\C0 t.2.1=true:=by
  simp only[x4,ba] at Y;exact⟨Y.1.1.1,Y.1.1.2⟩
 obtain⟨q,c,d,M,hq,hM,h3,h4⟩:=FN l v.2;have u:0<=c/\0<=d/\1<=c+d/\c+d<=100000/\(d≠0->q+1<t.2.1.length):=by
  rcases hM with ⟨rfl,rfl,_⟩ | ⟨_,_,_,_,_⟩ <;> omega
 have Q:∀r,0<=l7 t r q 1 c d:=fun r=>Oq hp (by decide) u.1 u.2.1;have aB:∀r,r+1<t.1.length->l7 t r q 1 c d<=l7 t (r+1) q 1 c d:=fun r hr=>by
  unfold l7;rw[Int.mul_one,Int.mul_one,Int.mul_one,Int.mul_one];have x1:=Int.mul_le_mul_of_nonneg_right (aC r q hr hq) u.1;have x2:D8 t r (q+1)*d<=D8 t (r+1) (q+1)*d:=by
   by_cases hz:d=0
   ·rw[hz,Int.mul_zero,Int.mul_zero]; exact Int.le_refl _
   ·exact Int.mul_le_mul_of_nonneg_right (aC r (q+1) hr (u.2.2.2.2 hz)) u.2.1
  omega
 have aF:∀k r,r+k<t.1.length->l7 t r q 1 c d<=l7 t (r+k) q 1 c d:=by
  intro k
  induction k with
  | zero=>intro r _; exact Int.le_refl _
  | succ k ih =>
    intro r hr;have:=ih r (by omega);have:=aB (r+k) (by omega);rw[show r+(k+1)=r+k+1 by omega];omega
 have f:∀i j,i<=j->j<t.1.length->l7 t i q 1 c d<=l7 t j q 1 c d:=fun i j g P=>by
  have:=aF (j-i) i (by omega);rw[show i+(j-i)=j by omega] at this;exact this
 have G:∀{s:Int} {p:Nat},p<t.1.length->J7 t.1 s=some ([((p:Int),1)],1)->V s m=m5 (l7 t p q 1 c d) (c+d) m:=fun {s p} F h2=>by
  have h1:=Ou Y hp (a:=1) (b:=0) F (.inl ⟨rfl,rfl,rfl⟩) h2 hq hM h4 m;rw[hV.val] at h1;rw[Option.some.inj h1,if_pos rfl,Int.add_zero,Int.add_zero,Int.one_mul]
 have E:∀{s:Int} {p:Nat} {a b:Int},p+1<t.1.length->0<a->0<b->a+b<=100000->J7 t.1 s=some ([((p:Int),a),((p:Int)+1,b)],a+b)->V s m=m5 (a*l7 t p q 1 c d+b*l7 t (p+1) q 1 c d) ((a+b)*(c+d)) m:=fun {s p a b} F X W aH h2=>by
  have h1:=Ou Y hp (a:=a) (b:=b) (show p<t.1.length by omega) (.inr ⟨F,X,W,aH,rfl⟩) h2 hq hM h4 m;rw[hV.val] at h1;rw[Option.some.inj h1,if_neg (by omega),LI t p q a,LI t (p+1) q b]
 have c7:∀{a b:Int},1<=a+b->0 < (a+b)*(c+d):=fun h=>Int.mul_pos (by omega) (by omega);have x:∀{a b:Int} (p:Nat),0<=a->0<=b->0<=a*l7 t p q 1 c d+b*l7 t (p+1) q 1 c d:=fun p X W=>by
  have:=Int.mul_nonneg X (Q p);have:=Int.mul_nonneg W (Q (p+1));omega
 -- below a line, above a line
 have up:∀{a b:Int} (p i:Nat),0<a->0<b->p+1<=i->i<t.1.length->m5 (a*l7 t p q 1 c d+b*l7 t (p+1) q 1 c d) ((a+b)*(c+d)) m<=m5 (l7 t i q 1 c d) (c+d) m:=fun {a b} p i X W H hi=>by
  refine HC (x p (by omega) (by omega)) (c7 (by omega)) (Q i) (by omega) ?_ hm;have x1:=Int.mul_le_mul_of_nonneg_left (f p i (by omega) hi) (show 0<=a by omega);have x2:=Int.mul_le_mul_of_nonneg_left (f (p+1) i H hi) (show 0<=b by omega);have x3:a*l7 t p q 1 c d+b*l7 t (p+1) q 1 c d<=(a+b)*l7 t i q 1 c d:=by rw[Int.add_mul]; omega
  have:=Int.mul_le_mul_of_nonneg_right x3 (show 0<=c+d by omega);rw[<- Int.mul_assoc,Int.mul_comm (l7 t i q 1 c d)];exact this
 have dn:∀{a b:Int} (p i:Nat),0<a->0<b->i<=p->p+1<t.1.length->m5 (l7 t i q 1 c d) (c+d) m<=m5 (a*l7 t p q 1 c d+b*l7 t (p+1) q 1 c d) ((a+b)*(c+d)) m:=fun {a b} p i X W H hi=>by
  refine HC (Q i) (by omega) (x p (by omega) (by omega)) (c7 (by omega)) ?_ hm;have x1:=Int.mul_le_mul_of_nonneg_left (f i p H (by omega)) (show 0<=a by omega);have x2:=Int.mul_le_mul_of_nonneg_left (f i (p+1) (by omega) hi) (show 0<=b by omega);have x3:(a+b)*l7 t i q 1 c d<=a*l7 t p q 1 c d+b*l7 t (p+1) q 1 c d:=by rw[Int.add_mul]; omega
  have:=Int.mul_le_mul_of_nonneg_right x3 (show 0<=c+d by omega);rw[<- Int.mul_assoc,Int.mul_comm (l7 t i q 1 c d)];exact this
 have aG:∀i j,i<=j->j<t.1.length->m5 (l7 t i q 1 c d) (c+d) m<=m5 (l7 t j q 1 c d) (c+d) m:=fun i j g P=>HC (Q i) (by omega) (Q j) (by omega) (Int.mul_le_mul_of_nonneg_right (f i j g P) (show 0<=c+d by omega)) hm
 have hx:r5 t.1 s<=r5 t.1 n:=by unfold r5; omega
 have aA:=fun {i j:Nat} (g:i<j) (P:j<t.1.length)=>Bz v.1 g P;have y:∀{i j:Nat},i<=j->j<t.1.length->t.1.getD i 0<=t.1.getD j 0:=fun {i j} g P=>by
  rcases Nat.eq_or_lt_of_le g with e | e
  ·rw[e]; exact Int.le_refl _
  ·have:=aA e P; omega
 obtain⟨p,p1,p2⟩:=r0l s v.1;obtain⟨o,w,aD⟩:=r0l n v.1;have T:=fun {i:Nat} (hi:i<t.1.length)=>LC v.1 hi;rcases p2 with ⟨e1,w1⟩ | ⟨b1,b2,b3,w1⟩
 ·rw[G p1 w1];rcases aD with ⟨e2,z⟩ | ⟨c1,c2,c3,z⟩
  ·rw[G w z];refine aG p o ?_ w;rcases Nat.lt_or_ge o p with h | h
   ·have:=aA h p1; omega
   ·exact h
  ·have:=T (show o<t.1.length by omega);have:=T c1;rw[E c1 (by omega) (by omega) (by omega) z];refine dn o p (by omega) (by omega) ?_ c1;rcases Nat.lt_or_ge o p with h | h
   ·have:=y (show o+1<=p by omega) p1; omega
   ·exact h
 ·have:=T (show p<t.1.length by omega);have:=T b1;rw[E b1 (by omega) (by omega) (by omega) w1];rcases aD with ⟨e2,z⟩ | ⟨c1,c2,c3,z⟩
  ·rw[G w z];refine up p o (by omega) (by omega) ?_ w;rcases Nat.lt_or_ge p o with h | h
   ·exact h
   ·have:=y h (show p<t.1.length by omega); omega
  ·have:=T (show o<t.1.length by omega);have:=T c1;rw[E c1 (by omega) (by omega) (by omega) z];rcases Nat.lt_trichotomy p o with h | h | h
   ·refine Int.le_trans (up p (p+1) (by omega) (by omega) (Nat.le_refl _) b1) ?_;exact dn o (p+1) (by omega) (by omega) (by omega) c1
   ·subst h;refine HC (x p (by omega) (by omega)) (c7 (by omega)) (x p (by omega) (by omega)) (c7 (by omega)) ?_ hm;have e1:(t.1.getD (p+1) 0-r5 t.1 s)+(r5 t.1 s-t.1.getD p 0)=(t.1.getD (p+1) 0-r5 t.1 n)+(r5 t.1 n-t.1.getD p 0):=by omega
    rw[e1];refine Int.mul_le_mul_of_nonneg_right ?_ (by have:=c7 (a:=t.1.getD (p+1) 0-r5 t.1 n) (b:=r5 t.1 n-t.1.getD p 0) (by omega); omega);obtain⟨k,hk⟩:∃k,r5 t.1 n=r5 t.1 s+k:=⟨r5 t.1 n-r5 t.1 s,by omega⟩;have x1:=Int.mul_le_mul_of_nonneg_left (aB p b1) (show 0<=k by omega);have x2:(t.1.getD (p+1) 0-r5 t.1 n)*l7 t p q 1 c d=(t.1.getD (p+1) 0-r5 t.1 s)*l7 t p q 1 c d-k*l7 t p q 1 c d:=by rw[<- Int.sub_mul]; congr 1; omega
    have x3:(r5 t.1 n-t.1.getD p 0)*l7 t (p+1) q 1 c d=(r5 t.1 s-t.1.getD p 0)*l7 t (p+1) q 1 c d+k*l7 t (p+1) q 1 c d:=by rw[<- Int.add_mul]; congr 1; omega
    omega
   ·have:=y (show o+1<=p by omega) (show p<t.1.length by omega); omega
theorem SI{a b:Int}(e:0<=a)(d:0<=b)(h:a*a<b*b):a<b:=by
 rcases Int.lt_or_le a b with c | c
 ·exact c
 ·have:=Int.mul_le_mul c c d (by omega);omega
theorem r0o{n R:Int}(h:Ae n R):n<=(500*J4 n 1 R)*(500*J4 n 1 R):=by
 obtain⟨c,f,g⟩:=h;have b:∀v,R<500*v∨(R<=500*v/\R*R=n)->n<=(500*v)*(500*v):=fun v a=>by
  rcases a with a | ⟨a,e⟩
  ·have:=Int.mul_le_mul (show R+1<=500*v by omega) (show R+1<=500*v by omega) (by omega) (by omega);omega
  ·have:=Int.mul_le_mul a a c (by omega);omega
 refine b _ ?_;unfold J4;split
 ·grind
 ·rename_i d;simp only[beq_self_eq_true,Bool.true_and,dq] at d;rw[Af c (by decide)];omega
theorem r0n{n R w:Int}(h:Ae n R)(e:0<=w)(g:n<=(500*w)*(500*w)):J4 n 1 R<=w:=by
 obtain⟨b,i,d⟩:=h;unfold J4;split
 ·rename_i a;simp only[beq_self_eq_true,Bool.true_and,dq] at a;have:=SI b (show 0<=500*w by omega) (by omega)
  grind
 ·rename_i a;simp only[beq_self_eq_true,Bool.true_and,dq] at a;have f:R<=500*w:=by
   rcases Int.lt_or_le (500*w) R with c | c
   ·have:=Int.mul_lt_mul' (show 500*w<=R by omega) c (by omega) (by omega);omega
   ·exact c
  grind[Af]
theorem j0K{n R:Int}(a:0<=R):0<=J4 n 1 R:=by
 grind[J4,Int.tdiv_eq_ediv_of_nonneg,Af]
theorem m0O{n b R R' m:Int}(h:Ae n R)(a:Ae b R')(e:n<=b)(d:m=0∨m=1):J4 n m R<=J4 b m R':=by
 rcases d with rfl | rfl
 ·have c:R<=R':=by
   have:=SI h.1 (show 0<=R'+1 by have:=a.1; omega) (by have:=h.2.1; have:=a.2.2; omega);omega
  unfold J4;rw[if_neg (by simp),if_neg (by simp),Cs h.1 (by decide),Cs a.1 (by decide)];omega
 ·exact r0n h (j0K a.1) (by have:=r0o a; omega)
theorem p0N{s c d m:Int}(a:0<=s)(g:s<=c)(j:c<=1000000)(k:0<=d)(H:d<=301000000)(o:m=0∨m=1):∃r z,O5 s d m=some r/\O5 c d m=some z/\r<=z:=by
 have b:∀s,0<=s->s<=1000000->∃R,Ae (250000*(s*s)+d*d) R/\O5 s d m=some (J4 (250000*(s*s)+d*d) m R):=fun s a j=>by
  obtain⟨w,P,G⟩:=Ol s d;have g:=F6 (A:=1000000) (B:=1000000) (x:=s) (y:=s) (by omega) (by omega) (by omega) (by omega) (by decide);have F:=F6 (A:=301000000) (B:=301000000) (x:=d) (y:=d) (by omega) (by omega) (by omega) (by omega) (by decide);have E:0<=s*s:=Int.mul_nonneg a a;have v:0<=d*d:=Int.mul_nonneg k k;obtain⟨R,f,q,u⟩:=SK (n:=250000*(s*s)+d*d) (by omega) (by omega);have h:=f.1;have t:=F6 (A:=3000000000) (B:=3000000000) (x:=R) (y:=R) (by omega) (by omega) (by omega) (by omega) (by decide);refine⟨R,f,?_⟩;unfold O5;rw[w,u,vS,gP ⟨oo,oo,oo,oo,oo,trivial⟩,gP ⟨rfl,trivial⟩,lE,gP ⟨(fun _=>oo),trivial⟩];unfold J4;split
  ·have:R.tdiv 500=R / 500:=Int.tdiv_eq_ediv_of_nonneg h;exact gP ⟨by decide,oo,trivial⟩
  ·rw[(N6 R 500 m (by omega) (by omega) (by decide)).1,vS,gP ⟨rfl,trivial⟩,lE]
 obtain⟨R,f,e⟩:=b s a (by omega);obtain⟨Q,i,l⟩:=b c (by omega) j;refine⟨_,_,e,l,m0O f i ?_ o⟩;have:=Int.mul_le_mul g g a (by omega);omega
variable {b:j0}
theorem G0d(r:p9 b=true){c:p7}(u:F2 c=true){q:Int}(H:j3 q 0 (((lV b).length:Int)-1)=true) :
  ∃d:Int->Int->Int,(∀s m,H4 (l5 b) c q s m=some (d s m))/\∀s,d s 0<=d s 1:=by
 obtain⟨x1,x2⟩:=SR H;have j:(lV b).getD q.toNat (a6 y138)∈lV b:=H0 x2;have t:=fun k=>Cv u k 0;have e:∀k,w6 c k 0<=w6 c k 1:=fun k=>by
  have h:=u;unfold F2 at h;simp only[ba,dq] at h;unfold w6;have X:((0:Int)==0)=true:=rfl;have T:((1:Int)==0)=false:=rfl;rw[X,T];split <;> simp only[if_true,Bool.false_eq_true,if_false] <;> omega
 rcases FI r j with ⟨a,n,h⟩ | ⟨n,k,h⟩
 ·obtain⟨W,P⟩:=BA h.del h.trs;obtain⟨F,G,_⟩:=Dh P;obtain⟨V,i,w⟩:=Ow r h.del h.trs ((q9 b n).getD 0 0);have g:=fun s m=>p0r r H h i w u s m;generalize hlk:(lV b).getD q.toNat (a6 y138)=l at h i g W P F G;refine⟨fun s m=>m5 (V s m*w6 c l.2.2.1 m) 1000 m,g,fun s=>?_⟩;refine SU (Int.mul_nonneg (i.pos _ _) (t _).1) ?_;exact Int.le_trans (Int.mul_le_mul_of_nonneg_right (i.two s) (t _).1) (s0Z (i.pos _ _) (e _))
 ·have no:=Ac r h.nlt;obtain⟨dl,Y⟩:=no.delays;have g:=Y (o3 b n k).toNat;obtain⟨F,G⟩:=FP b h.nlt;have aA:=FE b n;have v:=h.klt;have Q:((k:Int)).toNat=k:=rfl;have hv:=fun m=>Dr (a:=(r8 b n).getD (o3 b n k).toNat 0) (b:=1000) (K:=301000) m (by decide) (by omega) (by omega);have f:=fun m=>HB (a:=(r8 b n).getD (o3 b n k).toNat 0) (b:=1000) m (by omega) (by decide);generalize hlk:(lV b).getD q.toNat (a6 y138)=l at h;have z:(l5 b).2.2.1.getD q.toNat (a6 y138)=l:=hlk;have o:∀s m,H4 (l5 b) c q s m=some (m5 (m5 ((r8 b n).getD (o3 b n k).toNat 0) 1000 m*w6 c l.2.2.1 m) 1000 m):=fun s m=>by
   have p0:=f m;have p1:=hv m;have hf:=Cv u l.2.2.1 m;have hp:=F6 (A:=1000000) (B:=5000) (x:=m5 ((r8 b n).getD (o3 b n k).toNat 0) 1000 m) (y:=w6 c l.2.2.1 m) (by omega) (by omega) (by omega) (by omega) (by decide);have g:=N6 (m5 ((r8 b n).getD (o3 b n k).toNat 0) 1000 m*w6 c l.2.2.1 m) 1000 m (by omega) (by omega) (by decide);have E:V8 (m5 ((r8 b n).getD (o3 b n k).toNat 0) 1000 m) (w6 c l.2.2.1 m) m=some (m5 (m5 ((r8 b n).getD (o3 b n k).toNat 0) 1000 m*w6 c l.2.2.1 m) 1000 m):=by
    unfold V8;rw[g.1,vS,gP ⟨oo,rfl,trivial⟩,lE]
   unfold H4;refine(gP ⟨x1,trivial⟩).trans ?_;rw[lE,z,S5 h.pix h.net,vS,gP ⟨rfl,trivial⟩,lE];refine(if_neg (by rw[h.kind]; decide)).trans ?_;rw[F,h.idx,Q,FD v,(N6 _ 1000 m (by omega) (by omega) (by decide)).1,vS];refine(gP ⟨G,oo,rfl,trivial⟩).trans ?_;rw[lE];show V9 c l m _=_;rw[V9,LH,vS,E,vS,gP ⟨rfl,rfl,trivial⟩,lE]
  refine⟨fun s m=>m5 (m5 ((r8 b n).getD (o3 b n k).toNat 0) 1000 m*w6 c l.2.2.1 m) 1000 m,o,fun s=>?_⟩;refine SU (Int.mul_nonneg (f 0) (t _).1) ?_;exact Int.le_trans (Int.mul_le_mul_of_nonneg_right (SU g.1 (Int.le_refl _)) (t _).1) (s0Z (f 1) (e _))
theorem v0y{b:j0}(H:wf j7 b)(w:p9 b=true){q:Int}(o:j3 q 0 (((lV b).length:Int)-1)=true){s m:Int}(F:0<=s)(P:s<=1000000)(E:m=0∨m=1){r:Int}(g:B4 (l5 b) q s m=some r):0<=r:=by
 have o:=r6.1 o;have e:ix q (l5 b).2.2.1.length:=⟨o.1,by show q < ((lV b).length:Int); omega⟩;generalize hl:(lV b).getD q.toNat (a6 y138)=l;have f:(l5 b).2.2.1.getD q.toNat (a6 y138)=l:=hl;have d:l∈lV b:=by rw[<- hl]; exact H0 (by omega)
 rcases FI w d with ⟨a,n,h⟩ | ⟨n,k,h⟩
 ·obtain⟨j,x⟩:=BA h.slw h.trs;obtain⟨i,y,X,l3,V⟩:=HA x s ((q9 b n).getD 0 0) m;obtain⟨v,t⟩:=FO b h.nlt;have u:(l.2.1.tmod 2).toNat<a.2.2.2.2.2.length:=by have:=j.1; have:=j.2; omega
  have hp:=p0f x (Oo h.slw (H0 u)) s ((q9 b n).getD 0 0) m i y;have c:B4 (l5 b) q s m=some (min i 1000000):=by
   unfold B4;refine(gP ⟨e,trivial⟩).trans ?_;rw[lE,f,S5 h.pix h.net,vS,gP ⟨rfl,trivial⟩,lE];refine(if_pos (by rw[h.kind]; rfl)).trans ?_;rw[FJ h,vS,v,y,vS];refine(gP ⟨rfl,by decide,j,t,rfl,trivial⟩).trans ?_;rw[lE]
  rw[c] at g;cases g;omega
 ·obtain⟨i,Q,Y,W⟩:=F0v H w h.nlt h.klt F P E;obtain⟨v,t⟩:=FP b h.nlt;have T:=FE b n;have G:=h.klt;have c:B4 (l5 b) q s m=some (min i 1000000):=by
   unfold B4;refine(gP ⟨e,trivial⟩).trans ?_;rw[lE,f,S5 h.pix h.net,vS,gP ⟨rfl,trivial⟩,lE];refine(if_neg (by rw[h.kind]; decide)).trans ?_;rw[v,h.idx];have z:((k:Int)).toNat=k:=rfl;rw[z,Q,vS];refine(gP ⟨t,oo,rfl,trivial⟩).trans ?_;rw[lE]
  rw[c] at g;cases g;omega
section
variable {b:j0}
end
end Go.Proofs.YtechodbafnmddaaGreatDoor
end
section
namespace Go.Proofs.Xd
open Go.Proofs.Xl
theorem p0p{b:Type}{l:List b}{p q:b->Bool}(h:∀a∈l,p a=q a):l.find? p=l.find? q:=by
 induction l with
 | nil=>rfl
 | cons a r c =>
   grind
theorem m0r{b:Type}(l:List b)(p q r:b->Bool)(h:∀a∈l,(p a).toNat=(q a).toNat+(r a).toNat):l.countP p=l.countP q+l.countP r:=by
 induction l with
 | nil=>rfl
 | cons a t c =>
   grind
theorem q0F{b:Type}(l:List b)(p q:b->Bool)(h:∀a∈l,p a=q a):l.countP p=l.countP q:=by
 induction l with
 | nil=>rfl
 | cons a t c =>
   grind
section
variable (M N:Nat) (fr to:Nat->Nat) (lv:Nat->Bool)
def AQ(out:List Nat)(v:Nat):Nat:=(List.range M).countP fun i=>lv i&&to i==v&&!out.contains (fr i)
def FQ(o:List Int)(i:Nat):List Int:=o.set (to i) (o.getD (to i) 0-1)
def Ds(o:List Int)(i:Nat):List Int:=o.set (to i) (o.getD (to i) 0+1)
def HD:List Int:=((List.range M).filter lv).foldl (Ds to) (List.replicate N 0)
def LK(o:List Int)(v:Nat):List Int:=((List.range M).filter fun i=>lv i&&fr i==v).foldl (FQ to) (o.set v (-1))
def BB(out:List Nat):List Int:=out.foldl (LK M fr to lv) (HD M N to lv)
def N7(out:List Nat):Option Nat:=(List.range N).find? fun v=>!out.contains v&&AQ M fr to lv out v==0
def FR:Nat->List Nat->Option (List Nat)
 | 0,out=>some out
 | k+1,out=>match N7 M N fr to lv out with
   | none=>none
   | some v=>FR k (out++[v])
theorem l0K(a:List Nat)(v:Nat):BB M N fr to lv (a++[v])=LK M fr to lv (BB M N fr to lv a) v:=by
 grind[BB]
theorem LL{o:List Int}{i v:Nat}(x:Int)(hi:i<o.length):(o.set i x).getD v 0=if v=i then x else o.getD v 0:=by
 grind
theorem B0I(a:List Nat)(o:List Int)(h:∀i∈a,to i<o.length)(v:Nat):(a.foldl (FQ to) o).length=o.length/\(a.foldl (FQ to) o).getD v 0=o.getD v 0-(a.countP fun i=>to i==v):=by
 induction a generalizing o with
 | nil=>simp
 | cons i r b =>
   grind[FQ,LL]
theorem B0u(a:List Nat)(o:List Int)(h:∀i∈a,to i<o.length)(v:Nat):(a.foldl (Ds to) o).length=o.length/\(a.foldl (Ds to) o).getD v 0=o.getD v 0+(a.countP fun i=>to i==v):=by
 induction a generalizing o with
 | nil=>simp
 | cons i r b =>
   grind[Ds,LL]
variable {M N fr to lv}
theorem j0C(p:Nat->Bool):(List.range M).countP p<=M:=by
 grind[List.countP_le_length,List.range,List.length_range]
theorem s0P(d:∀i,i<M->to i<N)(v:Nat):(HD M N to lv).length=N/\(HD M N to lv).getD v 0=AQ M fr to lv [] v:=by
 have c:∀i∈(List.range M).filter lv,to i < (List.replicate N (0:Int)).length:=fun i hi=>by
  grind
 obtain⟨e,a⟩:=B0u to ((List.range M).filter lv) (List.replicate N 0) c v;refine⟨by grind[HD,List.length_replicate],?_⟩;rw[HD,a,List.countP_filter];have b:(List.replicate N (0:Int)).getD v 0=0:=by
  rw[gq,List.getElem?_replicate];split <;> rfl
 rw[b,Int.zero_add];congr 1;refine q0F _ _ _ (fun i _=>?_)
 grind
structure LM(M N:Nat)(fr to:Nat->Nat)(lv:Nat->Bool)(out:List Nat)(o:List Int):Prop where
 len:o.length=N
 un:∀v,v<N->v ∉ out->o.getD v 0=AQ M fr to lv out v
 li:∀v,v<N->v∈out->o.getD v 0<0
 lo:∀v,v<N -> -(1+(out.length:Int)*M)<=o.getD v 0
 hi:∀v,v<N->o.getD v 0<=M
theorem w0M{a:List Nat}{v:Nat}(b:v ∉ a)(w:Nat):AQ M fr to lv a w=((List.range M).countP fun i=>to i==w&&(lv i&&fr i==v))+AQ M fr to lv (a++[v]) w:=by
 unfold AQ;refine m0r _ _ _ _ (fun i _=>?_)
 grind
theorem z0F(a:∀i,i<M->to i<N):LM M N fr to lv [] (HD M N to lv):=by
 have h:=fun v=>s0P (fr:=fr) (lv:=lv) a v;refine⟨(h 0).1,fun v _ _=>(h v).2,fun v _ b=>(nomatch b),fun v _=>?_,fun v _=>?_⟩
 ·grind
 grind[AQ,j0C]
theorem s0R(q:∀i,i<M->to i<N){a:List Nat}{o:List Int}(h:LM M N fr to lv a o){v:Nat}(s:v<N)(n:v ∉ a):LM M N fr to lv (a++[v]) (LK M fr to lv o v):=by
 have k:(o.set v (-1)).length=N:=by rw[List.length_set,h.len]
 have g:=fun w=>B0I to ((List.range M).filter fun i=>lv i&&fr i==v) (o.set v (-1)) (fun i hi=>by
  rw[List.mem_filter,List.mem_range] at hi;rw[k];exact q i hi.1) w
 have d:∀w,(LK M fr to lv o v).getD w 0=(if w=v then -1 else o.getD w 0)-((List.range M).countP fun i=>to i==w&&(lv i&&fr i==v)):=fun w=>by
  grind[LK,LL,List.countP_filter]
 have j:∀w,(((List.range M).countP fun i=>to i==w&&(lv i&&fr i==v):Nat):Int)<=M:=fun w=>by
  have:=j0C (M:=M) (fun i=>to i==w&&(lv i&&fr i==v));omega
 have c:((a++[v]).length:Int)*M=(a.length:Int)*M+M:=by
  rw[List.length_append,List.length_singleton,Int.natCast_add,Int.add_mul];simp
 have r:(0:Int)<=(a.length:Int)*M:=Int.mul_nonneg (Int.natCast_nonneg _) (Int.natCast_nonneg _);refine⟨(g 0).1.trans k,fun w b f=>?_,fun w b f=>?_,fun w b=>?_,fun w b=>?_⟩
 ·rw[d,if_neg (fun e=>f (by simp[e])),h.un w b (fun e=>f (by simp[e])),w0M n w];omega
 ·rw[d];by_cases e:w=v
  ·omega
  ·rw[if_neg e];have:=h.li w b (by
    grind)
   omega
 ·rw[d,c];have l:=j w;have m:=h.lo w b;omega
 ·rw[d];have l:=j w;have m:=h.hi w b;omega
theorem s0S{a:List Nat}{o:List Int}(h:LM M N fr to lv a o):(List.range o.length).find? (fun v=>(0:Int)==o.getD v 0)=N7 M N fr to lv a:=by
 unfold N7;rw[h.len];refine p0p (fun v c=>?_);have c:=List.mem_range.1 c;by_cases b:v∈a
 ·have e:=h.li v c b;have d:a.contains v=true:=List.contains_iff_mem.2 b;have f:((0:Int)==o.getD v 0)=false:=beq_eq_false_iff_ne.2 (by omega);rw[d,f]; rfl
 ·have e:=h.un v c b;have d:a.contains v=false:=by rw[<- Bool.not_eq_true,List.contains_iff_mem]; exact b
  rw[e,d,Bool.not_false,Bool.true_and,Bool.eq_iff_iff];simp only[beq_iff_eq];omega
theorem Ox{a:List Nat}{v:Nat}(h:N7 M N fr to lv a=some v):v<N/\v ∉ a:=by
 grind[N7]
def N8(N:Nat)(out:List Nat):List Bool:=out.foldl (fun l v=>l.set v true) (List.replicate N false)
theorem v0z{o:List Bool}{i v:Nat}(x:Bool)(hi:i<o.length):(o.set i x).getD v false=if v=i then x else o.getD v false:=by
 grind
theorem t0p(a:List Nat)(v:Nat):N8 N (a++[v])=(N8 N a).set v true:=by
 grind[N8]
theorem s0y(a:List Nat)(o:List Bool)(h:∀v∈a,v<o.length)(w:Nat):(a.foldl (fun l v=>l.set v true) o).length=o.length/\(a.foldl (fun l v=>l.set v true) o).getD w false=(a.contains w||o.getD w false):=by
 induction a generalizing o with
 | nil=>simp
 | cons v r b =>
   grind
theorem l0U{a:List Nat}(h:∀v∈a,v<N)(w:Nat):(N8 N a).length=N/\(N8 N a).getD w false=a.contains w:=by
 obtain⟨d,b⟩:=s0y a (List.replicate N false) (fun v c=>by grind) w
 grind[List.replicate,N8]
def Dt(fr to:Nat->Nat)(lv:Nat->Bool)(out:List Nat)(k:Nat)(w:List Bool):List Bool:=if(lv k&&!out.contains (fr k))=true then w.set (to k) true else w
theorem n0T(c:∀i,i<M->to i<N)(a:List Nat)(v:Nat):∀m,m<=M->(fN (Dt fr to lv a) m (List.replicate N false)).length=N/\(fN (Dt fr to lv a) m (List.replicate N false)).getD v false=(List.range m).any fun i=>lv i&&to i==v&&!a.contains (fr i):=by
 intro m
 induction m with
 | zero =>
   intro _;refine⟨List.length_replicate,?_⟩;show(List.replicate N false).getD v false=false
   grind
 | succ m b =>
   grind[Dt,fN,List.replicate]
theorem r0t(c:∀i,i<M->to i<N){a:List Nat}(b:∀v∈a,v<N):(List.range N).find? (fun v=>!((N8 N a).getD v false||(fN (Dt fr to lv a) M (List.replicate N false)).getD v false))=N7 M N fr to lv a:=by
 unfold N7;refine p0p (fun v _=>?_);rw[(l0U b v).2,(n0T c a v M (Nat.le_refl _)).2,Bool.not_or]
 grind[AQ]
end
inductive Rch(M:Nat)(fr to:Nat->Nat)(lv:Nat->Bool)(s:Nat):Nat->Prop
 | refl:Rch M fr to lv s s
 | step {i:Nat}:Rch M fr to lv s (fr i)->i<M->lv i=true->Rch M fr to lv s (to i)
theorem Rch.trans{M:Nat}{fr d:Nat->Nat}{lv:Nat->Bool}{a b c:Nat}(h:Rch M fr d lv a b)(k:Rch M fr d lv b c):Rch M fr d lv a c:=by
 induction k with
 | refl=>exact h
 | step _ hi e f=>exact f.step hi e
theorem Rch.one{M:Nat}{fr a:Nat->Nat}{lv:Nat->Bool}{i:Nat}(hi:i<M)(b:lv i=true):Rch M fr a lv (fr i) (a i):=Rch.refl.step hi b
theorem Rch.head{M:Nat}{fr a:Nat->Nat}{lv:Nat->Bool}{i c:Nat}(hi:i<M)(b:lv i=true)(k:Rch M fr a lv (a i) c):Rch M fr a lv (fr i) c:=(Rch.one hi b).trans k
theorem Rch.back{M:Nat}{fr c:Nat->Nat}{lv:Nat->Bool}{a b:Nat}(h:Rch M fr c lv a b):Rch M c fr lv b a:=by
 induction h with
 | refl=>exact .refl
 | step _ hi d e=>grind[Rch.head]
theorem Rch.lt{M N:Nat}{fr c:Nat->Nat}{lv:Nat->Bool}(e:∀i,i<M->c i<N){a b:Nat}(h:Rch M fr c lv a b)(d:a<N):b<N:=by
 cases h with
 | refl=>exact d
 | step _ hi _=>grind
section
variable (M N:Nat) (fr to:Nat->Nat) (lv:Nat->Bool)
def RB(s:Nat)(L:List Bool):Prop:=L.length=N/\∀v,v<N->(L.getD v false=true↔Rch M fr to lv s v)
structure RI(s:Nat)(r:List Bool):Prop where
 len:r.length=N
 src:r.getD s false=true
 snd:∀v,r.getD v false=true->Rch M fr to lv s v
theorem RI.done{M N:Nat}{fr a:Nat->Nat}{lv:Nat->Bool}{s:Nat}{r:List Bool}(h:RI M N fr a lv s r)(e:∀i,i<M->lv i=true->r.getD (fr i) false=true->r.getD (a i) false=true):RB M N fr a lv s r :=
 ⟨h.len,fun v c=>⟨h.snd v,fun b=>by
   clear c
   induction b with
   | refl=>exact h.src
   | step _ hi f d=>grind⟩⟩
def R0q(r:List Bool):Nat:=(List.range M).countP fun i=>lv i&&!r.getD (fr i) false
structure QI(s:Nat)(q:List Int×List Bool):Prop where
 len:q.2.length=N
 mem:∀x∈q.1,0<=x/\x.toNat<N/\Rch M fr to lv s x.toNat
 snd:∀v,q.2.getD v false=true->Rch M fr to lv s v
 src:q.2.getD s false=true∨(s:Int)∈q.1
 cls:∀i,i<M->lv i=true->q.2.getD (fr i) false=true->q.2.getD (to i) false=true∨(to i:Int)∈q.1
 c9:q.1.length+R0q M fr lv q.2<=M+1
end
abbrev Sp:=Int×Int
abbrev u3:=Sp×Sp
def Cw(a b:Sp):Sp:=(min a.1 b.1,max a.2 b.2)
def Ag(a b:Sp):Sp:=(a.1+b.1,a.2+b.2)
def Du(o:Option u3)(x:u3):Option u3:=match o with
 | none=>some x
 | some y=>some (Cw y.1 x.1,Cw y.2 x.2)
section
variable (M:Nat) (fr to:Nat->Nat) (lv:Nat->Bool) (sp:Nat->Sp->Sp×Sp) (src:Nat->Option u3)
def HE(T:Nat->Option u3)(v k:Nat)(o:Option u3):Option u3:=if(lv k&&to k==v)=true then(match T (fr k) with
 | none=>o
 | some x=>Du o (Ag x.1 (sp k x.2).1,(sp k x.2).2)) else o
def SV(T:Nat->Option u3)(v:Nat):Option u3:=fN (HE fr to lv sp T v) M (src v)
def L0m(T:Nat->Option u3)(v:Nat)(x:Option u3):Nat->Option u3:=fun w=>if w=v then x else T w
variable (ok:u3->Bool)
def okA(x:Option u3):Bool:=match x with
 | none=>true
 | some y=>ok y
def J0k:List Nat->(Nat->Option u3)->Option (Nat->Option u3)
 | [],T=>some T
 | v :: r,T=>if okA ok (SV M fr to lv sp src T v)=true then J0k r (L0m T v (SV M fr to lv sp src T v)) else none
end
section
variable {M:Nat} {fr to:Nat->Nat} {lv:Nat->Bool} {sp:Nat->Sp->Sp×Sp} {src:Nat->Option u3} {ok:u3->Bool}
def LN(M:Nat)(fr to:Nat->Nat)(lv:Nat->Bool):List Nat->List Nat->Prop
 | _,[]=>True
 | d,v :: r=>(∀k,k<M->lv k=true->to k=v->fr k∈d)/\LN M fr to lv (d++[v]) r
def K0I(a b:Sp):Prop:=b.1<=a.1/\a.2<=b.2
def insO(x y:Option u3):Prop:=∀a,x=some a->∃c,y=some c/\K0I a.1 c.1/\K0I a.2 c.2
theorem insO.refl(x:Option u3):insO x x:=fun a h=>⟨a,h,⟨Int.le_refl _,Int.le_refl _⟩,⟨Int.le_refl _,Int.le_refl _⟩⟩
theorem insO.none(y:Option u3):insO none y:=fun _ h=>by cases h
end
end Go.Proofs.Xd
end
section
namespace Go.Proofs.YtechodbafnmddaaGreatDoor
open Go Go.Proofs Go.Proofs.Sv Go.Proofs.Xv Go.Proofs.Xl Go.Proofs.Xd
structure SpanV(b:j0)(c:p7)(q:Int)(dv lv:Int->Int->Int):Prop where
 del:∀s m,H4 (l5 b) c q s m=some (dv s m)
 d0:∀s m,0<=dv s m/\dv s m<=5000000
 d2:∀s,dv s 0<=dv s 1
 slw:∀s m,0<=s->s<=1000000->m=0∨m=1->B4 (l5 b) q s m=some (lv s m)/\0<=lv s m/\lv s m<=1000000
 l2:∀s,0<=s->s<=1000000->lv s 0<=lv s 1
section
variable {b:j0}
theorem F0j(u:wf j7 b)(_:c9 j7 b<=1048576)(f:p9 b=true){c:p7}(_:wf u5 c)(j:F2 c=true){q:Int}(a:j3 q 0 (((lV b).length:Int)-1)=true):∃dv lv,SpanV b c q dv lv:=by
 obtain⟨B,t⟩:=B0H f a;obtain⟨d,o,g⟩:=G0d f j a;have e:∀s m,d s m=m5 (B s m*w6 c ((lV b).getD q.toNat (a6 y138)).2.2.1 m) 1000 m:=fun s m=>by
  have l:=o s m;rw[t.val c j] at l
  grind
 refine⟨d,fun s m=>vl (B4 (l5 b) q s m),⟨o,fun s m=>?_,g,fun s m k i h=>?_,fun s k i=>?_⟩⟩
 ·rw[e];have w:=t.bd s m;have E:=Cv j ((lV b).getD q.toNat (a6 y138)).2.2.1 m;have z:=Int.mul_nonneg w.1 E.1;have l:=F6 (A:=1000000) (B:=5000) (x:=B s m) (y:=w6 c ((lV b).getD q.toNat (a6 y138)).2.2.1 m) (by omega) (by omega) (by omega) (by omega) (by decide);exact⟨HB m z (by decide),(Dr (K:=5000000) m (by decide) (by omega) (by omega)).2⟩
 ·obtain⟨r,n,_,F⟩:=LG u f a k i h;have v:=v0y u f a k i h n;show _=some (vl (B4 (l5 b) q s m))/\0<=vl (B4 (l5 b) q s m)/\vl (B4 (l5 b) q s m)<=1000000;rw[n];exact⟨rfl,v,F⟩
 grind[v0x,vl,B4,l5]
def Dv(dv lv:Int->Int->Int)(sp:Sp):Sp×Sp:=((min (dv sp.1 0) (dv sp.2 0),max (dv sp.1 1) (dv sp.2 1)),min (lv sp.1 0) (lv sp.2 0),max (lv sp.1 1) (lv sp.2 1))
theorem SpanV.spans{c:p7}{q:Int}{a lv:Int->Int->Int}(h:SpanV b c q a lv)(j:j3 q 0 (((lV b).length:Int)-1)=true){sp:Sp}(e:F4 sp=true):Cf (l5 b) c q sp=some (Dv a lv sp):=by
 unfold F4 at e;rw[ba,ba] at e;have f:=r6.1 e.1.2;have d:=r6.1 e.2;have g:=r6.1 j;have i:ix q (l5 b).2.2.1.length:=⟨g.1,by show q < ((lV b).length:Int); omega⟩;unfold Cf;rw[h.del,h.del,h.del,h.del];refine(gP ⟨rfl,rfl,rfl,rfl,trivial⟩).trans ?_;rw[lE];refine(gP ⟨i,trivial⟩).trans ?_;rw[lE];refine(if_neg ?_).trans ?_
 ·show ¬(decide ((0:Int)<0)&&_)=true;simp
 ·show Ff (l5 b) q sp (min (a sp.1 0) (a sp.2 0),max (a sp.1 1) (a sp.2 1))=_;rw[Ff,(h.slw sp.1 0 f.1 f.2 (.inl rfl)).1,(h.slw sp.2 0 d.1 d.2 (.inl rfl)).1,(h.slw sp.1 1 f.1 f.2 (.inr rfl)).1,(h.slw sp.2 1 d.1 d.2 (.inr rfl)).1];rfl
theorem SpanV.ok{c:p7}{q:Int}{a lv:Int->Int->Int}(h:SpanV b c q a lv){sp:Sp}(f:F4 sp=true):0<=(Dv a lv sp).1.1/\(Dv a lv sp).1.1<=(Dv a lv sp).1.2/\(Dv a lv sp).1.2<=5000000/\F4 (Dv a lv sp).2=true:=by
 unfold F4 at f;rw[ba,ba] at f;have d:=r6.1 f.1.2;have e:=r6.1 f.2;have l:=h.d0 sp.1 0;have n:=h.d0 sp.2 0;have i:=h.d0 sp.1 1;have j:=h.d0 sp.2 1;have s:=h.d2 sp.1;have m:=(h.slw sp.1 0 d.1 d.2 (.inl rfl)).2;have g:=(h.slw sp.2 0 e.1 e.2 (.inl rfl)).2;have k:=(h.slw sp.1 1 d.1 d.2 (.inr rfl)).2;have o:=(h.slw sp.2 1 e.1 e.2 (.inr rfl)).2;have r:=h.l2 sp.1 d.1 d.2;unfold Dv;refine⟨by grind,by grind,by grind,?_⟩;unfold F4 F3;simp only[ba,dq]
 grind[r6]
def LO(t:m4):Prop:=∀r q,r+1<t.1.length->q<t.2.1.length->D8 t r q<=D8 t (r+1) q
def K0E(b:j0):Prop:=∀ce∈b.1,∀ar∈ce.2.2.2.1,(∀t∈ar.2.2.2.2.1,LO t)/\∀t∈ar.2.2.2.2.2,LO t
theorem w0Q{l:o5}{a:A7}{n:Nat}(i:K0E b)(h:LD b l a n):(∀t∈a.2.2.2.2.1,LO t)/\∀t∈a.2.2.2.2.2,LO t:=by
 have g:=h.cix;have f:=h.aix;have c:(j6 b.2.1 (p8 b.2.1 (l.2.1.tdiv 2).toNat).1.toNat).2.1.toNat<b.1.length:=by have:=g.1; have:=g.2; omega
 have e:l.2.2.2.toNat < (b.1.getD (j6 b.2.1 (p8 b.2.1 (l.2.1.tdiv 2).toNat).1.toNat).2.1.toNat (a6 y153)).2.2.2.1.length:=by have:=f.1; have:=f.2; omega
 have:=i _ (H0 (d:=a6 y153) c) _ (H0 (d:=a6 y158) e);rw[h.arc] at this;omega
theorem t0o{T:List m4}(f:C1 T true=true)(g:∀t∈T,LO t){x:Int}(k:x=0∨x=1)(l:Int){s c m:Int}(h:m=0∨m=1)(i:s<=c){V:Int->Int->Int}(j:LJ (T.getD x.toNat (a6 y269)) l V):V s m<=V c m:=by
 obtain⟨e,n⟩:=BA f k;have b:x.toNat<T.length:=by have:=e.1; have:=e.2; omega
 have a:=H0 (d:=a6 y269) b;exact t0n n (Oo f a) (g _ a) l j h i
theorem SpanV.mono(_:wf j7 b)(E:p9 b=true)(hM:K0E b){c:p7}(hc:F2 c=true){q:Int}(hq:j3 q 0 (((lV b).length:Int)-1)=true){G lv:Int->Int->Int}(h:SpanV b c q G lv):(∀s s' m,s<=s'->m=0∨m=1->G s m<=G s' m)/\∀s s' m,0<=s->s<=s'->s'<=1000000->m=0∨m=1->lv s m<=lv s' m:=by
 obtain⟨x1,x2⟩:=SR hq;have v:ix q (l5 b).2.2.1.length:=x1;have t:(lV b).getD q.toNat (a6 y138)∈lV b:=H0 x2;rcases FI E t with ⟨a,n,e⟩ | ⟨n,k,e⟩
 ·obtain⟨m1,m2⟩:=w0Q hM e;obtain⟨V,Y,aF⟩:=Ow E e.del e.trs ((q9 b n).getD 0 0);obtain⟨W,T,Q⟩:=Ow E e.slw e.trs ((q9 b n).getD 0 0);have ed:∀s m,G s m=m5 (V s m*w6 c ((lV b).getD q.toNat (a6 y138)).2.2.1 m) 1000 m:=fun s m=>by
   have h1:=h.del s m
   grind[p0r,Option.some.inj]
  refine⟨fun s s' m i f=>?_,fun s s' m F i H f=>?_⟩
  ·rw[ed,ed];refine t0M m (Int.mul_nonneg (Y.pos _ _) (Cv hc _ _).1) ?_;exact Int.mul_le_mul_of_nonneg_right (t0o e.del m1 e.trs _ f i Y) (Cv hc _ _).1
  ·have aB:=t0o e.slw m2 e.trs _ f i T;obtain⟨t1,t2⟩:=BA e.slw e.trs;obtain⟨u,o⟩:=FO b e.nlt;have aC:=(h.slw s m F (by omega) f).1;have aA:=(h.slw s' m (by omega) H f).1;generalize hll:(lV b).getD q.toNat (a6 y138)=l at e Y T t1 t2 u o aB;have g:(l5 b).2.2.1.getD q.toNat (a6 y138)=l:=hll;have val:∀s,B4 (l5 b) q s m=some (W s m):=fun s=>by
    unfold B4;refine(gP ⟨v,trivial⟩).trans ?_;rw[lE,g,S5 e.pix e.net,vS,gP ⟨rfl,trivial⟩,lE];refine(if_pos (by rw[e.kind]; rfl)).trans ?_;rw[FJ e,vS,u,T.val,vS];refine(gP ⟨rfl,by decide,t1,o,rfl,trivial⟩).trans ?_;rw[lE];have:=Q s m;have:min (W s m) 1000000=W s m:=by omega
    rw[this]
   grind
 ·have no:=Ac E e.nlt;obtain⟨dl,db⟩:=no.delays;have hd:=db (o3 b n k).toNat;obtain⟨u,o⟩:=FP b e.nlt;have aG:=FE b n;have j:=e.klt;have e4:((k:Int)).toNat=k:=rfl;generalize hll:(lV b).getD q.toNat (a6 y138)=l at e;have g:(l5 b).2.2.1.getD q.toNat (a6 y138)=l:=hll;refine⟨fun s s' m i f=>?_,fun s s' m F i H f=>?_⟩
  ·have h1:=h.del s m;have h2:=h.del s' m;have hv:=Dr (a:=(r8 b n).getD (o3 b n k).toNat 0) (b:=1000) (K:=301000) m (by decide) (by omega) (by omega);have aH:=HB (a:=(r8 b n).getD (o3 b n k).toNat 0) (b:=1000) m (by omega) (by decide);have aD:∀s,H4 (l5 b) c q s m=some (m5 (m5 ((r8 b n).getD (o3 b n k).toNat 0) 1000 m*w6 c l.2.2.1 m) 1000 m):=fun s=>by
    have hf:=Cv hc l.2.2.1 m;have hp:=F6 (A:=1000000) (B:=5000) (x:=m5 ((r8 b n).getD (o3 b n k).toNat 0) 1000 m) (y:=w6 c l.2.2.1 m) (by omega) (by omega) (by omega) (by omega) (by decide);have P:=N6 (m5 ((r8 b n).getD (o3 b n k).toNat 0) 1000 m*w6 c l.2.2.1 m) 1000 m (by omega) (by omega) (by decide);have X:V8 (m5 ((r8 b n).getD (o3 b n k).toNat 0) 1000 m) (w6 c l.2.2.1 m) m=some (m5 (m5 ((r8 b n).getD (o3 b n k).toNat 0) 1000 m*w6 c l.2.2.1 m) 1000 m):=by
     unfold V8;rw[P.1,vS,gP ⟨oo,rfl,trivial⟩,lE]
    unfold H4;refine(gP ⟨x1,trivial⟩).trans ?_;rw[lE,g,S5 e.pix e.net,vS,gP ⟨rfl,trivial⟩,lE];refine(if_neg (by rw[e.kind]; decide)).trans ?_;rw[u,e.idx,e4,FD j,(N6 _ 1000 m (by omega) (by omega) (by decide)).1,vS];refine(gP ⟨o,oo,rfl,trivial⟩).trans ?_;rw[lE];show V9 c l m _=_;rw[V9,LH,vS,X,vS,gP ⟨rfl,rfl,trivial⟩,lE]
   grind
  ·obtain⟨r,z,w1,w2,w3⟩:=p0N (d:=(r8 b n).getD (o3 b n k).toNat 0) (m:=m) F i H hd.1 hd.2 f;have val:∀s r,O5 s ((r8 b n).getD (o3 b n k).toNat 0) m=some r->B4 (l5 b) q s m=some (min r 1000000):=fun s r w=>by
    unfold B4;refine(gP ⟨v,trivial⟩).trans ?_;rw[lE,g,S5 e.pix e.net,vS,gP ⟨rfl,trivial⟩,lE];refine(if_neg (by rw[e.kind]; decide)).trans ?_;rw[u,e.idx];rw[e4,FD j,w,vS];refine(gP ⟨o,oo,rfl,trivial⟩).trans ?_;rw[lE]
   have aC:=(h.slw s m F (by omega) f).1;have aA:=(h.slw s' m (by omega) H f).1
   grind
end
end Go.Proofs.YtechodbafnmddaaGreatDoor
end
section
namespace Go.Proofs.Xd
open Go.Proofs.Xl
abbrev HF:=List Bool×List Sp×List Sp
def K0M(N:Nat)(T:Nat->Option u3):HF:=((List.range N).map fun v=>(T v).isSome,(List.range N).map fun v=>((T v).getD ((0,0),(0,0))).1,(List.range N).map fun v=>((T v).getD ((0,0),(0,0))).2)
def X0(t:HF):Nat->Option u3:=fun v=>if t.1.getD v false=true then some (t.2.1.getD v (0,0),t.2.2.getD v (0,0)) else none
def BC(s:Sp)(md:Int):Int:=if(md==0)=true then s.1 else s.2
def SW(s:Option u3)(md:Int)(y:u3):Bool:=match s with
 | none=>false
 | some s=>BC s.1 md==BC y.1 md
section
variable (M:Nat) (fr to:Nat->Nat) (lv:Nat->Bool) (sp:Nat->Sp->Sp×Sp) (src:Nat->Option u3) (T:Nat->Option u3) (md:Int)
def Oy(want:Int)(v k:Nat):Bool:=lv k&&to k==v&&(match T (fr k) with
 | none=>false
 | some x=>BC x.1 md+BC (sp k x.2).1 md==want)
def HH(v:Nat):Option (Option Nat):=match T v with
 | none=>none
 | some y=>if SW (src v) md y=true then some none
   else match(List.range M).find? (Oy fr to lv sp T md (BC y.1 md) v) with
    | some k=>some (some k)
    | none=>none
end
section
variable {M:Nat} {fr to:Nat->Nat} {lv:Nat->Bool} {sp:Nat->Sp->Sp×Sp} {src:Nat->Option u3} {T:Nat->Option u3} {md:Int}
theorem u0O{v:Nat}{y:u3}(e:T v=some y):HH M fr to lv sp src T md v=if SW (src v) md y=true then some none else match(List.range M).find? (Oy fr to lv sp T md (BC y.1 md) v) with
  | some k=>some (some k)
  | none=>none:=by
 grind[HH]
theorem u0P{v:Nat}(e:T v=none):HH M fr to lv sp src T md v=none:=by
 grind[HH]
theorem u0Q{v k:Nat}(h:HH M fr to lv sp src T md v=some (some k)):k<M/\lv k=true/\to k=v/\∃x y,T (fr k)=some x/\T v=some y/\BC x.1 md+BC (sp k x.2).1 md=BC y.1 md:=by
 cases e:T v with
 | none=>grind[u0P]
 | some y =>
   rw[u0O e] at h;by_cases b:SW (src v) md y=true
   ·grind
   ·rw[if_neg b] at h;cases hf:(List.range M).find? (Oy fr to lv sp T md (BC y.1 md) v) with
    | none=>grind
    | some c =>
      rw[hf] at h;obtain rfl:c=k:=by grind
      have d:=List.mem_range.1 (List.mem_of_find?_eq_some hf);have a:=List.find?_some hf;unfold Oy at a
      grind
end
abbrev Ah:=Int×Sp×Sp
def HI(l:List Ah):Prop:=l.Pairwise fun x y=>x.1<y.1
def N9(l:List Ah)(v:Nat):Option u3:=(l.find? fun s=>s.1==(v:Int)).map fun s=>s.2
theorem SX{l:List Ah}(h:HI l){s:Ah}(f:s∈l){v:Nat}(n:s.1=(v:Int)):N9 l v=some s.2:=by
 unfold N9;cases e:l.find? fun s=>s.1==(v:Int) with
 | none =>
   have:=List.find?_eq_none.1 e s f;simp[n] at this
 | some x =>
   have k:=List.find?_some e;have m:=List.mem_of_find?_eq_some e;have k:x.1=(v:Int):=by simpa using k
   obtain⟨i,hi,b⟩:=List.getElem_of_mem m;obtain⟨j,d,a⟩:=List.getElem_of_mem f;have g:=List.pairwise_iff_getElem.1 h;rcases Nat.lt_trichotomy i j with c | c | c
   ·have:=g i j hi d c;rw[b,a] at this;omega
   ·subst c;rw[b] at a;rw[a];rfl
   ·have:=g j i d hi c;rw[b,a] at this;omega
theorem v0r{l:List Ah}{v:Nat}(h:∀s∈l,s.1≠(v:Int)):N9 l v=none:=by
 unfold N9;rw[List.find?_eq_none.2 fun s a=>by simpa using h s a];rfl
theorem v0q{l:List Ah}{v:Nat}{x:u3}(h:N9 l v=some x):∃s∈l,s.1=(v:Int)/\s.2=x:=by
 unfold N9 at h;cases e:l.find? fun s=>s.1==(v:Int) with
 | none=>rw[e] at h; cases h
 | some s =>
   rw[e] at h;cases h;exact⟨s,List.mem_of_find?_eq_some e,by simpa using List.find?_some e,rfl⟩
def Cy(l:List Ah)(d:Ah)(v:Nat)(i:Nat)(o:Option u3):Option u3:=if((l.getD i d).1==(v:Int))=true then some (l.getD i d).2 else o
theorem v0s{l:List Ah}(h:HI l)(d:Ah)(v:Nat):fN (Cy l d v) l.length none=N9 l v:=by
 have g:∀n,n<=l.length->fN (Cy l d v) n none=N9 (l.take n) v:=by
  intro n
  induction n with
  | zero=>intro _; rfl
  | succ n m =>
    intro r;have b:n<l.length:=by omega
    have k:l.getD n d=l[n]:=by rw[gq,List.getElem?_eq_getElem b]; rfl
    have hi:HI (l.take (n+1)):=h.sublist (List.take_sublist _ _);have f:l.take (n+1)=l.take n++[l[n]]:=by rw[List.take_add_one,List.getElem?_eq_getElem b]; rfl
    show Cy l d v n (fN (Cy l d v) n none)=_;rw[m (by omega)];unfold Cy;rw[k];by_cases c:(l[n].1==(v:Int))=true
    ·rw[if_pos c];exact(SX hi (by rw[f]; exact List.mem_append_right _ (List.mem_singleton.2 rfl)) (by simpa using c)).symm
    ·rw[if_neg c];cases e:N9 (l.take n) v with
     | none =>
       refine(v0r fun s a i=>?_).symm;rw[f] at a;rcases List.mem_append.1 a with a | a
       ·have:=SX (h.sublist (List.take_sublist n l)) a i;rw[e] at this;cases this
       ·rw[List.mem_singleton.1 a] at i;exact c (by simpa using i)
     | some x =>
       obtain⟨s,q,j,o⟩:=v0q e;have:=SX hi (by rw[f]; exact List.mem_append_left _ q) j;rw[this,o]
 have:=g l.length (Nat.le_refl _)
 rwa [List.take_of_length_le (Nat.le_refl _)] at this
end Go.Proofs.Xd
end
section
namespace Go.Proofs.YtechodbafnmddaaGreatDoor
open Go Go.Proofs Go.Proofs.Sv Go.Proofs.Xv Go.Proofs.Xl Go.Proofs.Xd
theorem t0L(pl:Nat->s9)(t:Int):∀m,0<m->N3 pl t m<m
 | 1,_=>by
   have e:N3 pl t 1=if((pl 0).2.2.1==t&&(pl 0).2.2.2)=true then((0:Nat):Int) else 0:=rfl
   rw[e];split <;> simp
 | m+2,_=>by
   have e:N3 pl t (m+2)=if((pl (m+1)).2.2.1==t&&(pl (m+1)).2.2.2)=true then((m+1:Nat):Int) else N3 pl t (m+1):=rfl
   have:=t0L pl t (m+1) (by omega);omega
theorem q0v{b:j0}(o:p9 b=true){l:o5}(h:l∈lV b):0<=l.1/\l.1<2*((l8 b.2.1).length:Int)/\0<=l.2.1/\l.2.1<2*((l8 b.2.1).length:Int):=by
 obtain⟨n,g,_⟩:=P2 o;have w:=N4 n;rcases t0q h with ⟨i,j,t,hi,s,f,rfl⟩ | ⟨i,k,t,hi,hk,f,rfl⟩
 ·obtain⟨E,y,x3⟩:=Dn w hi;obtain⟨T,Q,P,r⟩:=Dp y;obtain⟨a1,z,H,W⟩:=r j s;obtain⟨A,x⟩:∃A:Nat,(j5 (p6 b i) j).2.1=(A:Int):=⟨(j5 (p6 b i) j).2.1.toNat,by omega⟩;obtain⟨B,u⟩:∃B:Nat,(j5 (p6 b i) j).2.2.1=(B:Int):=⟨(j5 (p6 b i) j).2.2.1.toNat,by omega⟩;have a:A < (j6 b.2.1 i).2.2.length:=by omega
  have e:B < (j6 b.2.1 i).2.2.length:=by omega
  have F:q8 (j6 b.2.1) i+A < (l8 b.2.1).length:=by
   have:=LB (j6 b.2.1) hi a;unfold l8;rw[Hy]; omega
  have V:q8 (j6 b.2.1) i+B < (l8 b.2.1).length:=by
   have:=LB (j6 b.2.1) hi e;unfold l8;rw[Hy]; omega
  have G:=(NW _ _).2 _ (H0 (d:=(0,0)) f);have m:(FF (q8 (j6 b.2.1) i:Int) (j5 (p6 b i) j) j t).1=2*((q8 (j6 b.2.1) i:Int)+(A:Int))+((D6 (j5 (p6 b i) j).1 (j5 (p6 b i) j).2.2.2.1).getD t (0,0)).1:=by
   rw[<- x]; rfl
  have v:(FF (q8 (j6 b.2.1) i:Int) (j5 (p6 b i) j) j t).2.1=2*((q8 (j6 b.2.1) i:Int)+(B:Int))+((D6 (j5 (p6 b i) j).1 (j5 (p6 b i) j).2.2.2.1).getD t (0,0)).2:=by
   rw[<- u]; rfl
  omega
 ·obtain⟨q,c,X,h3,_⟩:=NV (p8 b.2.1) i (l8 b.2.1).length _ (H0 (d:=0) hk);have c:(q6 b.2.1 i).getD k 0=(q:Int):=c;have Y:=(Sf (p8 b.2.1) i (l8 b.2.1).length).1;have d2:=t0L (p8 b.2.1) i (l8 b.2.1).length (by omega);have m:(Cq (F1 b i) ((q6 b.2.1 i).getD k 0) k t).1=2*N3 (p8 b.2.1) i (l8 b.2.1).length+(t:Int):=rfl;have v:(Cq (F1 b i) ((q6 b.2.1 i).getD k 0) k t).2.1=2*(q:Int)+(t:Int):=by
   rw[<- c]; rfl
  omega
section
variable (b:j0)
def j9:Nat:=2*(l8 b.2.1).length
def l9(i:Nat):Nat:=((lV b).getD i (a6 y138)).1.toNat
def o6(i:Nat):Nat:=((lV b).getD i (a6 y138)).2.1.toNat
theorem BD(a:p9 b=true){i:Nat}(hi:i < (lV b).length):((lV b).getD i (a6 y138)).1=(l9 b i:Int)/\((lV b).getD i (a6 y138)).2.1=(o6 b i:Int)/\l9 b i<j9 b/\o6 b i<j9 b:=by
 obtain⟨g,c,f,e⟩:=q0v a (H0 (d:=a6 y138) hi)
 grind[l9,o6,j9]
theorem LP(a:p9 b=true):j9 b<=1000000:=by
 have c:=(N4 (P2 a).1).len
 grind[j9]
theorem J0A(a:p9 b=true):L6 (l5 b)=some (j9 b:Int):=by
 have c:=(N4 (P2 a).1).len;have e:∀s:List w4,GW s=some (s.length:Int):=fun _=>rfl;unfold L6;rw[e,vS,gP ⟨rfl,⟨by omega,by show 2*((l8 b.2.1).length:Int)<=_; omega⟩,trivial⟩,lE];unfold j9;rw[Int.natCast_mul];rfl
theorem SY(c:wf j7 b)(d:p9 b=true):L5 b=some (j9 b:Int):=by
 have a:=N4 (P2 d).1;have e:=a.len;unfold L5;rw[Dl b.2.1 c.2.1 a.fac.ni14 a.fac.np8 a.pin,vS,gP ⟨rfl,⟨by omega,by grind⟩,trivial⟩,lE]
 grind[j9,Int.natCast_mul]
end
def B6(l:List Int)(x:Int):Bool:=(List.range l.length).any fun j=>l.getD j 0==x
theorem r93(l:List Int)(x:Int)(c:l.length<=9223372036854775807):GI l x=some (B6 l x):=by
 have a:=C4 c (fun j=>l.getD j 0==x) (some true) (e:=some false) (F:=VS l x) (fun g i hi=>by
  have b:((i:Int)).toNat=i:=rfl;refine(if_pos (decide_eq_true (by omega))).trans ((gP ⟨oo,trivial⟩).trans ?_);rw[b];by_cases h:(l.getD i 0==x)=true
  ·simp_all
  ·rw[if_neg h,if_neg h];exact gP ⟨oo,trivial⟩) (fun g=>if_neg (by simp))
 refine a.trans ?_
 grind[B6,List.range]
def D2(M:Nat)(br:List Int):List Bool:=fN (W8 fun k=>!B6 br (k:Int)) M []
theorem r44(a:List j2)(br:List Int)(e:a.length<=1048576)(c:br.length<=1048576):Bk a br=some (D2 a.length br):=by
 refine(lF (n:=a.length) (by omega) (fun i (s:List Bool)=>((i:Int),s)) (W8 fun k=>!B6 br (k:Int)) (fun i s=>s.length=i) (J:=fun s=>some s) (F:=VU br a) (fun g i s hi b=>?_) (fun i s _ b=>by show(s++[_]).length=_; grind) (fun g s _=>if_neg (by simp)) [] rfl).trans rfl;have d:((i:Int)).toNat=i:=rfl;refine(if_pos (decide_eq_true (by omega))).trans ?_;rw[r93 br _ (by omega),vS];refine(gP ⟨rfl,⟨by grind,by grind⟩,trivial⟩).trans ?_;exact gP ⟨oo,trivial⟩
def Ai(M:Nat)(br:List Int):Bool:=br.all (j3 · 0 ((M:Int)-1))&&Ck br
theorem B0t:Br []=some true:=by
 unfold Br;refine B0g (fun n a=>?_);obtain⟨m,rfl⟩:∃m,n=m+1:=⟨n-1,by omega⟩;rfl
theorem I0c(xs:List Int)(h:xs.length<=9223372036854775807):Br xs=some (Ck xs):=by
 cases xs with
 | nil=>exact B0t
 | cons x r=>grind[Sk]
theorem M0k{b:j0}(a:p9 b=true)(br:List Int)(h:br.length<=1048576):Hf (l5 b) br=some (Ai (lV b).length br):=by
 have c:=U5 a;have e:Fp (l5 b).2.2.1=some ((lV b).length:Int):=rfl;unfold Hf;rw[e,vS,FB br 0 _ (by omega),vS,I0c br (by omega),vS,gP ⟨rfl,oo,rfl,(fun _=>rfl),trivial⟩];rfl
theorem J0w(M:Nat)(br:List Int)(l:M<=1048576)(h:br.length<=1048576):ML br (M:Int)=some (Ai M br):=by
 have b:=C4 (n:=br.length) (by omega) (fun i=>!j3 (br.getD i 0) 0 ((M:Int)-1)||(decide (0<i)&&decide (br.getD i 0<=br.getD (i-1) 0))) (some false) (e:=some true) (F:=Wo br (M:Int)) (fun g i hi=>by
  have k:((i:Int)).toNat=i:=rfl;have c:((i:Int)-1).toNat=i-1:=by omega
  refine(if_pos (decide_eq_true (by omega))).trans ?_;rw[M3,vS,k,c];refine(gP ⟨oo,oo,rfl,(fun a=>oo),(fun a=>⟨by have:=of_decide_eq_true a.1; omega,by omega⟩),(fun _=>oo),trivial⟩).trans ?_;have j:decide ((0:Int) < (i:Int))=decide (0<i):=by
   rw[decide_eq_decide]; omega
  rw[j];by_cases a:(!j3 (br.getD i 0) 0 ((M:Int)-1)||(decide (0<i)&&decide (br.getD i 0<=br.getD (i-1) 0)))=true
  ·rw[if_pos a,if_pos a]
  ·rw[if_neg a,if_neg a];exact gP ⟨oo,trivial⟩) (fun g=>if_neg (by simp))
 refine b.trans ?_;have e:Ai M br=!((List.range br.length).any fun i=>!j3 (br.getD i 0) 0 ((M:Int)-1)||(decide (0<i)&&decide (br.getD i 0<=br.getD (i-1) 0))):=by
  unfold Ai Ck;rw[Bool.eq_iff_iff];simp only[ba,Bool.not_eq_true',<- Bool.not_eq_true,List.any_eq_true,List.all_eq_true,List.mem_range,Bool.or_eq_true];constructor
  ·grind
  ·intro d;refine⟨fun x f=>?_,fun⟨i,hi,a⟩=>d ⟨i,hi,.inr a⟩⟩;obtain⟨i,hi,rfl⟩:=List.getElem_of_mem f
   simp_all
 grind
theorem SZ{b:Type}(g:b->Nat->b)(l:List Nat)(s:b):fN (fun i s=>g s (l.getD i 0)) l.length s=l.foldl g s:=by
 have a:∀n,n<=l.length->fN (fun i s=>g s (l.getD i 0)) n s=(l.take n).foldl g s:=by
  intro n
  induction n with
  | zero=>intro _; rfl
  | succ n c =>
    intro d;have e:l.take (n+1)=l.take n++[l.getD n 0]:=by
     rw[List.take_add_one,gq,List.getElem?_eq_getElem (by omega)];rfl
    rw[e,List.foldl_append,<- c (by omega)];rfl
 have:=a l.length (Nat.le_refl _)
 rwa [List.take_length] at this
theorem A0C(M:Nat):∀m,m<=M->(fN (fun i (s:List Bool)=>s.set i true) m (List.replicate M false)).length=M/\∀k,k<m->(fN (fun i (s:List Bool)=>s.set i true) m (List.replicate M false)).getD k false=true:=by
 intro m
 induction m with
 | zero=>exact fun _=>⟨List.length_replicate,fun k a=>by omega⟩
 | succ m b =>
   intro c;obtain⟨e,d⟩:=b (by omega);refine⟨by show(List.set _ _ _).length=M; grind,fun k a=>?_⟩;show(List.set _ _ _).getD k false=true;rw[v0z _ (by omega)]
   grind
theorem B0R(br:List Int)(s:List Bool):∀m,(∀j,j<m->(br.getD j 0).toNat<s.length)->(fN (fun i (s:List Bool)=>s.set (br.getD i 0).toNat false) m s).length=s.length/\∀k,(fN (fun i (s:List Bool)=>s.set (br.getD i 0).toNat false) m s).getD k false=(s.getD k false&&!(List.range m).any fun j=>(br.getD j 0).toNat==k):=by
 intro m
 induction m with
 | zero=>exact fun _=>⟨rfl,fun k=>by show s.getD k false=_; simp⟩
 | succ m b =>
   intro a;obtain⟨e,d⟩:=b (fun j c=>a j (by omega));refine⟨by show(List.set _ _ _).length=_; grind,fun k=>?_⟩;show(List.set _ _ _).getD k false=_
   grind
def K3(p:Nat->Bool)(M:Nat):List Int:=((List.range M).filter p).map fun i:Nat=>(i:Int)
theorem Oz(p:Nat->Bool):∀m,fN (fun i (s:List Int)=>if p i=true then s++[(i:Int)] else s) m []=K3 p m
 | 0=>rfl
 | m+1=>by
   show(if p m=true then fN _ m []++[(m:Int)] else fN _ m [])=_;rw[Oz p m];unfold K3;rw[List.range_succ,List.filter_append,List.map_append]
   grind
theorem Ta(p:Nat->Bool)(M:Nat):(K3 p M).length<=M/\(K3 p M).length=((List.range M).filter p).length:=by
 unfold K3
 grind
theorem Tb(p:Nat->Bool)(M i:Nat):(K3 p M).getD i 0=((((List.range M).filter p).getD i 0:Nat):Int):=by
 grind[K3,List.range]
theorem LQ{p:Nat->Bool}{M i:Nat}(h:i < ((List.range M).filter p).length):((List.range M).filter p).getD i 0<M:=by
 grind[H0]
def S6(o:Option (List Nat)):List Int×Bool:=match o with
 | none=>([],false)
 | some l=>(l.map (fun v:Nat=>(v:Int)),true)
section
variable {b:j0}
theorem M0i(t:p9 b=true){br:List Int}(a:Ai (lV b).length br=true)(w:br.length<=1048576):Lb (l5 b) br=some (l5 b,D2 (lV b).length br):=by
 have v:=U5 t;have a:=a;unfold Ai at a;rw[ba] at a;have c:∀j,j<br.length->0<=br.getD j 0/\br.getD j 0 < ((lV b).length:Int):=fun j h=>by
  grind[r6,Hp]
 obtain⟨e,r⟩:=A0C (lV b).length (lV b).length (Nat.le_refl _);obtain⟨l,q⟩:=B0R br (fN (fun i (s:List Bool)=>s.set i true) (lV b).length (List.replicate (lV b).length false)) br.length (fun j h=>by
  have:=c j h;omega)
 have o:fN (fun i (s:List Bool)=>s.set (br.getD i 0).toNat false) br.length (fN (fun i (s:List Bool)=>s.set i true) (lV b).length (List.replicate (lV b).length false))=D2 (lV b).length br:=by
  refine B0p false (by rw[l,e]; exact(Fy _ _).symm) (fun k d=>?_);have d:k < (lV b).length:=by rw[l,e] at d; exact d
  rw[q,r k d,Bool.true_and];refine Eq.trans ?_ (Ls (fun k=>!B6 br (k:Int)) false _ k d).symm;congr 1;unfold B6;rw[Bool.eq_iff_iff,List.any_eq_true,List.any_eq_true];constructor
  ·grind
  ·grind
 unfold Lb;have u:((l5 b).2.2.1.length:Int)=((lV b).length:Int):=rfl;rw[u,Int.toNat_natCast];refine(gP ⟨⟨by omega,rfl,by omega,by omega⟩,trivial⟩).trans ?_;rw[lE,List.length_replicate];refine(lF (n:=(lV b).length) (by omega) (fun i (s:List Bool)=>((i:Int),s)) (fun i s=>s.set i true) (fun _ s=>s.length=(lV b).length) (J:=fun s=>La br (l5 b) s) (F:=ZL br (l5 b) ((lV b).length:Int)) (fun g i s hi f=>?_) (fun i s _ f=>by grind) (fun g s _=>if_neg (by simp)) (List.replicate (lV b).length false) List.length_replicate).trans ?_
 ·have m:((i:Int)).toNat=i:=rfl;refine(if_pos (decide_eq_true (by omega))).trans ?_;refine(gP ⟨oo,by omega,trivial⟩).trans ?_;exact gP ⟨oo,trivial⟩
 ·show La br (l5 b) _=_;rw[La];refine(lF (n:=br.length) (by omega) (fun i (s:List Bool)=>((i:Int),s)) (fun i s=>s.set (br.getD i 0).toNat false) (fun _ s=>s.length=(lV b).length) (J:=fun s=>some (l5 b,s)) (F:=ZK br (l5 b)) (fun g i s hi f=>?_) (fun i s _ f=>by grind) (fun g s _=>if_neg (by simp)) _ e).trans ?_
  ·have m:((i:Int)).toNat=i:=rfl;have:=c i hi;refine(if_pos (decide_eq_true (by omega))).trans ?_;refine(gP ⟨oo,trivial⟩).trans ?_;rw[m];refine(gP ⟨oo,by omega,trivial⟩).trans ?_;exact gP ⟨oo,trivial⟩
  grind
theorem I0a(e:p9 b=true){lv:List Bool}(d:lv.length=(lV b).length):NL (l5 b,lv)=some (K3 (fun i=>lv.getD i false) (lV b).length):=by
 have f:=U5 e;refine(lF (n:=(lV b).length) (by omega) (fun i (s:List Int)=>(s,(i:Int))) (fun i s=>if lv.getD i false=true then s++[(i:Int)] else s) (fun i s=>s.length<=i) (J:=fun s=>some s) (F:=ZW (l5 b,lv)) (fun g i s hi c=>?_) (fun i s _ c=>?_) (fun g s _=>if_neg (by simp[l5])) [] (Nat.le_refl _)).trans (congrArg some (Oz _ _))
 ·have j:((i:Int)).toNat=i:=rfl;have a:ix (i:Int) (l5 b).2.2.1.length:=⟨by omega,by show(i:Int) < ((lV b).length:Int); omega⟩;refine(if_pos (decide_eq_true a.2)).trans ((gP ⟨a,trivial⟩).trans ?_);rw[lE];refine(gP ⟨⟨by omega,by grind⟩,(fun _=>rfl),trivial⟩).trans ?_;show(if(lv.getD i false&&true)=true then _ else _)=_;rw[Bool.and_true];by_cases h:lv.getD i false=true
  ·rw[if_pos h,if_pos h];refine(gP ⟨⟨by grind,by grind⟩,trivial⟩).trans ?_;exact gP ⟨oo,trivial⟩
  ·rw[if_neg h,if_neg h];exact gP ⟨oo,trivial⟩
 grind
theorem I0b(d:p9 b=true){lv:List Bool}(k:lv.length=(lV b).length)(a:Nat):NJ (l5 b,lv) (a:Int)=some (K3 (fun i=>lv.getD i false&&l9 b i==a) (lV b).length):=by
 have l:=U5 d;refine(lF (n:=(lV b).length) (by omega) (fun i (s:List Int)=>(s,(i:Int))) (fun i s=>if(lv.getD i false&&l9 b i==a)=true then s++[(i:Int)] else s) (fun i s=>s.length<=i) (J:=fun s=>some s) (F:=ZP (l5 b,lv) (a:Int)) (fun g i s hi e=>?_) (fun i s _ e=>?_) (fun g s _=>if_neg (by simp[l5])) [] (Nat.le_refl _)).trans (congrArg some (Oz _ _))
 ·have m:((i:Int)).toNat=i:=rfl;have c:ix (i:Int) (l5 b).2.2.1.length:=⟨by omega,by show(i:Int) < ((lV b).length:Int); omega⟩;refine(if_pos (decide_eq_true c.2)).trans ((gP ⟨c,trivial⟩).trans ?_);rw[lE];refine(gP ⟨⟨by omega,by show(i:Int) < (lv.length:Int); omega⟩,(fun _=>rfl),trivial⟩).trans ?_;obtain⟨j,_⟩:=BD b d hi;have f:(((lV b).getD i (a6 y138)).1==(a:Int))=(l9 b i==a):=by
   rw[j,Bool.eq_iff_iff,beq_iff_eq,beq_iff_eq]; omega
  show(if(lv.getD i false&&(((lV b).getD i (a6 y138)).1==(a:Int)))=true then _ else _)=_;rw[f];by_cases h:(lv.getD i false&&l9 b i==a)=true
  ·rw[if_pos h,if_pos h];refine(gP ⟨⟨by grind,by grind⟩,trivial⟩).trans ?_;exact gP ⟨oo,trivial⟩
  ·rw[if_neg h,if_neg h];exact gP ⟨oo,trivial⟩
 grind
theorem L0W(d:p9 b=true){lv:List Bool}(c:lv.length=(lV b).length)(a:Nat):Fq (l5 b,lv) (a:Int)=some (K3 (fun i=>lv.getD i false&&l9 b i==a) (lV b).length):=by
 unfold Fq;rw[I0b d c,vS,gP ⟨rfl,trivial⟩,lE]
theorem L0X(o:List Int)(h:o.length<=9223372036854775807):NK o 0=some (match(List.range o.length).find? (fun v=>(0:Int)==o.getD v 0) with | some v=>(v:Int) | none => -1):=by
 have a:=HJ h (fun v=>(0:Int)==o.getD v 0) (fun v=>some (v:Int)) (e:=some (-1)) (F:=ZS 0 o) 0 (Nat.zero_le _) (fun g i _ hi=>by
  have c:((i:Int)).toNat=i:=rfl;refine(if_pos (decide_eq_true (by omega))).trans ((gP ⟨oo,trivial⟩).trans ?_);rw[c];by_cases b:((0:Int)==o.getD i 0)=true
  ·simp_all
  ·rw[if_neg b,if_neg b];exact gP ⟨oo,trivial⟩) (fun g=>if_neg (by simp))
 rw[Nat.sub_zero,<- List.range_eq_range'] at a;refine Eq.trans a ?_
 grind
end
section
variable {b:j0}
theorem s0z{o:List Int}{i N:Nat}{x:Int}(h:o.length=N):(o.set i x).length=N:=by grind
theorem F0x(d:p9 b=true){lv:List Bool}{p:Nat->Bool}:lp (Rz (l5 b,lv) (K3 p (lV b).length)) (0,List.replicate (j9 b) 0)=Lc (l5 b,lv) (((List.range (lV b).length).filter p).foldl (Ds (o6 b)) (List.replicate (j9 b) 0)):=by
 have x:=U5 d;obtain⟨E,j⟩:=Ta p (lV b).length;rw[<- SZ,<- j];refine lF (n:=(K3 p (lV b).length).length) (by omega) (fun i (s:List Int)=>((i:Int),s)) (fun i o=>Ds (o6 b) o (((List.range (lV b).length).filter p).getD i 0)) (fun i o=>o.length=j9 b/\∀v,0<=o.getD v 0/\o.getD v 0<=(i:Int)) (J:=fun s=>Lc (l5 b,lv) s) (F:=Rz (l5 b,lv) (K3 p (lV b).length)) (fun g i o hi c=>?_) (fun i o hi c=>?_) (fun g s _=>if_neg (by simp)) _ ⟨List.length_replicate,fun v=>?_⟩
 ·have w:((i:Int)).toNat=i:=rfl;obtain⟨h,e⟩:=c;have a:=LQ (p:=p) (M:=(lV b).length) (i:=i) (by omega);refine(if_pos (decide_eq_true (by omega))).trans ?_;refine(gP ⟨oo,by omega,trivial⟩).trans ?_;rw[w,Tb];generalize ((List.range (lV b).length).filter p).getD i 0=k at a;have y:Int.toNat ((k:Nat):Int)=k:=rfl;obtain⟨u,f,t,q⟩:=BD b d a;have r:ix ((k:Nat):Int) (l5 b).2.2.1.length:=⟨by omega,by show((k:Nat):Int) < ((lV b).length:Int); omega⟩;have z:=e (o6 b k);have l:((l5 b).2.2.1.getD (Int.toNat ((k:Nat):Int)) (a6 y138)).2.1=(o6 b k:Int):=f;have m:Int.toNat ((o6 b k:Nat):Int)=o6 b k:=rfl;rw[l,m];refine(gP ⟨r,oo,by omega,oo,oo,by omega,trivial⟩).trans ?_;rw[lE];exact gP ⟨oo,trivial⟩
 ·obtain⟨h,e⟩:=c;have a:=LQ (p:=p) (M:=(lV b).length) (i:=i) (by omega);obtain⟨u,f,t,q⟩:=BD b d a;refine⟨s0z h,fun v=>?_⟩
  grind[Ds,LL,o6,List.range,lV]
 grind
theorem F0w(f:p9 b=true){lv:List Bool}{p:Nat->Bool}{n:Int}{l:List Int}{v:Int}{a:List Int×Int×List Int->Option (List Int×Bool)}{o:List Int}{A:Int}(T:0<=A)(x:A<=1000000000000)(d:o.length=j9 b)(j:∀w,w<j9 b -> -A<=o.getD w 0/\o.getD w 0<=A):lp (NN (l5 b,lv) (K3 p (lV b).length) n l v a) (0,o)=NM n a (l++[v],((List.range (lV b).length).filter p).foldl (FQ (o6 b)) o):=by
 have E:=U5 f;obtain⟨G,q⟩:=Ta p (lV b).length;rw[<- SZ,<- q];refine lF (n:=(K3 p (lV b).length).length) (by omega) (fun i (s:List Int)=>((i:Int),s)) (fun i o=>FQ (o6 b) o (((List.range (lV b).length).filter p).getD i 0)) (fun i o=>o.length=j9 b/\∀w,w<j9 b -> -A-(i:Int)<=o.getD w 0/\o.getD w 0<=A) (J:=fun s=>NM n a (l++[v],s)) (F:=NN (l5 b,lv) (K3 p (lV b).length) n l v a) (fun g i o hi e=>?_) (fun i o hi e=>?_) (fun g s _=>if_neg (by simp)) _ ⟨d,fun w H=>by grind⟩
 ·have u:((i:Int)).toNat=i:=rfl;obtain⟨d,h⟩:=e;have c:=LQ (p:=p) (M:=(lV b).length) (i:=i) (by omega);refine(if_pos (decide_eq_true (by omega))).trans ?_;refine(gP ⟨oo,by omega,trivial⟩).trans ?_;rw[u,Tb];generalize ((List.range (lV b).length).filter p).getD i 0=k at c;obtain⟨Q,z,P,t⟩:=BD b f c;have m:ix ((k:Nat):Int) (l5 b).2.2.1.length:=⟨by omega,by show((k:Nat):Int) < ((lV b).length:Int); omega⟩;have V:=h (o6 b k) t;have y:((l5 b).2.2.1.getD (Int.toNat ((k:Nat):Int)) (a6 y138)).2.1=(o6 b k:Int):=z;have r:Int.toNat ((o6 b k:Nat):Int)=o6 b k:=rfl;rw[y,r];refine(gP ⟨m,oo,by omega,oo,oo,by omega,trivial⟩).trans ?_;rw[lE];exact gP ⟨oo,trivial⟩
 ·obtain⟨d,h⟩:=e;have c:=LQ (p:=p) (M:=(lV b).length) (i:=i) (by omega)
  grind[FQ]
def O0(b:j0)(lv:List Bool)(out:List Nat)(k:Nat):Option (List Nat):=FR (lV b).length (j9 b) (l9 b) (o6 b) (fun i=>lv.getD i false) k out
theorem Tc(M N:Nat)(fr b:Nat->Nat)(lv:Nat->Bool)(k:Nat)(a:List Nat):FR M N fr b lv (k+1) a=match N7 M N fr b lv a with | none=>none | some v=>FR M N fr b lv k (a++[v]):=rfl
theorem M0h(d:p9 b=true){lv:List Bool}(f:lv.length=(lV b).length):Ld (l5 b,lv)=some (S6 (O0 b lv [] (j9 b))):=by
 have x:=U5 d;have z:=LP b d;have m:∀i,i < (lV b).length->o6 b i<j9 b:=fun i hi=>(BD b d hi).2.2.2;unfold Ld;rw[J0A b d,vS,gP ⟨rfl,⟨by omega,rfl,by omega,by omega⟩,trivial⟩,lE,I0a d f,vS,gP ⟨rfl,trivial⟩,lE,Int.toNat_natCast,F0x d];have u:((List.range (lV b).length).filter fun i=>lv.getD i false).foldl (Ds (o6 b)) (List.replicate (j9 b) 0)=BB (lV b).length (j9 b) (l9 b) (o6 b) (fun i=>lv.getD i false) []:=rfl;rw[u];have k:(BB (lV b).length (j9 b) (l9 b) (o6 b) (fun i=>lv.getD i false) []).length=j9 b:=(z0F (fr:=l9 b) m).len;generalize hv6:BB (lV b).length (j9 b) (l9 b) (o6 b) (fun i=>lv.getD i false) []=v6 at k;rw[Lc];have s:=Td (n:=j9 b) (by omega) (fun i (a:List Nat)=>(a.map (fun v:Nat=>(v:Int)),(i:Int),BB (lV b).length (j9 b) (l9 b) (o6 b) (fun i=>lv.getD i false) a))
  (fun _ a=>(N7 (lV b).length (j9 b) (l9 b) (o6 b) (fun i=>lv.getD i false) a).map fun v=>a++[v]) (fun _ _=>some ([],false))
  (fun i a=>a.length=i/\LM (lV b).length (j9 b) (l9 b) (o6 b) (fun i=>lv.getD i false) a (BB (lV b).length (j9 b) (l9 b) (o6 b) (fun i=>lv.getD i false) a))
  (J:=fun a=>some (a.map (fun v:Nat=>(v:Int)),true)) (F:=ZZ (l5 b,lv) v6)
  (fun g i a hi h=>by
    obtain⟨t,c⟩:=h;have E:((i:Int)).toNat=i:=rfl;refine(if_pos (decide_eq_true (by omega))).trans ?_;rw[L0X _ (by rw[c.len]; omega),s0S c,vS];refine(gP ⟨rfl,trivial⟩).trans ?_;rw[lE];cases hn:N7 (lV b).length (j9 b) (l9 b) (o6 b) (fun i=>lv.getD i false) a with
    | none=>rfl
    | some v =>
      obtain⟨q,P⟩:=Ox hn;have ev:((v:Int)).toNat=v:=rfl;dsimp only;refine(if_neg (by simp)).trans ?_;refine(gP ⟨⟨by omega,by rw[c.len]; omega⟩,by rw[c.len]; omega,trivial⟩).trans ?_;refine(gP ⟨⟨by simp only[List.length_singleton,List.length_map]; omega,by simp only[List.length_singleton,List.length_map]; omega⟩,trivial⟩).trans ?_;show gd ((Fq (l5 b,lv) (v:Int)).isSome=true/\True) (lt (vl (Fq (l5 b,lv) (v:Int))) fun j=>lp (NN (l5 b,lv) j (i:Int) (a.map fun v:Nat=>(v:Int)) (v:Int) g) (0,(BB (lV b).length (j9 b) (l9 b) (o6 b) (fun i=>lv.getD i false) a).set v (-1)))=g ((a++[v]).map (fun v:Nat=>(v:Int)),(((i+1:Nat)):Int),BB (lV b).length (j9 b) (l9 b) (o6 b) (fun i=>lv.getD i false) (a++[v]));rw[L0W d f,vS,gP ⟨rfl,trivial⟩,lE];have r:(a.length:Int)*((lV b).length:Int)<=1000000*6000:=Int.mul_le_mul (by omega) (by omega) (by omega) (by decide);rw[F0w d (A:=6000000001) (by decide) (by decide) (s0z c.len) (fun w o=>by
       rw[LL _ (by rw[c.len]; exact q)];have H:=c.lo w o;have y:=c.hi w o;split <;> omega)]
      rw[l0K,List.map_append];exact gP ⟨oo,trivial⟩)
  (fun i a l hi h G=>by
    obtain⟨t,c⟩:=h;cases hn:N7 (lV b).length (j9 b) (l9 b) (o6 b) (fun i=>lv.getD i false) a with
    | none=>grind
    | some v =>
      grind[Ox,l0K,s0R])
  (fun g a h=>by
    refine(if_neg ?_).trans rfl
    grind)
  (fun i a=>some (S6 (O0 b lv a (j9 b-i)))) (fun a _=>by
    rw[Nat.sub_self]; rfl)
  (fun i a hi h=>by
    have e:j9 b-i=(j9 b-(i+1))+1:=by omega
    show some (S6 (FR _ _ _ _ _ (j9 b-i) a))=_;rw[e,Tc];cases N7 (lV b).length (j9 b) (l9 b) (o6 b) (fun i=>lv.getD i false) a <;> rfl)
  0 (Nat.zero_le _) [] ⟨rfl,z0F m⟩
 grind
end
section
variable {b:j0}
theorem L0V(l:p9 b=true){lv:List Bool}(y:lv.length=(lV b).length):Jg (j9 b:Int) (lV b) lv=some (S6 (O0 b lv [] (j9 b))):=by
 have Y:=U5 l;have hN:=LP b l;have t:∀i,i < (lV b).length->o6 b i<j9 b:=fun i hi=>(BD b l hi).2.2.2;have j:((j9 b:Int)).toNat=j9 b:=rfl;unfold Jg;rw[j];refine(gP ⟨⟨by omega,rfl,by omega,by omega⟩,trivial⟩).trans ?_;exact Td (n:=j9 b) (by omega) (fun _ (a:List Nat)=>(N8 (j9 b) a,a.map (fun v:Nat=>(v:Int))))
  (fun _ a=>(N7 (lV b).length (j9 b) (l9 b) (o6 b) (fun i=>lv.getD i false) a).map fun v=>a++[v]) (fun _ _=>some ([],false))
  (fun i a=>a.length=i/\∀v∈a,v<j9 b)
  (J:=fun a=>some (a.map (fun v:Nat=>(v:Int)),true)) (F:=Wm (lV b) lv (j9 b:Int))
  (fun g i a hi f=>by
    obtain⟨Q,q⟩:=f;have o:=fun w=>l0U q w;refine(if_pos (decide_eq_true (by grind))).trans ?_;rw[j];refine(gP ⟨⟨by omega,rfl,by omega,by omega⟩,trivial⟩).trans ?_;refine(lF (n:=(lV b).length) (by omega) (fun k (w:List Bool)=>((k:Int),w)) (Dt (l9 b) (o6 b) (fun i=>lv.getD i false) a) (fun _ w=>w.length=j9 b) (J:=fun w=>Jf (N8 (j9 b) a) (a.map fun v:Nat=>(v:Int)) (j9 b:Int) g w) (F:=Wl (lV b) lv (N8 (j9 b) a) (a.map fun v:Nat=>(v:Int)) (j9 b:Int) g) (fun T k w E G=>?_) (fun k w _ G=>?_) (fun T w _=>if_neg (by simp)) (List.replicate (j9 b) false) List.length_replicate).trans ?_
    ·have m:((k:Int)).toNat=k:=rfl;obtain⟨H,X,f3,f4⟩:=BD b l E;have x:Int.toNat ((l9 b k:Nat):Int)=l9 b k:=rfl;have V:Int.toNat ((o6 b k:Nat):Int)=o6 b k:=rfl;have W:=(o (l9 b k)).1;refine(if_pos (decide_eq_true (by omega))).trans ?_;rw[m,H,X,x,V,(o (l9 b k)).2];refine(gP ⟨oo,(fun _=>oo),(fun _=>oo),(fun _=>by omega),trivial⟩).trans ?_;unfold Dt;by_cases c:(lv.getD k false&&!a.contains (l9 b k))=true
     ·rw[if_pos c,if_pos c];refine(gP ⟨oo,oo,by omega,trivial⟩).trans ?_;exact gP ⟨oo,trivial⟩
     ·rw[if_neg c,if_neg c];exact gP ⟨oo,trivial⟩
    ·grind[Dt,List.length_set]
    ·show Jf _ _ _ g _=_;rw[Jf,<- r0t (lv:=fun i=>lv.getD i false) (fr:=l9 b) t q];have z:=(n0T (fr:=l9 b) (lv:=fun i=>lv.getD i false) t a 0 _ (Nat.le_refl _)).1;generalize fN (Dt (l9 b) (o6 b) (fun i=>lv.getD i false) a) (lV b).length (List.replicate (j9 b) false)=w at z;have W:=(o 0).1;have d:=HJ (n:=j9 b) (by omega) (fun v=>!((N8 (j9 b) a).getD v false||w.getD v false)) (fun v=>GK (N8 (j9 b) a) (a.map fun v:Nat=>(v:Int)) (j9 b:Int) g (v:Int)) (e:=some ([],false)) (F:=Wk (N8 (j9 b) a) (a.map fun v:Nat=>(v:Int)) (j9 b:Int) w g) 0 (Nat.zero_le _) (fun P v _ r=>by
      have m:((v:Int)).toNat=v:=rfl;have u:decide ((v:Int) < (j9 b:Int))=true:=decide_eq_true (by omega);refine(gP ⟨(fun _=>oo),(fun _=>by omega),(fun _=>oo),(fun _=>by omega),trivial⟩).trans ?_;rw[m,u,Bool.true_and];by_cases c:((N8 (j9 b) a).getD v false||w.getD v false)=true
      ·rw[if_pos c,if_neg (by grind)];exact gP ⟨oo,trivial⟩
      simp_all) (fun P=>by
      have u:decide ((j9 b:Int) < (j9 b:Int))=false:=decide_eq_false (by omega);refine(gP ⟨(fun h=>by grind),(fun h=>by grind),(fun h=>by grind),(fun h=>by grind),trivial⟩).trans ?_
      grind[trans,GK])
     rw[Nat.sub_zero,<- List.range_eq_range'] at d;refine Eq.trans d ?_;cases hn:(List.range (j9 b)).find? fun v=>!((N8 (j9 b) a).getD v false||w.getD v false) with
     | none=>rfl
     | some v =>
       have r:=List.mem_range.1 (List.mem_of_find?_eq_some hn);have m:((v:Int)).toNat=v:=rfl;show GK (N8 (j9 b) a) (a.map fun v:Nat=>(v:Int)) (j9 b:Int) g (v:Int)=g (N8 (j9 b) (a++[v]),(a++[v]).map fun v:Nat=>(v:Int));rw[GK,t0p,List.map_append];refine(if_neg (by grind)).trans ?_;refine(gP ⟨oo,by omega,trivial⟩).trans ?_;exact gP ⟨⟨by grind,by grind⟩,trivial⟩)
  (fun i a s hi f he=>by
    obtain⟨Q,q⟩:=f;cases hn:N7 (lV b).length (j9 b) (l9 b) (o6 b) (fun i=>lv.getD i false) a with
    | none=>grind
    | some v =>
      grind[Ox,List.mem_singleton])
  (fun g a f=>by
    refine(if_neg ?_).trans rfl
    grind)
  (fun i a=>some (S6 (O0 b lv a (j9 b-i)))) (fun a _=>by
    rw[Nat.sub_self]; rfl)
  (fun i a hi f=>by
    have e:j9 b-i=(j9 b-(i+1))+1:=by omega
    show some (S6 (FR _ _ _ _ _ (j9 b-i) a))=_;rw[e,Tc];cases N7 (lV b).length (j9 b) (l9 b) (o6 b) (fun i=>lv.getD i false) a <;> rfl)
  0 (Nat.zero_le _) [] ⟨rfl,fun v r=>nomatch r⟩
theorem OA(M:Nat)(br:List Int):(D2 M br).length=M:=Fy _ _
end
def Cz(b:j0)(br:List Int):Int:=if p9 b=true then(if Ai (lV b).length br=true then 0 else 2) else 1
theorem J0z(b:j0)(a:wf j7 b)(d:c9 j7 b<=1048576)(br:List Int)(c:br.length<=1048576):CS b br=some (Cz b br):=by
 unfold CS Cz;rw[Sz b a d,vS,gP ⟨rfl,trivial⟩];cases hb:p9 b with
 | false=>rfl
 | true =>
   have e:=U5 hb;refine(if_neg (by simp)).trans ?_;rw[SH b a hb,vS,J0w _ br (by omega) c,gP ⟨rfl,rfl,trivial⟩,lE,J0w _ br (by omega) c,vS]
   grind
theorem w0L{b:j0}{br:List Int}(h:Cz b br=0):p9 b=true/\Ai (lV b).length br=true:=by
 unfold Cz at h;split at h
 ·rename_i a;split at h
  ·rename_i c; exact⟨a,c⟩
  ·cases h
 ·cases h
def Tf(b:j0)(br:List Int):List Int×Int:=if Cz b br=0 then(if(S6 (O0 b (D2 (lV b).length br) [] (j9 b))).2=true then((S6 (O0 b (D2 (lV b).length br) [] (j9 b))).1,0) else([],7)) else([],Cz b br)
theorem M0d(b:j0)(c:wf j7 b)(e:c9 j7 b<=1048576)(br:List Int)(d:br.length<=1048576):Jx b br=some (Tf b br):=by
 unfold Jx Tf;rw[J0z b c e br d,vS,gP ⟨rfl,trivial⟩,lE];by_cases h:Cz b br=0
 ·obtain⟨a,g⟩:=w0L h;have f:=U5 a;rw[h];refine(if_neg (by decide)).trans ?_;rw[SH b c a,vS,gP ⟨rfl,trivial⟩,lE,SY b c a,vS,r44 _ _ (by omega) d,vS,L0V a (OA _ _),vS];refine(gP ⟨rfl,rfl,rfl,trivial⟩).trans ?_;rw[lE,if_pos rfl];cases h2:(S6 (O0 b (D2 (lV b).length br) [] (j9 b))).2
  ·refine(if_pos (by simp[h2])).trans ?_;rfl
  ·refine(if_neg (by simp[h2])).trans ?_;rfl
 ·rw[if_neg h];exact if_pos (by simp[h])
section
variable {b:j0}
end
theorem OB{b:j0}(c:p9 b=true)(a:Int):Q6 (l5 b) a=some (j3 a 0 ((j9 b:Int)-1)):=by
 have d:=LP b c;unfold Q6;rw[J0A b c,vS];refine(gP ⟨rfl,oo,rfl,trivial⟩).trans ?_;rw[R5,vS]
section
variable {b:j0}
theorem v0R(d:p9 b=true){lv:List Bool}(k:lv.length=(lV b).length)(a:Nat):Na (l5 b,lv) (a:Int)=some (K3 (fun i=>lv.getD i false&&o6 b i==a) (lV b).length):=by
 have l:=U5 d;refine(lF (n:=(lV b).length) (by omega) (fun i (s:List Int)=>(s,(i:Int))) (fun i s=>if(lv.getD i false&&o6 b i==a)=true then s++[(i:Int)] else s) (fun i s=>s.length<=i) (J:=fun s=>some s) (F:=Yo (l5 b,lv) (a:Int)) (fun g i s hi e=>?_) (fun i s _ e=>?_) (fun g s _=>if_neg (by simp[l5])) [] (Nat.le_refl _)).trans (congrArg some (Oz _ _))
 ·have m:((i:Int)).toNat=i:=rfl;have c:ix (i:Int) (l5 b).2.2.1.length:=⟨by omega,by show(i:Int) < ((lV b).length:Int); omega⟩;refine(if_pos (decide_eq_true c.2)).trans ((gP ⟨c,trivial⟩).trans ?_);rw[lE];refine(gP ⟨⟨by omega,by show(i:Int) < (lv.length:Int); omega⟩,(fun _=>rfl),trivial⟩).trans ?_;obtain⟨_,j,_⟩:=BD b d hi;have f:(((lV b).getD i (a6 y138)).2.1==(a:Int))=(o6 b i==a):=by
   rw[j,Bool.eq_iff_iff,beq_iff_eq,beq_iff_eq]; omega
  show(if(lv.getD i false&&(((lV b).getD i (a6 y138)).2.1==(a:Int)))=true then _ else _)=_;rw[f];by_cases h:(lv.getD i false&&o6 b i==a)=true
  ·rw[if_pos h,if_pos h];refine(gP ⟨⟨by simp only[List.length_singleton]; omega,by simp only[List.length_singleton]; omega⟩,trivial⟩).trans ?_;exact gP ⟨oo,trivial⟩
  ·rw[if_neg h,if_neg h];exact gP ⟨oo,trivial⟩
 ·show(if(lv.getD i false&&o6 b i==a)=true then s++[(i:Int)] else s).length<=i+1;split
  ·rw[List.length_append,List.length_singleton]; omega
  ·omega
theorem M0f(d:p9 b=true){lv:List Bool}(c:lv.length=(lV b).length)(a:Nat):Kt (l5 b,lv) (a:Int)=some (K3 (fun i=>lv.getD i false&&o6 b i==a) (lV b).length):=by
 unfold Kt;rw[v0R d c,vS,gP ⟨rfl,trivial⟩,lE]
end
theorem OC:∀(N:Nat) (l:List Nat),l.Nodup->(∀v∈l,v<N)->l.length<=N
 | 0,l,_,h=>by
   cases l with
   | nil=>exact Nat.le_refl _
   | cons a r=>exact(Nat.not_lt_zero _ (h a (by simp))).elim
 | N+1,l,hd,h=>by
   by_cases c:N∈l
   ·have f:=OC N (l.erase N) (hd.erase N) (fun v b=>by
     have d:=(hd.mem_erase_iff).1 b;have:=h v d.2;have:=d.1;omega)
    have:=List.length_erase_of_mem c;have:0<l.length:=List.length_pos_of_mem c;omega
   ·have:=OC N l hd (fun v b=>by
     have f:=h v b;have:v≠N:=fun e=>c (e ▸ b);omega)
    omega
theorem B0d{l:List Nat}{v:Nat}(h:v∈l):∃p,p<l.length/\l.getD p 0=v:=by
 obtain⟨p,a,e⟩:=List.getElem_of_mem h;exact⟨p,a,by rw[gq,List.getElem?_eq_getElem a]; exact e⟩
structure OGood(M N:Nat)(fr to:Nat->Nat)(lv:Nat->Bool)(out:List Nat):Prop where
 nd:out.Nodup
 lt:∀v∈out,v<N
 bef:∀i,i<M->lv i=true->∀q,q<out.length->out.getD q 0=to i->∃p,p<q/\out.getD p 0=fr i
theorem Tg{l:List Nat}{v q:Nat}(h:q<l.length):(l++[v]).getD q 0=l.getD q 0:=by
 rw[gq,gq,List.getElem?_append_left h]
theorem t0C{l:List Nat}{v:Nat}:(l++[v]).getD l.length 0=v:=by
 rw[gq,List.getElem?_append_right (Nat.le_refl _),Nat.sub_self];rfl
theorem OGood.snoc{M N:Nat}{fr k:Nat->Nat}{lv:Nat->Bool}{d:List Nat}(h:OGood M N fr k lv d){v:Nat}(n:v<N)(s:v ∉ d)(l:AQ M fr k lv d v=0):OGood M N fr k lv (d++[v]):=by
 refine⟨?_,fun w f=>?_,fun i hi m q o e=>?_⟩
 ·rw[List.nodup_append];exact⟨h.nd,by simp,fun a t b u=>fun e=>s (by rw[<- List.mem_singleton.1 u,<- e]; exact t)⟩
 ·rcases List.mem_append.1 f with f | f
  ·exact h.lt w f
  ·rw[List.mem_singleton.1 f]; exact n
 ·rw[List.length_append,List.length_singleton] at o;by_cases c:q<d.length
  ·rw[Tg c] at e;obtain⟨p,g,j⟩:=h.bef i hi m q c e;exact⟨p,g,by rw[Tg (by omega)]; exact j⟩
  ·have c:q=d.length:=by omega
   subst c;rw[t0C] at e;unfold AQ at l;rw[List.countP_eq_zero] at l;have x:=l i (List.mem_range.2 hi);have r:fr i∈d:=by simpa [m,e] using x
   obtain⟨p,g,j⟩:=B0d r;exact⟨p,g,by rw[Tg g]; exact j⟩
theorem v0U{M N:Nat}{fr a:Nat->Nat}{lv:Nat->Bool}:∀(k:Nat) (out l:List Nat),OGood M N fr a lv out->FR M N fr a lv k out=some l->OGood M N fr a lv l/\l.length=out.length+k:=by
 intro k
 induction k with
 | zero=>intro out l h e; cases e; exact⟨h,rfl⟩
 | succ k c =>
   intro out l h e;rw[Tc] at e;cases hn:N7 M N fr a lv out with
   | none=>rw[hn] at e; cases e
   | some v =>
     rw[hn] at e;obtain⟨g,d⟩:=Ox hn;have i:AQ M fr a lv out v=0:=by
      unfold N7 at hn;have:=List.find?_some hn;simp only[ba,beq_iff_eq] at this;exact this.2
     obtain⟨f,b⟩:=c (out++[v]) l (h.snoc g d i) e;exact⟨f,by rw[b,List.length_append,List.length_singleton]; omega⟩
section
variable {b:j0}
def C2(b:j0)(c:p7)(k:Nat)(sp:Sp):Sp×Sp:=vl (Cf (l5 b) c (k:Int) sp)
theorem Th{k:Nat}(a:k < (lV b).length):j3 (k:Int) 0 (((lV b).length:Int)-1)=true:=r6.2 oo
theorem Ti(g:wf j7 b)(e:c9 j7 b<=1048576)(i:p9 b=true){c:p7}(a:wf u5 c)(j:F2 c=true){k:Nat}(d:k < (lV b).length):∃dv lv,SpanV b c (k:Int) dv lv/\∀sp,F4 sp=true->C2 b c k sp=Dv dv lv sp/\Cf (l5 b) c (k:Int) sp=some (C2 b c k sp):=by
 obtain⟨dv,lv,h⟩:=F0j g e i a j (Th d);refine⟨dv,lv,h,fun sp f=>?_⟩;have:=h.spans (Th d) f;unfold C2;rw[this];exact⟨rfl,rfl⟩
theorem z0s(i:wf j7 b)(f:c9 j7 b<=1048576)(l:p9 b=true){c:p7}(a:wf u5 c)(j:F2 c=true){k:Nat}(g:k < (lV b).length){sp:Sp}(d:F4 sp=true):0<=(C2 b c k sp).1.1/\(C2 b c k sp).1.1<=(C2 b c k sp).1.2/\(C2 b c k sp).1.2<=5000000/\F4 (C2 b c k sp).2=true:=by
 obtain⟨m,n,h,e⟩:=Ti i f l a j g;rw[(e sp d).1];exact h.ok d
def R0r(x:u3):Bool:=F3 x.1
abbrev J6(b:j0)(br:List Int):Nat->Bool:=fun i=>(D2 (lV b).length br).getD i false
def LR(b:j0)(c:p7)(br:List Int)(ss:List Ah)(T:Nat->Option u3)(v:Nat):Option u3:=SV (lV b).length (l9 b) (o6 b) (J6 b br) (C2 b c) (N9 ss) T v
def J0j(b:j0)(c:p7)(br:List Int)(ss:List Ah)(out:List Nat):Option (Nat->Option u3):=J0k (lV b).length (l9 b) (o6 b) (J6 b br) (C2 b c) (N9 ss) R0r out fun _=>none
structure OrdOk(b:j0)(br:List Int)(out:List Nat):Prop where
 nd:out.Nodup
 ahead:LN (lV b).length (l9 b) (o6 b) (J6 b br) [] out
 all:∀v,v<j9 b->v∈out
 lt:∀v∈out,v<j9 b
theorem w0T{M:Nat}{fr g:Nat->Nat}{lv:Nat->Bool}{N:Nat}{a:List Nat}(h:OGood M N fr g lv a):LN M fr g lv [] a:=by
 have c:∀(r d:List Nat),a=d++r->LN M fr g lv d r:=by
  intro r
  induction r with
  | nil=>intro d _; trivial
  | cons v r n =>
    intro d e;refine⟨fun k m o l=>?_,n (d++[v]) (by rw[e,List.append_assoc]; rfl)⟩;have i:a.getD d.length 0=v:=by rw[e,gq,List.getElem?_append_right (Nat.le_refl _),Nat.sub_self]; rfl
    have b:d.length<a.length:=by rw[e,List.length_append,List.length_cons]; omega
    obtain⟨p,f,j⟩:=h.bef k m o d.length b (by rw[i,l]);rw[<- j,e,gq,List.getElem?_append_left f,List.getElem?_eq_getElem f];exact List.getElem_mem f
 exact c a [] rfl
theorem F0z(_:p9 b=true){br:List Int}{a:List Nat}(h:O0 b (D2 (lV b).length br) [] (j9 b)=some a):OrdOk b br a:=by
 have j:OGood (lV b).length (j9 b) (l9 b) (o6 b) (J6 b br) []:=⟨List.nodup_nil,fun _ h=>(by cases h),fun i _ _ q g=>(Nat.not_lt_zero _ g).elim⟩;obtain⟨c,k⟩:=v0U (j9 b) [] a j h;rw[List.length_nil,Nat.zero_add] at k;refine⟨c.nd,w0T c,fun v l=>?_,c.lt⟩;by_cases f:v∈a
 ·exact f
 ·have:=OC (j9 b) (v :: a) (List.nodup_cons.2 ⟨f,c.nd⟩) (fun w d=>by
   rcases List.mem_cons.1 d with e | d
   ·omega
   ·exact c.lt w d)
  rw[List.length_cons] at this;omega
end
theorem q0A{a:Type}(p:Nat->Bool)(g:Nat->a->a)(M:Nat)(s:a):fN (fun i s=>g (((List.range M).filter p).getD i 0) s) ((List.range M).filter p).length s=fN (fun k s=>if p k=true then g k s else s) M s:=by
 rw[SZ (fun s k=>g k s)]
 induction M with
 | zero=>rfl
 | succ M b =>
   rw[List.range_succ,List.filter_append,List.foldl_append,b];show _=if p M=true then g M (fN (fun k s=>if p k=true then g k s else s) M s) else fN (fun k s=>if p k=true then g k s else s) M s
   by_cases c:p M=true
   ·rw[if_pos c,List.filter_cons_of_pos c]; rfl
   ·rw[if_neg c,List.filter_cons_of_neg c]; rfl
theorem j0u(a b:Sp):Cw a b=Cw b a:=by
 unfold Cw;rw[Int.min_comm,Int.max_comm]
section
variable {M:Nat} {fr to:Nat->Nat} {lv:Nat->Bool} {sp:Nat->Sp->Sp×Sp} {src:Nat->Option u3}
end
section
variable {b:j0}
theorem o0z{s:Sp}:F3 s=true ↔ -1000000000<=s.1/\s.1<=s.2/\s.2<=1000000000:=by
 unfold F3;simp only[ba,dq,r6];omega
structure Tj(N:Nat)(t:HF):Prop where
 l1:t.1.length=N
 l2:t.2.1.length=N
 l3:t.2.2.length=N
 vals:∀v,v<N->F3 (t.2.1.getD v (0,0))=true/\F4 (t.2.2.getD v (0,0))=true/\(t.1.getD v false=false->t.2.1.getD v (0,0)=(0,0)/\t.2.2.getD v (0,0)=(0,0))
end
theorem B0v{d:List Nat}{v:Nat}(h:v ∉ d)(r:List Nat):(d++v :: r).idxOf v=d.length:=by
 rw[List.idxOf_append,if_neg h,List.idxOf_cons_self];omega
theorem F0P{d:List Nat}{v:Nat}(h:v∈d)(r:List Nat):(d++r).idxOf v<d.length:=by
 rw[List.idxOf_append,if_pos h];exact List.idxOf_lt_length_of_mem h
theorem m0D{M:Nat}{fr a:Nat->Nat}{lv:Nat->Bool}{k:Nat}(b:k<M)(c:lv k=true):∀(r d:List Nat),(d++r).Nodup->LN M fr a lv d r->a k∈r->fr k∈d++r/\(d++r).idxOf (fr k) < (d++r).idxOf (a k)
 | [],_,_,_,h=>by cases h
 | v :: r,d,hd,ha,h=>by
   by_cases e:a k=v
   ·have f:=ha.1 k b c e;have i:v ∉ d:=fun g=>(List.nodup_append.1 hd).2.2 v g v List.mem_cons_self rfl;rw[e,B0v i];exact⟨List.mem_append_left _ f,F0P f _⟩
   ·have:=m0D b c r (d++[v]) (by rw[List.append_assoc]; exact hd) ha.2 (List.mem_of_ne_of_mem e h)
    rwa [List.append_assoc] at this
theorem OrdOk.pos{b:j0}{br:List Int}{a:List Nat}(h:OrdOk b br a){k:Nat}(e:k < (lV b).length)(d:J6 b br k=true)(c:o6 b k<j9 b):a.idxOf (l9 b k)<a.idxOf (o6 b k)/\l9 b k<j9 b:=by
 have:=m0D e d a [] h.nd h.ahead (h.all _ c);exact⟨this.2,h.lt _ this.1⟩
theorem OrdOk.idx{b:j0}{br:List Int}{a:List Nat}(h:OrdOk b br a){v:Nat}(c:v<j9 b):a.idxOf v<a.length:=List.idxOf_lt_length_of_mem (h.all v c)
theorem FT(s:Int×Int):I2 s=some (F3 s)/\O3 s=some (F3 s):=by
 have e:∀x,CV x=some (j3 x (-1000000000) 1000000000):=fun _=>rfl;refine⟨?_,?_⟩
 ·unfold I2;rw[e,e,vS,vS];exact gP ⟨rfl,fun _=>rfl,trivial⟩
 ·unfold O3;rw[M3,M3,vS,vS];exact gP ⟨rfl,fun _=>rfl,trivial⟩
def Dw(n:Int)(l:List l6)(i:Nat):Bool:=!j3 (l.getD i (a6 y75)).1 0 (n-1)||!F3 (l.getD i (a6 y75)).2.1||!F4 (l.getD i (a6 y75)).2.2||decide (0 < (i:Int))&&decide ((l.getD i (a6 y75)).1<=(l.getD ((i:Int)-1).toNat (a6 y75)).1)
def F9(b:j0):Int:=2*((l8 b.2.1).length:Int)
def AR(b:j0)(l:List l6):Bool:=!(List.range l.length).any (Dw (F9 b) l)
theorem R0c(b:j0)(c:p9 b=true)(a:Int):Q6 (l5 b) a=some (j3 a 0 (F9 b-1)):=by
 have e:F9 b=(j9 b:Int):=by
  unfold F9 j9;omega
 rw[e];exact OB c a
theorem M0j(b:j0)(f:p9 b=true)(l:List l6)(d:l.length<=9223372036854775807):KZ (l5 b) l=some (AR b l):=by
 have a:=C4 (n:=l.length) d (Dw (F9 b) l) (some false) (e:=some true) (F:=ZI (l5 b) l) (fun g i hi=>by
  have c:((i:Int)).toNat=i:=rfl;refine(if_pos (by simpa using hi)).trans ?_;rw[c,gP ⟨oo,trivial⟩,lE,R0c b f,vS,(FT _).1,vS,(Ov _).1,vS,gP ⟨rfl,(fun _=>rfl),(fun _=>rfl),(fun h=>⟨by have:=of_decide_eq_true h.1; omega,by omega⟩),(fun h=>⟨by have:=of_decide_eq_true h.1; omega,by omega⟩),trivial⟩,gP ⟨oo,trivial⟩];rfl) (fun g=>aE)
 unfold KZ AR;refine a.trans ?_;cases(List.range l.length).any (Dw (F9 b) l) <;> rfl
theorem M0e(b:j0)(d:wf j7 b)(k:p9 b=true)(l:List l6)(m:l.length<=9223372036854775807):Jy b l=some (AR b l):=by
 have a:=N4 (P2 k).1;have f:(J1 b.2.1.1.length b.2.1.2.2.length (j6 b.2.1) (s7 b.2.1)).length<=78:=a.len;have e:L5 b=some (F9 b):=by
  unfold L5;rw[Dl b.2.1 d.2.1 a.fac.ni14 a.fac.np8 a.pin,vS,gP ⟨rfl,oo,trivial⟩,lE];rfl
 have o:0<=F9 b/\F9 b<=156:=by
  have:(l8 b.2.1).length<=78:=f;unfold F9;omega
 have c:=C4 (n:=l.length) m (Dw (F9 b) l) (some false) (e:=some true) (F:=Xk l (F9 b)) (fun g i hi=>by
  have j:((i:Int)).toNat=i:=rfl;refine(if_pos (by simpa using hi)).trans ?_;rw[j,M3,vS,(FT _).2,vS,(Ov _).2,vS,gP ⟨oo,oo,rfl,(fun h=>⟨by have:=of_decide_eq_true h.1; omega,by omega⟩),(fun h=>⟨by have:=of_decide_eq_true h.1; omega,by omega⟩),(fun _=>oo),(fun _=>oo),(fun _=>rfl),(fun _=>oo),(fun _=>rfl),trivial⟩,gP ⟨oo,trivial⟩];unfold Dw;cases j3 (l.getD i (a6 y75)).1 0 (F9 b-1) <;> cases F3 (l.getD i (a6 y75)).2.1 <;> cases F4 (l.getD i (a6 y75)).2.2 <;> cases decide (0 < (i:Int)) <;> cases decide ((l.getD i (a6 y75)).1<=(l.getD ((i:Int)-1).toNat (a6 y75)).1) <;> rfl) (fun g=>aE)
 unfold Jy;rw[e,vS,gP ⟨rfl,trivial⟩,lE];refine c.trans ?_;unfold AR;cases(List.range l.length).any (Dw (F9 b) l) <;> rfl
def zs(s:Int×Int):Bool:=s.1==0&&(s.2==0&&true)
def FU(t:A0)(i:Nat):Bool:=!F3 (t.2.1.getD i (a6 y73))||!F4 (t.2.2.getD i (a6 y73))||!t.1.getD i false&&(!zs (t.2.1.getD i (a6 y73))||!zs (t.2.2.getD i (a6 y73)))
def AS(n:Int)(t:A0):Bool:=(t.1.length:Int) != n||(t.2.1.length:Int) != n||(t.2.2.length:Int) != n
def BE(n:Int)(t:A0):Bool:=!AS n t&&!(List.range t.1.length).any (FU t)
theorem l0k{n:Int}{t:A0}(h:AS n t=false):t.2.1.length=t.1.length/\t.2.2.length=t.1.length:=by
 unfold AS at h;simp only[Bool.or_eq_false_iff,bne_eq_false_iff_eq] at h;omega
theorem M0l(b:j0)(l:p9 b=true)(t:A0)(j:wf y65 t):KY (l5 b) t=some (BE (F9 b) t):=by
 have q:=(N4 (P2 l).1).len;have e:∀s:List w4,GW s=some (s.length:Int):=fun _=>rfl;have h:∀s:List Bool,He s=some (s.length:Int):=fun _=>rfl;have d:∀s:List q7,Fo s=some (s.length:Int):=fun _=>rfl;have f:L6 (l5 b)=some (F9 b):=by
  unfold L6;rw[e,vS,gP ⟨rfl,⟨by show _<=2*((l8 b.2.1).length:Int); omega,by show 2*((l8 b.2.1).length:Int)<=_; omega⟩,trivial⟩,lE];rfl
 have a:t.1.length<=9223372036854775807:=j.1.1;unfold KY;rw[f,vS,gP ⟨rfl,trivial⟩,lE,h,d,d,vS,vS,vS,gP ⟨rfl,(fun _=>rfl),(fun _=>rfl),trivial⟩,lE];show(if AS (F9 b) t=true then some false else _)=_;unfold BE;cases hc:AS (F9 b) t with
 | true=>rfl
 | false =>
   obtain⟨m,o⟩:=l0k hc;have c:=C4 (n:=t.1.length) a (FU t) (some false) (e:=some true) (F:=ZG t) (fun g i hi=>by
    have k:((i:Int)).toNat=i:=rfl;refine(if_pos (by simpa using hi)).trans ?_;rw[k,gP ⟨oo,trivial⟩,(FT _).1,vS,(Ov _).1,vS,gP ⟨oo,rfl,(fun _=>oo),(fun _=>rfl),(fun _=>oo),(fun _=>oo),trivial⟩,lE,gP ⟨oo,trivial⟩];rfl) (fun g=>aE)
   refine(if_neg (by simp)).trans (c.trans ?_);cases(List.range t.1.length).any (FU t) <;> rfl
theorem r85(n:Int)(t:A0)(c:wf y65 t):JB n t=some (BE n t):=by
 have a:t.1.length<=9223372036854775807:=c.1.1;unfold JB;show(if AS n t=true then some false else _)=_;unfold BE;cases hc:AS n t with
 | true=>rfl
 | false =>
   obtain⟨h,f⟩:=l0k hc;have b:=C4 (n:=t.1.length) a (FU t) (some false) (e:=some true) (F:=Xp t) (fun g i hi=>by
    have d:((i:Int)).toNat=i:=rfl;refine(if_pos (by simpa using hi)).trans ?_;rw[d,(FT _).2,vS,(Ov _).2,vS,gP ⟨oo,rfl,(fun _=>oo),(fun _=>rfl),(fun _=>oo),(fun _=>oo),(fun _=>oo),trivial⟩,lE,gP ⟨oo,trivial⟩];rfl) (fun g=>aE)
   refine(if_neg (by simp)).trans (b.trans ?_);cases(List.range t.1.length).any (FU t) <;> rfl
section
variable {b:j0}
theorem Tk:F9 b=(j9 b:Int):=by
 unfold F9 j9;omega
theorem j0f{n:Int}{l:List l6}{i:Nat}:Dw n l i=false↔((0<=(l.getD i (a6 y75)).1/\(l.getD i (a6 y75)).1<n)/\F3 (l.getD i (a6 y75)).2.1=true/\F4 (l.getD i (a6 y75)).2.2=true)/\(0<i->(l.getD (i-1) (a6 y75)).1 < (l.getD i (a6 y75)).1):=by
 have e:((i:Int)-1).toNat=i-1:=by omega
 unfold Dw;rw[e];simp only[Bool.or_eq_false_iff,Bool.not_eq_false',Bool.and_eq_false_iff,decide_eq_false_iff_not,r6];constructor
 ·rintro⟨⟨⟨a,c⟩,d⟩,f⟩;exact⟨⟨⟨a.1,by omega⟩,c,d⟩,fun b=>by rcases f with f | f <;> omega⟩
 ·rintro⟨⟨a,c,d⟩,f⟩;refine⟨⟨⟨⟨a.1,by omega⟩,c⟩,d⟩,?_⟩;by_cases b:0<i
  ·exact .inr (by have:=f b; omega)
  ·exact .inl (by omega)
theorem v0p{l:List l6}:AR b l=true↔∀i,i<l.length->((0<=(l.getD i (a6 y75)).1/\(l.getD i (a6 y75)).1 < (j9 b:Int))/\F3 (l.getD i (a6 y75)).2.1=true/\F4 (l.getD i (a6 y75)).2.2=true)/\(0<i->(l.getD (i-1) (a6 y75)).1 < (l.getD i (a6 y75)).1):=by
 unfold AR;rw[AL,Tk];exact⟨fun h i hi=>j0f.1 (h i hi),fun h i hi=>j0f.2 (h i hi)⟩
theorem s0t{l:List l6}(h:AR b l=true):HI l/\∀s∈l,(0<=s.1/\s.1 < (j9 b:Int))/\F3 s.2.1=true/\F4 s.2.2=true:=by
 have d:=v0p.1 h;constructor
 ·refine List.pairwise_iff_getElem.2 fun i j hi f a=>?_;have c:∀k,i<k->k<l.length->(l.getD i (a6 y75)).1 < (l.getD k (a6 y75)).1:=by
   intro k
   induction k with
   | zero=>intro q; omega
   | succ k m =>
     intro o n;have s:=(d (k+1) n).2 (by omega);rw[Nat.add_sub_cancel] at s;by_cases e:i=k
     ·subst e; exact s
     ·exact Int.lt_trans (m (by omega) (by omega)) s
  have:=c j a f
  rwa [gq,List.getElem?_eq_getElem hi,gq,List.getElem?_eq_getElem f] at this
 ·intro s g;obtain⟨i,hi,rfl⟩:=List.mem_iff_getElem.1 g;have:=(d i hi).1
  rwa [gq,List.getElem?_eq_getElem hi] at this
theorem w0Y{s:Int×Int}:zs s=true↔s=(0,0):=by
 obtain⟨x,y⟩:=s;unfold zs;simp
theorem o0t{t:A0}:BE (F9 b) t=true↔Tj (j9 b) t:=by
 have j:a6 y73=((0:Int),(0:Int)):=rfl;unfold BE;rw[ba,AL,Tk];have e:∀i,FU t i=false↔(F3 (t.2.1.getD i (0,0))=true/\F4 (t.2.2.getD i (0,0))=true/\(t.1.getD i false=false->t.2.1.getD i (0,0)=(0,0)/\t.2.2.getD i (0,0)=(0,0))):=fun i=>by
  unfold FU;rw[j,<- w0Y,<- w0Y];generalize zs (t.2.1.getD i (0,0))=z1;generalize zs (t.2.2.getD i (0,0))=z2;generalize F3 (t.2.1.getD i (0,0))=s1;generalize F4 (t.2.2.getD i (0,0))=s2;generalize t.1.getD i false=r;cases z1 <;> cases z2 <;> cases s1 <;> cases s2 <;> cases r <;> simp
 constructor
 ·rintro⟨f,g⟩;have f:AS (j9 b:Int) t=false:=by simpa using f
  unfold AS at f;simp only[Bool.or_eq_false_iff,bne_eq_false_iff_eq] at f;obtain⟨⟨a,c⟩,d⟩:=f;exact⟨by omega,by omega,by omega,fun v k=>(e v).1 (g v (by omega))⟩
 ·rintro⟨a,c,d,h⟩;refine⟨?_,fun i hi=>(e i).2 (h i (by omega))⟩;have:AS (j9 b:Int) t=false:=by
   unfold AS;rw[a,c,d];simp
  rw[this];rfl
end
theorem B0A{a:Type}(q:a->Bool)(d:a)(l:List a):l.find? q=((List.range l.length).find? fun i=>q (l.getD i d)).map fun i=>l.getD i d:=by
 cases h:(List.range l.length).find? fun i=>q (l.getD i d) with
 | none =>
   rw[List.find?_eq_none] at h;refine List.find?_eq_none.2 fun x b=>?_;obtain⟨i,hi,rfl⟩:=List.mem_iff_getElem.1 b
   simp_all
 | some i =>
   grind[List.find?_range_eq_some,hi,List.find?_eq_some_iff_getElem,List.getElem?_eq_getElem]
theorem v0Q(l:List l6)(v:Nat)(d:l.length<=9223372036854775807):Nc l (v:Int)=some (match(List.range l.length).find? (fun i=>(l.getD i (a6 y75)).1==(v:Int)) with | some i=>(i:Int) | none => -1):=by
 have a:=HJ d (fun i=>(l.getD i (a6 y75)).1==(v:Int)) (fun i=>some (i:Int)) (e:=some (-1)) (F:=Ys l (v:Int)) 0 (Nat.zero_le _) (fun g i _ hi=>by
  have c:((i:Int)).toNat=i:=rfl;refine(if_pos (decide_eq_true (by omega))).trans ?_;rw[c];refine(gP ⟨oo,rfl,trivial⟩).trans ?_;show(if((l.getD i (a6 y75)).1==(v:Int))=true then _ else _)=_;by_cases b:((l.getD i (a6 y75)).1==(v:Int))=true
  ·simp_all
  ·rw[if_neg b,if_neg b];exact gP ⟨oo,trivial⟩) (fun g=>if_neg (by simp))
 rw[Nat.sub_zero,<- List.range_eq_range'] at a;refine Eq.trans a ?_
 grind
def J0i(v:Nat)(o:Option u3):l6×Bool:=match o with
 | some x=>(((v:Int),x.1,x.2),true)
 | none=>((0,(0,0),0,0),false)
theorem M0g(l:List l6)(v:Nat)(d:l.length<=9223372036854775807):Ku l (v:Int)=some (J0i v (N9 l v)):=by
 unfold Ku;rw[v0Q l v d,vS,gP ⟨rfl,trivial⟩,lE];unfold N9;rw[B0A _ (a6 y75)];cases h:(List.range l.length).find? fun i=>(l.getD i (a6 y75)).1==(v:Int) with
 | none=>rfl
 | some i =>
   rw[List.find?_range_eq_some] at h;obtain⟨a,c,-⟩:=h;have hi:=List.mem_range.1 c;have b:((i:Int)).toNat=i:=rfl;have a:(l.getD i (a6 y75)).1=(v:Int):=by simpa using a
   show(if decide ((0:Int)<=(i:Int))=true then _ else _)=_;refine(if_pos (decide_eq_true (by omega))).trans ?_;show gd (ix (i:Int) l.length/\True) _=_;rw[b];refine(gP ⟨oo,trivial⟩).trans ?_;rw[lE];show some (l.getD i (a6 y75),true)=some (((v:Int),(l.getD i (a6 y75)).2.1,(l.getD i (a6 y75)).2.2),true)
   grind
def CA(v:Nat)(o:Option u3):Bool×l6:=match o with
 | some x=>(true,(v:Int),x.1,x.2)
 | none=>(false,0,(0,0),0,0)
def H8(v:Nat)(o:Option u3):l6×Bool:=match o with
 | some x=>(((v:Int),x.1,x.2),true)
 | none=>(((v:Int),(0,0),0,0),false)
theorem F0N(v:Nat)(o:Option u3)(x:u3):Dd (H8 v o).1 (H8 v o).2 x.1 x.2=some (H8 v (Du o x)):=by
 cases o with
 | none=>rfl
 | some y =>
   unfold Dd;exact(if_neg (by simp[H8])).trans ((gP ⟨rfl,rfl,trivial⟩).trans rfl)
section
variable {b:j0}
theorem z0U{t:HF}{v:Nat}:X0 t v=if t.1.getD v false=true then some (t.2.1.getD v (0,0),t.2.2.getD v (0,0)) else none:=rfl
theorem J0a(u:wf j7 b)(s:c9 j7 b<=1048576)(a:p9 b=true){c:p7}(f:wf u5 c)(w:F2 c=true){br:List Int}{ss:List l6}(hl:ss.length<=9223372036854775807){t:HF}(l:Tj (j9 b) t)(v:Nat) :
  u64 (l5 b,D2 (lV b).length br) c ss t (v:Int)=some (CA v (LR b c br ss (X0 t) v)):=by
 have hM:=U5 a;have m:=OA (lV b).length br;unfold u64;rw[M0g ss v hl,vS,gP ⟨rfl,trivial⟩,lE];have d:∀o,Lj t (l5 b,D2 (lV b).length br) c (v:Int) ((H8 v o).1.1,(H8 v o).1.2.1.1,(H8 v o).1.2.1.2,(H8 v o).1.2.2.1,(H8 v o).1.2.2.2,(H8 v o).2)=some (CA v (fN (HE (l9 b) (o6 b) (J6 b br) (C2 b c) (X0 t) v) (lV b).length o)):=by
  intro o;rw[Lj,M0f a m v,vS,gP ⟨rfl,trivial⟩,lE];obtain⟨q1,E⟩:=Ta (fun i=>J6 b br i&&o6 b i==v) (lV b).length;refine(lF (n:=(K3 (fun i=>J6 b br i&&o6 b i==v) (lV b).length).length) (by omega) (fun i (o:Option u3)=>((i:Int),(H8 v o).1.1,(H8 v o).1.2.1.1,(H8 v o).1.2.1.2,(H8 v o).1.2.2.1,(H8 v o).1.2.2.2,(H8 v o).2)) (fun i o=>match X0 t (l9 b (((List.range (lV b).length).filter fun i=>J6 b br i&&o6 b i==v).getD i 0)) with
   | none=>o
   | some x=>Du o (Ag x.1 (C2 b c (((List.range (lV b).length).filter fun i=>J6 b br i&&o6 b i==v).getD i 0) x.2).1,(C2 b c (((List.range (lV b).length).filter fun i=>J6 b br i&&o6 b i==v).getD i 0) x.2).2)) (fun _ _=>True) (J:=fun o=>some (CA v o)) (F:=D0j t (l5 b,D2 (lV b).length br) c (K3 (fun i=>J6 b br i&&o6 b i==v) (lV b).length)) (fun g i o hi _=>?_) (fun _ _ _ _=>trivial) (fun g o _=>?_) o trivial).trans ?_
  ·have T:((i:Int)).toNat=i:=rfl;have j:=LQ (p:=fun i=>J6 b br i&&o6 b i==v) (M:=(lV b).length) (i:=i) (by omega);refine(if_pos (decide_eq_true (by omega))).trans ?_;rw[T];refine(gP ⟨oo,by omega,trivial⟩).trans ?_;rw[Tb];generalize ((List.range (lV b).length).filter fun i=>J6 b br i&&o6 b i==v).getD i 0=k at j;have y:Int.toNat ((k:Nat):Int)=k:=rfl;obtain⟨Q,f2,P,f4⟩:=BD b a j;have z:ix ((k:Nat):Int) (l5 b).2.2.1.length:=⟨by omega,by show((k:Nat):Int) < ((lV b).length:Int); omega⟩;refine(gP ⟨z,trivial⟩).trans ?_;rw[lE,y];have X:((l5 b).2.2.1.getD k (a6 y138)).1=(l9 b k:Int):=Q;have G:Int.toNat ((l9 b k:Nat):Int)=l9 b k:=rfl;have r:=l.vals _ P;have n1:=l.l1;have n2:=l.l2;have n3:=l.l3;rw[X];refine(gP ⟨oo,trivial⟩).trans ?_;rw[G];rw[z0U];by_cases h:t.1.getD (l9 b k) false=true
   ·rw[if_pos h,if_pos h];obtain⟨_,_,_,e⟩:=Ti u s a f w j;have Y:=(e _ r.2.1).2;have ok:=z0s u s a f w j r.2.1;have V:=o0z.1 r.1;rw[show t.2.2.getD (l9 b k) (a6 y73)=t.2.2.getD (l9 b k) (0,0) from rfl,Y,vS];refine(gP ⟨oo,rfl,trivial⟩).trans ?_;rw[lE];have H:Ce (t.2.1.getD (l9 b k) (a6 y73)) (C2 b c k (t.2.2.getD (l9 b k) (0,0))).1=some (Ag (t.2.1.getD (l9 b k) (0,0)) (C2 b c k (t.2.2.getD (l9 b k) (0,0))).1):=by
     unfold Ce;refine(gP ⟨⟨?_,?_⟩,⟨?_,?_⟩,trivial⟩).trans rfl
     ·grind
     ·grind
     ·grind
     ·grind
    rw[H,vS];have W:=F0N v o (Ag (t.2.1.getD (l9 b k) (0,0)) (C2 b c k (t.2.2.getD (l9 b k) (0,0))).1,(C2 b c k (t.2.2.getD (l9 b k) (0,0))).2);have q:Dd ((H8 v o).1.1,((H8 v o).1.2.1.1,(H8 v o).1.2.1.2),(H8 v o).1.2.2.1,(H8 v o).1.2.2.2) (H8 v o).2 (Ag (t.2.1.getD (l9 b k) (0,0)) (C2 b c k (t.2.2.getD (l9 b k) (0,0))).1) (C2 b c k (t.2.2.getD (l9 b k) (0,0))).2=some (H8 v (Du o (Ag (t.2.1.getD (l9 b k) (0,0)) (C2 b c k (t.2.2.getD (l9 b k) (0,0))).1,(C2 b c k (t.2.2.getD (l9 b k) (0,0))).2))):=W;simp only[q,vS,Option.isSome_some];refine(gP ⟨⟨oo,trivial,trivial⟩,trivial,trivial⟩).trans ?_;rw[lE];refine(gP trivial).trans ?_;exact gP ⟨oo,trivial⟩
   ·rw[if_neg h,if_neg h];exact gP ⟨oo,trivial⟩
  ·refine(if_neg (by simp)).trans ?_;cases o <;> rfl
  ·rw[E];exact congrArg (fun x=>some (CA v x)) (q0A (fun i=>J6 b br i&&o6 b i==v) (fun k (o:Option u3)=>match X0 t (l9 b k) with
    | none=>o
    | some x=>Du o (Ag x.1 (C2 b c k x.2).1,(C2 b c k x.2).2)) (lV b).length o)
 show(if(J0i v (N9 ss v)).2=true then _ else _)=some (CA v (fN (HE (l9 b) (o6 b) (J6 b br) (C2 b c) (X0 t) v) (lV b).length (N9 ss v)));cases V:N9 ss v with
 | none=>exact d none
 | some x =>
   refine(if_pos rfl).trans ?_;refine(gP ⟨trivial,rfl,trivial⟩).trans ?_;rw[lE];refine(gP trivial).trans ?_;exact d (some x)
end
def K4(v i:Nat)(o:Option u3):Bool×Int×Int×Int×Int×Int×Int:=match o with
 | some x=>(true,(i:Int),(v:Int),x.1.1,x.1.2,x.2.1,x.2.2)
 | none=>(false,(i:Int),0,0,0,0,0)
section
variable {b:j0}
theorem v0o(e:wf j7 b)(i:c9 j7 b<=1048576)(g:p9 b=true){c:p7}(f:wf u5 c)(h:F2 c=true){k:Nat}(d:k < (lV b).length){sp:Sp}(a:F4 sp=true):GH b c ((lV b).getD k (a6 y138)) sp=some (C2 b c k sp):=by
 obtain⟨v,j,l⟩:=q0I e g h (Th d) sp a
 grind[Ti]
theorem F0H(hw:wf j7 b)(hm:c9 j7 b<=1048576)(z:p9 b=true){c:p7}(u:wf u5 c)(hc:F2 c=true){br:List Int}{ss:List l6}(hl:ss.length<=9223372036854775807)(hi:HI ss){t:HF}(E:Tj (j9 b) t)(v:Nat) :
  Lg b c (lV b) (D2 (lV b).length br) ss t (v:Int)=some (CA v (LR b c br ss (X0 t) v)):=by
 have hM:=U5 z;have aA:=OA (lV b).length br;have V:∀o,Hh (v:Int) t b c (D2 (lV b).length br) (lV b) ((K4 v 0 o).1,(K4 v 0 o).2.2)=some (CA v (fN (HE (l9 b) (o6 b) (J6 b br) (C2 b c) (X0 t) v) (lV b).length o)):=by
  intro o;rw[Hh];have e0:((K4 v 0 o).1,(0:Int),(K4 v 0 o).2.2.1,(K4 v 0 o).2.2.2.1,(K4 v 0 o).2.2.2.2.1,(K4 v 0 o).2.2.2.2.2.1,(K4 v 0 o).2.2.2.2.2.2)=K4 v 0 o:=by cases o <;> rfl
  rw[e0];refine lF (n:=(lV b).length) (by omega) (fun i o=>K4 v i o) (fun k o=>HE (l9 b) (o6 b) (J6 b br) (C2 b c) (X0 t) v k o) (fun _ _=>True) (J:=fun o=>some (CA v o)) (F:=D0l (v:Int) t b c (D2 (lV b).length br) (lV b)) (fun g k o Q _=>?_) (fun _ _ _ _=>trivial) (fun g o _=>?_) o trivial
  ·have H:Int.toNat ((k:Nat):Int)=k:=rfl;obtain⟨f1,f2,f3,f4⟩:=BD b z Q;have W:=E.vals _ f3;have n1:=E.l1;have n2:=E.l2;have n3:=E.l3;have e6:Int.toNat ((l9 b k:Nat):Int)=l9 b k:=rfl;have a:∀(q:Bool) (P X Y G T:Int) (y:Option u3),K4 v (k+1) y=(q,(k:Int)+1,P,X,Y,G,T)->Hg (k:Int) g (q,P,X,Y,G,T)=g (K4 v (k+1) y):=fun q P X Y G T y e=>by
    rw[e];exact gP ⟨oo,trivial⟩
   obtain⟨q,m,x,l,s,r,d⟩:∃q m x l s r,K4 v k o=(q,(k:Int),m,x,l,s,r):=by cases o <;> exact⟨_,_,_,_,_,_,rfl⟩
   rw[d];refine(if_pos (decide_eq_true (by omega))).trans ?_;refine(gP ⟨oo,trivial⟩).trans ?_;rw[lE,H];have ne:(((lV b).getD k (a6 y138)).2.1 != (v:Int))=!(o6 b k==v):=by
    rw[f2];by_cases h:o6 b k=v
    ·grind
    ·grind
   rw[ne,f1,e6];refine(gP ⟨oo,(fun _=>oo),trivial⟩).trans ?_;show(if(!J6 b br k||!(o6 b k==v)||!t.1.getD (l9 b k) false)=true then _ else _)=_;unfold HE;by_cases w:(J6 b br k&&o6 b k==v)=true
   ·rw[if_pos w,z0U];rw[ba] at w;rw[w.1,w.2];by_cases j:t.1.getD (l9 b k) false=true
    ·rw[if_pos j,j];rw[if_neg (by simp)];have es:=v0o hw hm z u hc Q W.2.1;have ok:=z0s hw hm z u hc Q W.2.1;have hs:=o0z.1 W.1;rw[show t.2.2.getD (l9 b k) (a6 y73)=t.2.2.getD (l9 b k) (0,0) from rfl,show t.2.1.getD (l9 b k) (a6 y73)=t.2.1.getD (l9 b k) (0,0) from rfl,es,vS];refine(gP ⟨oo,rfl,trivial⟩).trans ?_;rw[lE];refine(gP ⟨oo,oo,oo,oo,trivial⟩).trans ?_;show _=g (K4 v (k+1) (Du o (Ag (t.2.1.getD (l9 b k) (0,0)) (C2 b c k (t.2.2.getD (l9 b k) (0,0))).1,(C2 b c k (t.2.2.getD (l9 b k) (0,0))).2)));generalize t.2.1.getD (l9 b k) (0,0)=A at hs;generalize C2 b c k (t.2.2.getD (l9 b k) (0,0))=D at ok;cases o with
     | none =>
       cases d;rw[if_neg (by simp)];show Hg (k:Int) g (true,(v:Int),_,_,_,_)=_;exact a _ _ _ _ _ _ (Du none (Ag A D.1,D.2)) rfl
     | some y =>
       cases d;refine(if_pos rfl).trans ?_;refine(gP ⟨rfl,trivial⟩).trans ?_;rw[lE];refine(gP ⟨rfl,trivial⟩).trans ?_;rw[lE];show Hg (k:Int) g (true,(v:Int),_,_,_,_)=_;refine a _ _ _ _ _ _ (Du (some y) (Ag A D.1,D.2)) ?_;show(true,_,_,(Cw y.1 (Ag A D.1)).1,(Cw y.1 (Ag A D.1)).2,(Cw y.2 D.2).1,(Cw y.2 D.2).2)=_;rw[j0u y.1,j0u y.2];rfl
    ·rw[if_neg j];have j:t.1.getD (l9 b k) false=false:=by simpa using j
     rw[j];refine(if_pos (by simp)).trans ?_;exact a _ _ _ _ _ _ o (by cases o <;> (cases d; rfl))
   ·rw[if_neg w];refine(if_pos ?_).trans (a _ _ _ _ _ _ o (by cases o <;> (cases d; rfl)))
    grind
  ·cases o <;> exact if_neg (by simp)
 unfold Lg;refine(lF (n:=ss.length) hl (fun i o=>K4 v i o) (fun i o=>Cy ss (a6 y75) v i o) (fun _ _=>True) (J:=fun o=>Hh (v:Int) t b c (D2 (lV b).length br) (lV b) ((K4 v 0 o).1,(K4 v 0 o).2.2)) (F:=D0m ss (v:Int) t b c (D2 (lV b).length br) (lV b)) (fun g i o hi _=>?_) (fun _ _ _ _=>trivial) (fun g o _=>?_) none trivial).trans ?_
 ·have H:Int.toNat ((i:Nat):Int)=i:=rfl;obtain⟨q,m,x,l,s,r,d⟩:∃q m x l s r,K4 v i o=(q,(i:Int),m,x,l,s,r):=by cases o <;> exact⟨_,_,_,_,_,_,rfl⟩
  rw[d];refine(if_pos (decide_eq_true (by omega))).trans ?_;refine(gP ⟨oo,trivial⟩).trans ?_;rw[H];unfold Cy;by_cases f:((ss.getD i (a6 y75)).1==(v:Int))=true
  ·rw[if_pos f,if_pos f];refine(gP ⟨oo,trivial⟩).trans ?_;rw[lE];have f:(ss.getD i (a6 y75)).1=(v:Int):=by simpa using f
   refine(gP ⟨oo,trivial⟩).trans ?_;rw[f];rfl
  ·rw[if_neg f,if_neg f];refine(gP ⟨oo,trivial⟩).trans ?_;cases o <;> (cases d; rfl)
 ·cases o <;> exact if_neg (by simp)
 ·show Hh _ _ _ _ _ _ ((K4 v 0 (fN (Cy ss (a6 y75) v) ss.length none)).1,(K4 v 0 (fN (Cy ss (a6 y75) v) ss.length none)).2.2)=_;rw[v0s hi];exact V _
end
section
variable {b:j0}
structure Way(b:j0)(out:List Nat)(i:Nat)(T:Nat->Option u3):Prop where
 ok:∀v x,T v=some x->F3 x.1=true/\F4 x.2=true
 no:∀j,i<=j->j<out.length->T (out.getD j 0)=none
end
def U6(b:j0)(c:p7)(br:List Int)(ss:List l6):Int:=if(p9 b&&F2 c)=true then(if(Ai (lV b).length br&&AR b ss)=true then(if(S6 (O0 b (D2 (lV b).length br) [] (j9 b))).2=true then 0 else 7) else 2) else 1
structure TG(b:j0)(c:p7)(br:List Int)(ss:List l6)(out:List Nat):Prop where
 hb:p9 b=true
 hc:F2 c=true
 hbr:Ai (lV b).length br=true
 hs:AR b ss=true
 ho:O0 b (D2 (lV b).length br) [] (j9 b)=some out
section
variable {b:j0} {c:p7} {br:List Int} {ss:List l6} {out:List Nat}
theorem v0i(h:U6 b c br ss=0):∃out,TG b c br ss out:=by
 unfold U6 at h;split at h
 ·rename_i d;split at h
  ·rename_i a;split at h
   ·rename_i e;rw[ba] at d a;cases ho:O0 b (D2 (lV b).length br) [] (j9 b) with
    | none=>rw[ho] at e; cases e
    | some out=>exact⟨out,d.1,d.2,a.1,a.2,ho⟩
   omega
  omega
 omega
theorem TG.code(h:TG b c br ss out):U6 b c br ss=0:=by
 unfold U6;rw[h.hb,h.hc,h.hbr,h.hs,h.ho];rfl
theorem TG.ord(h:TG b c br ss out):OrdOk b br out:=F0z h.hb h.ho
theorem TG.len(h:TG b c br ss out):out.length<=1000000:=Nat.le_trans (OC _ _ h.ord.nd h.ord.lt) (LP b h.hb)
theorem TG.src(h:TG b c br ss out):HI ss/\∀s∈ss,F3 s.2.1=true/\F4 s.2.2=true:=⟨(s0t h.hs).1,fun s hs=>((s0t h.hs).2 s hs).2⟩
theorem A0Q(d:wf j7 b)(e:c9 j7 b<=1048576)(f:wf u5 c)(a:br.length<=1048576)(g:ss.length<=9223372036854775807):JA b c br ss=some (if U6 b c br ss=0 then((S6 (O0 b (D2 (lV b).length br) [] (j9 b))).1,0) else([],U6 b c br ss)):=by
 unfold JA U6;rw[Sz b d e,r84 c f,vS,vS];refine(gP ⟨rfl,fun _=>rfl,trivial⟩).trans ?_;cases hb:p9 b with
 | false=>rfl
 | true =>
   cases hc:F2 c with
   | false=>rfl
   | true =>
     refine(if_neg (by simp)).trans ?_;rw[J0z b d e br a,M0e b d hb ss g,vS,vS];refine(gP ⟨rfl,fun _=>rfl,trivial⟩).trans ?_;rw[lE,M0d b d e br a];unfold Cz Tf Cz;rw[hb];cases hk:Ai (lV b).length br with
     | false=>rfl
     | true =>
       cases hs:AR b ss with
       | false=>rfl
       | true =>
         refine(if_neg (by simp)).trans ?_;rw[vS];refine(gP ⟨rfl,trivial⟩).trans ?_
         grind[lE,S6,O0,D2,lV,j9]
def ptF(b:j0)(c:p7)(br:List Int)(ss:List l6):A0×Int:=if U6 b c br ss=0 then(match J0j b c br ss ((O0 b (D2 (lV b).length br) [] (j9 b)).getD []) with
 | some T=>(K0M (j9 b) T,0)
 | none=>(([],[],[]),3)) else(([],[],[]),U6 b c br ss)
theorem TG.pt(h:TG b c br ss out):ptF b c br ss=match J0j b c br ss out with
 | some T=>(K0M (j9 b) T,0)
 | none=>(([],[],[]),3):=by
 unfold ptF;rw[if_pos h.code,h.ho];rfl
theorem TG.res(h:TG b c br ss out):(S6 (O0 b (D2 (lV b).length br) [] (j9 b))).1=out.map fun v:Nat=>(v:Int):=by
 rw[h.ho];rfl
end
def Aj(b:j0)(c:p7)(br:List Int)(ss:List l6)(t:A0):Int:=if(p9 b&&F2 c&&!BE (F9 b) t)=true then 1 else U6 b c br ss
def Tl(b:j0)(c:p7)(br:List Int)(ss:List l6)(t:A0):Int ⊕ (D4×List Int×Int):=if Aj b c br ss t=0 then .inr ((l5 b,D2 (lV b).length br),(S6 (O0 b (D2 (lV b).length br) [] (j9 b))).1,0) else .inl (Aj b c br ss t)
section
variable {b:j0} {c:p7} {br:List Int} {ss:List l6} {out:List Nat} {t:A0}
theorem l0l(h:Aj b c br ss t=0):BE (F9 b) t=true/\∃out,TG b c br ss out:=by
 unfold Aj at h;split at h
 ·cases h
 ·rename_i d;obtain⟨out,a⟩:=v0i h;refine⟨?_,out,a⟩;rw[a.hb,a.hc] at d
  grind
theorem H0Q(f:wf j7 b)(g:c9 j7 b<=1048576)(e:wf u5 c)(a:br.length<=1048576)(h:ss.length<=9223372036854775807)(d:wf y65 t):AG b c br ss t=some (Tl b c br ss t):=by
 unfold AG Tl Aj U6;rw[M0o b f g,M0n c e,vS,vS];refine(gP ⟨rfl,fun _=>rfl,trivial⟩).trans ?_;cases hb:p9 b with
 | false=>rfl
 | true =>
   cases hc:F2 c with
   | false=>rfl
   | true =>
     refine(if_neg (by simp)).trans ?_;rw[M0m b f hb,vS];refine(gP ⟨rfl,trivial⟩).trans ?_;rw[lE,M0l b hb t d,vS];refine(gP ⟨fun _=>rfl,trivial⟩).trans ?_;cases htm:BE (F9 b) t with
     | false=>rfl
     | true =>
       refine(if_neg (by simp)).trans ?_;rw[M0k hb br a,M0j b hb ss h,vS,vS];refine(gP ⟨rfl,fun _=>rfl,trivial⟩).trans ?_;cases hk:Ai (lV b).length br with
       | false=>rfl
       | true =>
         cases hs:AR b ss with
         | false=>rfl
         | true =>
           refine(if_neg (by simp)).trans ?_;rw[M0i hb hk a,vS];refine(gP ⟨rfl,trivial⟩).trans ?_;rw[lE,M0h hb (OA _ _),vS];refine(gP ⟨rfl,trivial⟩).trans ?_
           grind[lE,S6,O0,D2,lV,j9]
abbrev HK:l6:=(0,(0,0),0,0)
def ntV(v:Nat)(o:Option u3):Bool×l6×Int:=match o with
 | some x=>if F3 x.1=true then(true,((v:Int),x.1,x.2),0) else(false,HK,3)
 | none=>(false,HK,0)
def HL(b:j0)(c:p7)(br:List Int)(ss:List l6)(t:A0)(v:Int):Bool×l6×Int:=if Aj b c br ss t=0 then(if j3 v 0 ((j9 b:Int)-1)=true then ntV v.toNat (LR b c br ss (X0 t) v.toNat) else(false,HK,4)) else(false,HK,Aj b c br ss t)
theorem N0T(i:wf j7 b)(g:c9 j7 b<=1048576)(a:wf u5 c)(f:br.length<=1048576)(j:ss.length<=9223372036854775807)(e:wf y65 t)(v:Int):Lk b c br ss t v=some (HL b c br ss t v):=by
 unfold Lk HL;rw[H0Q i g a f j e];unfold Tl;by_cases h:Aj b c br ss t=0
 ·obtain⟨l,n,d⟩:=l0l h;rw[if_pos h,if_pos h];refine(if_neg (by simp[Ll])).trans ((gP ⟨rfl,trivial⟩).trans ?_);show gd ((Q6 (l5 b) v).isSome=true/\True) _=_;rw[OB d.hb];refine(gP ⟨rfl,trivial⟩).trans ?_;by_cases hi:j3 v 0 ((j9 b:Int)-1)=true
  ·rw[if_pos hi];refine(if_neg (by show ¬(!vl (Q6 (l5 b) v))=true; rw[OB d.hb,hi]; decide)).trans ?_;have o:=r6.1 hi;obtain⟨k,rfl⟩:∃k:Nat,v=(k:Int):=⟨v.toNat,by omega⟩;have m:((k:Int)).toNat=k:=rfl;rw[m];show gd ((u64 (l5 b,D2 (lV b).length br) c ss t (k:Int)).isSome=true/\True) (lt (vl (u64 (l5 b,D2 (lV b).length br) c ss t (k:Int))) fun q=>_)=_;rw[J0a i g d.hb a d.hc j (o0t.1 l) k,vS];refine(gP ⟨rfl,trivial⟩).trans ?_;rw[lE];cases LR b c br ss (X0 t) k with
   | none=>rfl
   | some x =>
     refine(gP ⟨fun _=>by grind[FT],trivial⟩).trans ?_;rw[(FT _).1,vS];show(if(true&&!F3 x.1)=true then _ else _)=some (if F3 x.1=true then _ else _);cases F3 x.1 <;> rfl
  ·rw[if_neg hi];refine if_pos ?_;show(!vl (Q6 (l5 b) v))=true;rw[OB d.hb,vS]
   grind
 ·rw[if_neg h,if_neg h];refine(if_pos rfl).trans ((gP ⟨rfl,trivial⟩).trans ?_);exact if_pos (by show(Aj b c br ss t != 0)=true; simp[h])
end
section
variable {b:j0} {c:p7} {br:List Int} {ss:List l6} {t:A0} {md:Int}
def OD(b:j0)(c:p7)(br:List Int)(ss:List l6)(t:A0)(md:Int)(v:Nat):Option (Option Nat):=HH (lV b).length (l9 b) (o6 b) (J6 b br) (C2 b c) (N9 ss) (X0 t) md v
def L0d:Option (Option Nat)->Int×Int
 | none=>(0,5)
 | some none=>(-1,0)
 | some (some k)=>((k:Int),0)
def wF(b:j0)(c:p7)(br:List Int)(ss:List l6)(t:A0)(md:Int)(v:Nat):Int×Int:=if(decide (v<j9 b)&&t.1.getD v false)=true then L0d (OD b c br ss t md v) else(0,4)
end
section
variable {b:j0} {c:p7} {br:List Int} {ss:List l6} {t:A0} {md:Int} {out:List Nat}
theorem u0T{v:Nat}:(∃k:Nat,wF b c br ss t md v=((k:Int),0)/\OD b c br ss t md v=some (some k))∨(wF b c br ss t md v=(-1,0)/\OD b c br ss t md v=some none)∨(wF b c br ss t md v).2≠0:=by
 unfold wF;split
 ·cases OD b c br ss t md v with
  | none=>exact .inr (.inr (by decide))
  | some o =>
    cases o with
    | none=>exact .inr (.inl ⟨rfl,rfl⟩)
    | some k=>exact .inl ⟨k,rfl,rfl⟩
 omega
theorem z0Z(a:OrdOk b br out){v:Nat}(j:v<j9 b)(i:(wF b c br ss t md v).2=0)(l:0<=(wF b c br ss t md v).1):(wF b c br ss t md v).1.toNat < (lV b).length/\l9 b (wF b c br ss t md v).1.toNat<j9 b/\out.idxOf (l9 b (wF b c br ss t md v).1.toNat)<out.idxOf v:=by
 rcases u0T (b:=b) (c:=c) (br:=br) (ss:=ss) (t:=t) (md:=md) (v:=v) with ⟨k,e,h⟩ | ⟨e,h⟩ | h
 ·rw[e];obtain⟨d,f,g,-⟩:=u0Q h;have:=a.pos d f (by omega)
  grind
 ·grind
 omega
def PI(b:j0)(out:List Nat)(v:Nat)(acc:List Int):Prop:=v<j9 b/\acc.length+out.idxOf v<=out.length
theorem PI.step(d:OrdOk b br out){v:Nat}{acc:List Int}(h:PI b out v acc)(e:(wF b c br ss t md v).2=0)(g:0<=(wF b c br ss t md v).1):PI b out (l9 b (wF b c br ss t md v).1.toNat) ((wF b c br ss t md v).1 :: acc)/\out.idxOf (l9 b (wF b c br ss t md v).1.toNat)<out.idxOf v:=by
 obtain⟨i,f,a⟩:=z0Z d h.1 e g;have:=h.2;exact⟨⟨f,by grind⟩,a⟩
end
section
variable {b:j0} {c:p7} {br:List Int} {ss:List l6} {t:A0} {md v:Int} {out:List Nat}
theorem A0I(g:wf j7 b)(i:c9 j7 b<=1048576)(a:wf u5 c)(f:br.length<=1048576)(j:ss.length<=9223372036854775807)(d:wf y65 t):JC b c br ss t=some (Aj b c br ss t):=by
 unfold JC Aj;rw[Sz b g i,r84 c a,vS,vS,r85 _ t d,vS,A0Q g i a f j,vS];cases hb:p9 b with
 | false =>
   refine(gP ⟨rfl,fun h=>(by grind),fun h=>(by grind),fun h=>(by grind),trivial⟩).trans ?_
   grind[U6]
 | true =>
   have e:L5 b=some (j9 b:Int):=SY b g hb;rw[e,vS,<- Tk];refine(gP ⟨rfl,fun _=>rfl,fun _=>rfl,fun _=>rfl,trivial⟩).trans ?_;cases hc:F2 c with
   | false =>
     grind[U6]
   | true =>
     cases ht:BE (F9 b) t with
     | false=>rfl
     | true =>
       refine(if_neg (by simp)).trans ((gP ⟨rfl,trivial⟩).trans ?_)
       grind[lE,U6]
end
section
variable {b:j0} {c:p7} {br:List Int} {ss:List l6} {t:A0} {md v:Int} {out:List Nat}
theorem H0T(f:wf j7 b)(j:c9 j7 b<=1048576)(e:wf u5 c)(d:br.length<=1048576)(l:ss.length<=9223372036854775807)(g:wf y65 t):Lh b c br ss t v=some (HL b c br ss t v):=by
 unfold Lh HL;rw[A0I f j e d l g,vS];refine(gP ⟨rfl,trivial⟩).trans ?_;rw[lE];by_cases h:Aj b c br ss t=0
 ·obtain⟨i,n,a⟩:=l0l h;have o:=U5 a.hb;have r:=LP b a.hb;rw[if_pos h,h];refine(if_neg (by decide)).trans ?_;have m:m7 v 0 ((j9 b:Int)-1)=some (j3 v 0 ((j9 b:Int)-1)):=rfl;simp only[SY b f a.hb,vS,Option.isSome_some,m];refine(gP ⟨trivial,oo,trivial,trivial⟩).trans ?_;cases hi:j3 v 0 ((j9 b:Int)-1) with
  | false=>rfl
  | true =>
    have q:=r6.1 hi;obtain⟨k,rfl⟩:∃k:Nat,v=(k:Int):=⟨v.toNat,by omega⟩;rw[Int.toNat_natCast];refine(if_neg (by simp)).trans ?_;simp only[SH b f a.hb,vS,Option.isSome_some];refine(gP (by simp)).trans ?_;rw[lE];simp only[r44 (lV b) br (by omega) d,F0H f j a.hb e a.hc (br:=br) l a.src.1 (o0t.1 i) k,vS,Option.isSome_some];refine(gP (by simp)).trans ?_;rw[lE,if_pos trivial];cases LR b c br ss (X0 t) k with
    | none=>rfl
    | some x =>
      refine(if_neg (by simp[CA])).trans ?_;rw[(FT _).2,vS];refine(gP (by simp)).trans ?_;show(if(!F3 x.1)=true then some (false,HK,3) else some (true,((k:Int),x.1,x.2),0))=some (if F3 x.1=true then(true,((k:Int),x.1,x.2),0) else(false,HK,3));cases F3 x.1 <;> rfl
 ·rw[if_neg h];exact if_pos (by simp[h])
end
theorem S7{a:Type}{V:Prop}[Decidable V]{e:Option a}{P:a->Prop}(b:V)(h:∃r,e=some r/\P r):∃r,gd V e=some r/\P r:=by grind[gP]
theorem U7{a b:Type}{x:a}{f:a->Option b}{P:b->Prop}(h:∃r,f x=some r/\P r):∃r,lt x f=some r/\P r:=h
theorem Tm{br:List Int}(h:br.length<=1048576):c9 (.sl (.int .i64)) br<=1048576:=by
 have e:c9 (.sl (.int .i64)) br=br.length+0:=p0u;omega
theorem OE(n:Nat){l:Int}(b:0<=l)(a:l<=1048576):m9 n l<0∨0<=m9 n l/\m9 n l<=1048576/\n<=1048576:=by
 unfold m9;split <;> omega
theorem A0L(s:l6):c9 y75 s<=1048576:=by
 simp only[Q8,W2]; decide
theorem r4(b:Gy)(c:Gz)(br:List Int)(ss:List BV)(t:GA)(v:Int)(k:wf T7 b)(f:wf V5 c)(_:wf (.sl (.int .i64)) br)(j:wf (.sl y106) ss)(d:wf Y3 t)(_:J9 v):u4 b c br ss t v=some true:=by
 have g:∀e:Option Bool,(∃r,e=some r/\r=true)->e=some true:=by rintro e ⟨r,rfl,rfl⟩; rfl
 refine g _ ?_;unfold u4;by_cases i:(1048576:Int) < (br.length:Int)
 ·rw[if_pos (decide_eq_true i)];exact⟨_,rfl,rfl⟩
 rw[if_neg (by simpa using i)];have a:br.length<=1048576:=by omega
 simp only[z7 b 1048576 k (by decide) (by decide),vS,Option.isSome_some];refine S7 (by simp) (U7 ?_);rcases OE (c9 T7 b) (l:=1048576) (by decide) (by decide) with h | ⟨a0,a1,hm⟩
 ·rw[if_pos (decide_eq_true h)];exact⟨_,rfl,rfl⟩
 rw[if_neg (by simpa using a0)];generalize m9 (c9 T7 b) 1048576=l0 at a0 a1;simp only[z8 c l0 f a0 (by omega),vS,Option.isSome_some];refine S7 (by simp) (U7 ?_);rcases OE (c9 V5 c) a0 a1 with h | ⟨b0,b1,hmc⟩
 ·rw[if_pos (decide_eq_true h)];exact⟨_,rfl,rfl⟩
 rw[if_neg (by simpa using b0)];generalize m9 (c9 V5 c) l0=l1 at b0 b1;simp only[z9 ss l1 j b0 (by omega),vS,Option.isSome_some];refine S7 (by simp) (U7 ?_);rcases OE (c9 (.sl y106) ss) b0 b1 with h | ⟨c0,c1,hms⟩
 ·rw[if_pos (decide_eq_true h)];exact⟨_,rfl,rfl⟩
 rw[if_neg (by simpa using c0)];generalize m9 (c9 (.sl y106) ss) l1=l2 at c0 c1;simp only[z10 t l2 d c0 (by omega),vS,Option.isSome_some];refine S7 (by simp) (U7 ?_);rcases OE (c9 Y3 t) c0 c1 with h | ⟨d0,d1,hmt⟩
 ·rw[if_pos (decide_eq_true h)];exact⟨_,rfl,rfl⟩
 rw[if_neg (by simpa using d0)];have s:ss.length<=9223372036854775807:=j.1;have m:=Bt br (Tm a);have o:=w15 ss hms;have q:=w16 t hmt;have n:=w12 b hm;have u:=w13 c hmc;simp only[n,u,m,o,q,H0T (v:=v) k hm f a s d,vS,Option.isSome_some];refine S7 (by simp) (U7 ?_);refine S7 (by simp) (U7 ?_);refine S7 (by simp) (U7 ?_);refine S7 (by simp) (U7 ?_);refine S7 (by simp) (U7 ?_);simp only[n,u,m,o,q,N0T k hm f a s d v,vS,Option.isSome_some];refine S7 (by simp) (U7 ?_);have w:CT (HL b c br ss t v).2.1 (HL b c br ss t v).2.1=some true:=e24 _ (A0L _);simp only[w,vS,Option.isSome_some];refine S7 (by simp) ?_;rw[if_neg (by simp)];simp only[e18 b hm,vS,Option.isSome_some];refine S7 (by simp) (U7 ?_);simp only[e18 b hm,vS];rw[if_neg (by simp)];simp only[AI br (Tm a),vS,Option.isSome_some];refine S7 (by simp) (U7 ?_);simp only[AI br (Tm a),vS];rw[if_neg (by simp)];simp only[e20 ss hms,vS,Option.isSome_some];refine S7 (by simp) (U7 ?_);simp only[e20 ss hms,vS];rw[if_neg (by simp)];simp only[e21 t hmt,vS,Option.isSome_some];refine S7 (by simp) (U7 ?_);simp only[e21 t hmt,vS];rw[if_neg (by simp)];exact⟨_,rfl,rfl⟩
end Go.Proofs.YtechodbafnmddaaGreatDoor
end

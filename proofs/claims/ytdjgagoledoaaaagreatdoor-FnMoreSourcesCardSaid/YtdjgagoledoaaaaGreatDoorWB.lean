/- What a table says at a place: the program's function and the reference's agree. -/
import Derived.Test.YtdjgagoledoaaaaGreatDoorWA
import Derived.Test.YtdjgagoledoaaaaGreatDoorF85c
import Derived.Test.YtdjgagoledoaaaaGreatDoorXF
import Derived.Test.YtdjgagoledoaaaaGreatDoorG85
set_option maxHeartbeats 0
section
namespace Go.Proofs.YtdjgagoledoaaaaGreatDoor
open Go Go.Proofs Go.Proofs.Xv Go.Proofs.Xl Go.Proofs.Xd
def J0(t:s8)(r q:Nat):Int:=t.2.2.getD (r*t.2.1.length+q) 0
def p8(t:s8)(r q:Nat)(w c d:Int):Int:=J0 t r q*w*c+J0 t r (q+1)*w*d
theorem Hp{t:s8}(a:C3 t=true){r q:Nat}(e:r<t.1.length)(f:q<t.2.1.length){w c:Int}(j:0<=w)(g:w<=100000)(d:0<=c)(b:c<=100000) :
  (-100000000000<=J0 t r q*w/\J0 t r q*w<=100000000000) /\ -10000000000000000<=J0 t r q*w*c/\J0 t r q*w*c<=10000000000000000:=by
 obtain⟨_,_,_,_,m,_,_⟩:=Ds a;have h:=p0H a (i:=r*t.2.1.length+q) (by have:=QH e f; omega);have l:=J8 (A:=1000000) h.1 h.2 j g (by decide);have k:=J8 (A:=100000000000) (B:=100000) (x:=J0 t r q*w) (by grind[J0]) (by grind[J0]) d b (by decide)
 grind[J0]
def Sh(n q:Nat)(c d:Int)(M:List (Int×Int)):Prop:=(c=1/\d=0/\M=[((q:Int),1)])∨(q+1<n/\0<c/\0<d/\c+d<=100000/\M=[((q:Int),c),((q:Int)+1,d)])
theorem u0L{t:s8}(a:C3 t=true){r q:Nat}(b:r<t.1.length)(g:q<t.2.1.length){w c d:Int}{M:List (Int×Int)}(h:Sh t.2.1.length q c d M)(f:0<=w)(e:w<=100000) : -20000000000000000<=p8 t r q w c d/\p8 t r q w c d<=20000000000000000:=by
 unfold p8;rcases h with ⟨rfl,rfl,_⟩ | ⟨hq1,c0,d0,hcd,_⟩
 ·have i:=(Hp a b g f e (c:=1) (by decide) (by decide)).2;rw[Int.mul_zero]; omega
 ·have i:=(Hp a b g f e (c:=c) (by omega) (by omega)).2;have j:=(Hp a b hq1 f e (c:=d) (by omega) (by omega)).2;omega
theorem Wn{t:s8}(d:C3 t=true){r q:Nat}(e:r<t.1.length)(f:q<t.2.1.length){w c:Int}(o:0<=w)(n:w<=100000)(z:0<=c)(y:c<=100000){R:Int}(v:R=(r:Int)){v1:List BG×Int}{v11:Int}{g b:Int×Int->Option Int}{s:Int}(H : -100000000000000000<=s)(F:s<=100000000000000000){i:Nat}(hi:i<v1.1.length)(P:v1.1.length<=2)
  {Q:Int} (x:Q=(q:Int)) (j:v1.1.getD i (b7 T3)=(Q,c)):IF t (R,w) v1 v11 g b (s,(i:Int))=b (s+J0 t r q*w*c,(i:Int)+1):=by
 subst v; subst x;obtain⟨_,G,_,T,V,_,E⟩:=Ds d;have k:=QH e f;have l:=Hp d e f o n z y;have h:((i:Int)).toNat=i:=rfl;have u:(r:Int)*(t.2.1.length:Int)=((r*t.2.1.length:Nat):Int):=by simp
 have m:(((r*t.2.1.length:Nat):Int)+(q:Int)).toNat=r*t.2.1.length+q:=by omega
 rw[IF,if_pos (by grind),h,gP ⟨oo,hi,trivial⟩,lE,j];unfold J0 at l ⊢;show gd (c9 ((r:Int)*(t.2.1.length:Int))/\c9 ((r:Int)*(t.2.1.length:Int)+(q:Int))/\ix ((r:Int)*(t.2.1.length:Int)+(q:Int)) t.2.2.length/\c9 (t.2.2.getD ((r:Int)*(t.2.1.length:Int)+(q:Int)).toNat 0*w)/\c9 (t.2.2.getD ((r:Int)*(t.2.1.length:Int)+(q:Int)).toNat 0*w*c)/\c9 (s+t.2.2.getD ((r:Int)*(t.2.1.length:Int)+(q:Int)).toNat 0*w*c)/\True) (lt (s+t.2.2.getD ((r:Int)*(t.2.1.length:Int)+(q:Int)).toNat 0*w*c) fun a=>gd _ (b (a,(i:Int)+1)))=_;rw[u,m,gP ⟨oo,oo,oo,oo,oo,oo,trivial⟩,lE,gP ⟨oo,trivial⟩]
theorem I0g{t:s8}{a:BG}{v1:List BG×Int}{v11:Nat}(d:v11<=2){b c:Int×Int->Option Int}{s:Int}:IF t a v1 (v11:Int) b c (s,(v1.1.length:Int))=b (s,(v11:Int)+1):=by
 rw[IF,if_neg (by simp),Up,gP ⟨oo,trivial⟩]
theorem N9{a ρ:Type}{F:(a->Option ρ)->a->Option ρ}{n:Nat}{s:a}:I9 F (n+1) s=F (I9 F n) s:=rfl
theorem Hq:((0:Nat):Int)+1=((1:Nat):Int):=rfl
theorem Hr:((1:Nat):Int)+1=((2:Nat):Int):=rfl
theorem Wo{t:s8}(a:C3 t=true){r q:Nat}(b:r<t.1.length)(h:q<t.2.1.length){w c d:Int}{M:List (Int×Int)}(l:Sh t.2.1.length q c d M)(f:0<=w)(e:w<=100000){R T:Int}(g:R=(r:Int)){v11:Nat}(k:v11<=2){j:Int×Int->Option Int}{s:Int}(u : -50000000000000000<=s)(m:s<=50000000000000000) :
  lp (IF t (R,w) (M,T) (v11:Int) j) (s,0)=j (s+p8 t r q w c d,(v11:Int)+1):=by
 unfold p8;rcases l with ⟨rfl,rfl,rfl⟩ | ⟨hq1,c0,d0,hcd,rfl⟩
 ·refine FC 2 (by decide) fun n=>?_;rw[N9];refine(Wn (v1:=([((q:Int),1)],T)) (i:=0) (s:=s) (c:=1) a b h f e (by decide) (by decide) g (by omega) (by omega) (Nat.le_refl 1) (Nat.le_succ 1) rfl rfl).trans ?_;rw[Int.mul_zero,Int.add_zero,N9,Hq];exact I0g (v1:=([((q:Int),1)],T)) k
 ·have o:=(Hp a b h f e (c:=c) (by omega) (by omega)).2;refine FC 3 (by decide) fun n=>?_;rw[N9];refine(Wn (v1:=([((q:Int),c),((q:Int)+1,d)],T)) (i:=0) (s:=s) (c:=c) a b h f e (by omega) (by omega) g (by omega) (by omega) (Nat.le_succ 1) (Nat.le_refl 2) rfl rfl).trans ?_;rw[N9,Hq];refine(Wn (v1:=([((q:Int),c),((q:Int)+1,d)],T)) (i:=1) (s:=s+J0 t r q*w*c) (c:=d) (q:=q+1) a b hq1 f e (by omega) (by omega) g (by omega) (by omega) (Nat.le_refl 2) (Nat.le_refl 2) (Int.natCast_succ q).symm rfl).trans ?_;rw[<- Int.add_assoc,N9,Hr];exact I0g (v1:=([((q:Int),c),((q:Int)+1,d)],T)) k
theorem B0F{t:s8}(d:C3 t=true){p u r q k:Nat}(b:r=p+u)(h:r<t.1.length)(i:q<t.2.1.length){w c W:Int}(e:0<=w)(v:w<=100000)(g:0<=c)(E:c<=100000)(X:W=w*c){v0 v1:Int×Int×Int}(x:v0.1=(p:Int)){q0:Nat}(H:v1.1=(q0:Int))(j:q=q0+k)(G:k<=1)(P:u<=1){f:Int×Int->Option Int}{s:Int}(V : -100000000000000000<=s)(Q:s<=100000000000000000) :
  Dg (k:Int) s t v0 (u:Int) v1 f W=f (s+J0 t r q*w*c,(k:Int)+1):=by
 obtain⟨_,T,_,Y,hl,_,F⟩:=Ds d;have l:=QH h i;have m:=Hp d h i e v g E;subst b; subst j;have z:((p:Int)+(u:Int))*(t.2.1.length:Int)=(((p+u)*t.2.1.length:Nat):Int):=by simp
 have o:((((p+u)*t.2.1.length:Nat):Int)+(q0:Int)+(k:Int)).toNat=(p+u)*t.2.1.length+(q0+k):=by omega
 have a:W*J0 t (p+u) (q0+k)=J0 t (p+u) (q0+k)*w*c:=by grind
 rw[Dg];by_cases hp:0<W
 ·unfold J0 at m a ⊢;rw[if_pos (by grind),x,H,z,o,a,gP ⟨oo,oo,oo,oo,oo,oo,oo,trivial⟩,lE,Ip,gP ⟨oo,trivial⟩]
 ·have n:W=0:=by
   have:0<=w*c:=Int.mul_nonneg e g;omega
  have y:J0 t (p+u) (q0+k)*w*c=0:=by grind
  rw[if_neg (by grind),Ip,gP ⟨oo,trivial⟩,y,Int.add_zero]
theorem Wp{t:s8}{u k:Nat}{v0 v1:Int×Int×Int}(b:k<=1){a:Int×Int->Option Int}{s W:Int}(c:W=0):Dg (k:Int) s t v0 (u:Int) v1 a W=a (s,(k:Int)+1):=by
 subst c;rw[Dg,if_neg (by simp),Ip,gP ⟨oo,trivial⟩]
theorem B0X{w c:Int}(e:0<=w)(b:w<=100000)(a:0<=c)(d:c<=100000):c9 (w*c)/\True:=by
 have:=J8 (A:=100000) (B:=100000) (x:=w) (y:=c) (by omega) b a d (by decide);exact⟨oo,trivial⟩
theorem QL{t:s8}{u k:Nat}(n:k<=1){v0 v1:Int×Int×Int}{j a:Int×Int->Option Int}{s w e:Int}(o:(if(u:Int)=1 then v0.2.2 else v0.2.1)=w)(c:(if k=0 then v1.2.1 else v1.2.2)=e)(i:0<=w)(h:w<=100000)(g:0<=e)(f:e<=100000) :
  Gt t v0 (u:Int) v1 j a (s,(k:Int))=Dg (k:Int) s t v0 (u:Int) v1 a (w*e):=by
 have m:∀W,W=w->Kv (k:Int) s t v0 (u:Int) v1 a W=Dg (k:Int) s t v0 (u:Int) v1 a (w*e):=by
  intro W l;subst l;rw[Kv];by_cases d:k=0
  ·subst d;have b:v1.2.1=e:=c;rw[if_pos (by rfl),b,gP (B0X i h g f)]
  ·rw[if_neg d] at c;rw[if_neg (by grind),c,gP (B0X i h g f)]
 grind[Gt]
theorem Wq{t:s8}{u:Nat}(c:u<=1){v0 v1:Int×Int×Int}{a b:Int×Int->Option Int}{s:Int}:Gt t v0 (u:Int) v1 a b (s,((2:Nat):Int))=a (s,(u:Int)+1):=by
 rw[Gt,if_neg (by simp),Tr,gP ⟨oo,trivial⟩]
theorem B0E{t:s8}(i:C3 t=true){p u r q:Nat}(f:r=p+u)(m:u<=1)(o:r<t.1.length)(z:q<t.2.1.length){a b w c d:Int}{M:List (Int×Int)}(y:Sh t.2.1.length q c d M)(E:(if(u:Int)=1 then b else a)=w)(h:0<=w)(g:w<=100000){x:Int×Int->Option Int}{s:Int}(Q : -50000000000000000<=s)(H:s<=50000000000000000) :
  lp (Gt t ((p:Int),a,b) (u:Int) ((q:Int),c,d) x) (s,0)=x (s+p8 t r q w c d,(u:Int)+1):=by
 have v:0<=c/\c<=100000/\0<=d/\d<=100000:=by
  rcases y with ⟨rfl,rfl,_⟩ | ⟨_,_,_,_,_⟩ <;> omega
 obtain⟨l,j,F,G⟩:=v;have P:=(Hp i o z h g l j).2;refine FC 3 (by decide) fun n=>?_;rw[N9];refine(QL (k:=0) (e:=c) (by decide) E rfl h g l j).trans ?_;refine(B0F i f o z h g l j rfl rfl (q0:=q) rfl (k:=0) rfl (by decide) m (by omega) (by omega)).trans ?_;rw[N9,Hq];refine(QL (k:=1) (e:=d) (by decide) E rfl h g F G).trans ?_;unfold p8;rcases y with ⟨rfl,rfl,_⟩ | ⟨hq1,_,_,_,_⟩
 ·refine(Wp (by decide) (Int.mul_zero w)).trans ?_;rw[N9,Hr,Wq m,Int.mul_zero,Int.add_zero]
 ·refine(B0F i f o hq1 h g F G rfl rfl (q0:=q) rfl (k:=1) rfl (by decide) m (by omega) (by omega)).trans ?_
  grind[N9,Hr,Wq,Int.add_assoc]
theorem H0I{t:s8}{p u q:Nat}(m:u<=1){a b c d:Int}(g:(if(u:Int)=1 then b else a)=0)(i:0<=c)(h:c<=100000)(j:0<=d)(l:d<=100000){f:Int×Int->Option Int}{s:Int} :
  lp (Gt t ((p:Int),a,b) (u:Int) ((q:Int),c,d) f) (s,0)=f (s,(u:Int)+1):=by
 refine FC 3 (by decide) fun n=>?_;rw[N9];refine(QL (k:=0) (e:=c) (by decide) g rfl (by decide) (by decide) i h).trans ?_;refine(Wp (by decide) (Int.zero_mul _)).trans ?_;rw[N9,Hq];refine(QL (k:=1) (e:=d) (by decide) g rfl (by decide) (by decide) j l).trans ?_;refine(Wp (by decide) (Int.zero_mul _)).trans ?_
 grind[N9,Hr,Wq]
theorem Hs{xs:List Int}(x:Int)(h:F7 xs=true):∃(p:Nat) (a b:Int) (L:List (Int×Int)),p<xs.length/\Sh xs.length p a b L/\Df xs x=some ((p:Int),a,b)/\O6 xs x=some (L,a+b):=by
 obtain⟨p,a,b,e,d,f⟩:=N0G x h;rcases f with ⟨rfl,rfl,c⟩ | ⟨c,h4,h5,h6,h7⟩
 ·exact⟨p,1,0,_,e,.inl ⟨rfl,rfl,rfl⟩,d,c⟩
 ·exact⟨p,a,b,_,e,.inr ⟨c,h4,h5,h6,rfl⟩,d,h7⟩
theorem Ws{t:s8}(e:C3 t=true){p q:Nat}(h:p<t.1.length)(g:q<t.2.1.length){a b c d:Int}{L M:List (Int×Int)}(i:Sh t.1.length p a b L)(f:Sh t.2.1.length q c d M)(T U m:Int) :
  lp (GL t (M,U) (L,T) m) (0,0)=IE (L,T) (M,U) m (p8 t p q a c d+(if b=0 then 0 else p8 t (p+1) q b c d)):=by
 have j:∀n:Nat,((n:Int)).toNat=n:=fun _=>rfl;rcases i with ⟨rfl,rfl,rfl⟩ | ⟨hp1,a0,b0,hab,rfl⟩
 ·refine FC 2 (by decide) fun n=>?_;rw[N9,GL,if_pos (by simp),gP ⟨⟨by decide,by simp⟩,by simp,trivial⟩,lE];refine(Wo (v11:=0) e h g f (w:=1) (by decide) (by decide) rfl (by decide) (by decide) (by decide)).trans ?_;rw[N9,Hq,GL,if_neg (by simp),if_pos rfl,Int.zero_add,Int.add_zero]
 ·have k:=u0L e h g f (w:=a) (by omega) (by omega);refine FC 3 (by decide) fun n=>?_;rw[N9,GL,if_pos (by simp),gP ⟨⟨by decide,by simp⟩,by simp,trivial⟩,lE];refine(Wo (v11:=0) e h g f (w:=a) (by omega) (by omega) rfl (by decide) (by decide) (by decide)).trans ?_;rw[N9,Hq,GL,if_pos (by simp),gP ⟨⟨by decide,by simp⟩,by simp,trivial⟩,lE];refine(Wo (v11:=1) e hp1 g f (w:=b) (by omega) (by omega) (Int.natCast_succ p).symm (by decide) (by omega) (by omega)).trans ?_;rw[N9,Hr,GL,if_neg (by simp),if_neg (by omega),Int.zero_add]
theorem H0J{t:s8}(f:C3 t=true){p q:Nat}(o:p<t.1.length)(i:q<t.2.1.length){a b c d:Int}{L M:List (Int×Int)}(v:Sh t.1.length p a b L)(e:Sh t.2.1.length q c d M)(m:Int) :
  lp (Iq t ((p:Int),a,b) ((q:Int),c,d) m) (0,0)=OB ((p:Int),a,b) ((q:Int),c,d) m (p8 t p q a c d+(if b=0 then 0 else p8 t (p+1) q b c d)):=by
 have j:0<=a/\a<=100000/\0<=b/\b<=100000/\(b≠0->p+1<t.1.length):=by
  rcases v with ⟨rfl,rfl,_⟩ | ⟨_,_,_,_,_⟩ <;> omega
 obtain⟨k,l,E,y,g⟩:=j;have h:0<=c/\c<=100000/\0<=d/\d<=100000:=by
  rcases e with ⟨rfl,rfl,_⟩ | ⟨_,_,_,_,_⟩ <;> omega
 obtain⟨x,s,z,F⟩:=h;have G:=u0L f o i e k l;refine FC 3 (by decide) fun n=>?_;rw[N9,Iq,if_pos (by simp)];refine(B0E (u:=0) (p:=p) (r:=p) (w:=a) f rfl (by decide) o i e rfl k l (by decide) (by decide)).trans ?_;rw[N9,Hq,Iq,if_pos (by simp)];by_cases hz:b=0
 ·subst hz;refine(H0I (u:=1) (by decide) rfl x s z F).trans ?_;rw[N9,Hr,Iq,if_neg (by simp),if_pos rfl,Int.zero_add,Int.add_zero]
 ·refine(B0E (u:=1) (p:=p) (r:=p+1) (w:=b) f rfl (by decide) (g hz) i e rfl E y (by omega) (by omega)).trans ?_;rw[N9,Hr,Iq,if_neg (by simp),if_neg hz,Int.zero_add]
theorem C0h{t:s8}(a:C3 t=true){r q:Nat}(c:r<t.1.length)(b:q<t.2.1.length) : -1000000<=J0 t r q/\J0 t r q<=1000000:=by
 obtain⟨_,_,_,_,d,_,_⟩:=Ds a;exact p0H a (i:=r*t.2.1.length+q) (by have:=QH c b; omega)
theorem Wt{v w c:Int}(e : -1000000<=v)(d:v<=1000000)(f:0<=w)(b:0<=c) : -(1000000*(w*c))<=v*w*c/\v*w*c<=1000000*(w*c):=by
 have a:0<=w*c:=Int.mul_nonneg f b;rw[Int.mul_assoc];refine⟨?_,Int.mul_le_mul_of_nonneg_right d a⟩;have:=Int.mul_le_mul_of_nonneg_right e a;rw[Int.neg_mul] at this;exact this
theorem Jq{t:s8}(e:C3 t=true){r q:Nat}(g:r<t.1.length)(j:q<t.2.1.length){w c d:Int}{M:List (Int×Int)}(i:Sh t.2.1.length q c d M)(b:0<=w) : -(1000000*(w*(c+d)))<=p8 t r q w c d/\p8 t r q w c d<=1000000*(w*(c+d)):=by
 unfold p8;have a:=C0h e g j;rcases i with ⟨rfl,rfl,_⟩ | ⟨hq1,c0,d0,hcd,_⟩
 ·have h:=Wt a.1 a.2 b (c:=1) (by decide);rw[Int.mul_zero,Int.add_zero,Int.add_zero]; exact h
 ·have f:=C0h e g hq1;have h:=Wt a.1 a.2 b (c:=c) (by omega);have k:=Wt f.1 f.2 b (c:=d) (by omega);rw[Int.mul_add w,Int.mul_add 1000000];omega
theorem Jr{t:s8}(f:C3 t=true)(s l m:Int):∃r,J6 t s l m=some r/\BB t s l m=some r /\ -1000000<=r/\r<=1000000:=by
 have g:F7 t.1=true/\F7 t.2.1=true:=by
  simp only[C3,ba] at f;exact⟨f.1.1.1,f.1.1.2⟩
 obtain⟨p,a,b,L,v,j,P,E⟩:=Hs s g.1;obtain⟨q,c,d,M,i,h,G,F⟩:=Hs l g.2;have o:0<=a/\0<=b/\1<=a+b/\a+b<=100000/\a<=100000/\b<=100000/\(b≠0->p+1<t.1.length):=by
  rcases j with ⟨rfl,rfl,_⟩ | ⟨_,_,_,_,_⟩ <;> omega
 have H:1<=c+d/\c+d<=100000:=by
  rcases h with ⟨rfl,rfl,_⟩ | ⟨_,_,_,_,_⟩ <;> omega
 have Q:=J8 (A:=100000) (B:=100000) (x:=a+b) (y:=c+d) (by omega) (by omega) (by omega) (by omega) (by decide);have e:0 < (a+b)*(c+d):=Int.mul_pos (by omega) (by omega);have W:=Jq f v i h (w:=a) (by omega);have V : -(1000000*(b*(c+d)))<=(if b=0 then 0 else p8 t (p+1) q b c d)/\(if b=0 then 0 else p8 t (p+1) q b c d)<=1000000*(b*(c+d)):=by
  by_cases hz:b=0
  ·rw[if_pos hz,hz,Int.zero_mul]; decide
  ·rw[if_neg hz]; exact Jq f (o.2.2.2.2.2.2 hz) i h (by omega)
 have T:1000000*((a+b)*(c+d))=1000000*(a*(c+d))+1000000*(b*(c+d)):=by rw[Int.add_mul,Int.mul_add 1000000]
 obtain⟨n,u⟩:=U8 (p8 t p q a c d+(if b=0 then 0 else p8 t (p+1) q b c d)) ((a+b)*(c+d)) m (by omega) (by omega) e;have k:=FD (a:=p8 t p q a c d+(if b=0 then 0 else p8 t (p+1) q b c d)) (K:=1000000) m e (by omega) (by omega);have z:c9 ((a+b)*(c+d)):=oo;have i2:c9 (a+b):=oo;have i3:c9 (c+d):=oo;refine⟨_,?_,?_,k⟩
 ·unfold J6;rw[E,gP ⟨rfl,trivial⟩,vS,lE,F,gP ⟨rfl,trivial⟩,vS,lE,Ws f v i j h,IE,n,gP ⟨z,rfl,trivial⟩,vS,lE]
 ·unfold BB;rw[P,gP ⟨rfl,trivial⟩,vS,lE,G,gP ⟨rfl,trivial⟩,vS,lE,H0J f v i j h,OB,u,gP ⟨i2,i3,z,rfl,trivial⟩,vS,lE]
end Go.Proofs.YtdjgagoledoaaaaGreatDoor
end
section
namespace Go.Proofs.YtdjgagoledoaaaaGreatDoor
open Go Go.Proofs Go.Proofs.Sv Go.Proofs.Xv Go.Proofs.Xl Go.Proofs.Xd
section
variable {b:j7}
theorem Ht(b:j7){n:Nat}(h:n<b.2.2.length):(o3 b).2.2.2.1.getD ((n:Int)).toNat 0=(z6 b n).getD 0 0/\ix (n:Int) (o3 b).2.2.2.1.length:=by
 have a:(o3 b).2.2.2.1.length=b.2.2.length:=Fz _ _;exact⟨MD _ 0 _ n h,oo⟩
theorem Hu(b:j7){n:Nat}(h:n<b.2.2.length):(o3 b).2.2.2.2.1.getD ((n:Int)).toNat []=Y9 b n/\ix (n:Int) (o3 b).2.2.2.2.1.length:=by
 have a:(o3 b).2.2.2.2.1.length=b.2.2.length:=Fz _ _;exact⟨MD _ [] _ n h,oo⟩
theorem H0T(P:wf l9 b)(t:p7 b=true){n k:Nat}(H:n<b.2.2.length)(Y:k < (x7 b.2.1 n).length){s m:Int}(e:0<=s)(q:s<=1000000)(g:m=0∨m=1) :
  ∃r,V7 s ((Y9 b n).getD k 0) m=some r/\Ku b (n:Int) (k:Int) s m=some r/\0<=r:=by
 have d:=Bk t H;obtain⟨v,l⟩:=d.delays;have c:=l (u6 b n k).toNat;have F:=d.sn;have Q:=d.wf.snkIn k (by omega);obtain⟨W,X,f3⟩:=QK s ((A7 b n).getD (u6 b n k).toNat 0);have V:=J8 (A:=1000000) (B:=1000000) (x:=s) (y:=s) (by omega) (by omega) (by omega) (by omega) (by decide);have o:=J8 (A:=301000000) (B:=301000000) (x:=(A7 b n).getD (u6 b n k).toNat 0) (y:=(A7 b n).getD (u6 b n k).toNat 0) (by omega) (by omega) (by omega) (by omega) (by decide);have j:0<=s*s:=Int.mul_nonneg e e;have T:0<=(A7 b n).getD (u6 b n k).toNat 0*(A7 b n).getD (u6 b n k).toNat 0:=Int.mul_nonneg c.1 c.1;obtain⟨r,z,w1,G,i,u,_⟩:=K0E e q c.1 c.2 g;refine⟨r,by grind[Hi],?_,u⟩;have h:((n:Int)).toNat=n:=rfl;have f:((k:Int)).toNat=k:=rfl;have a:0<=(b.2.2.getD n (b7 l6)).2.2.2.getD k 0/\((b.2.2.getD n (b7 l6)).2.2.2.getD k 0).toNat < (A7 b n).length:=by rw[v]; exact Q
 have E:k < (b.2.2.getD n (b7 l6)).2.2.2.length:=by
  show k < (m3 b n).2.2.2.length;omega
 unfold Ku;rw[M0a b P d,vS,h,f,gP ⟨rfl,oo,oo,⟨a.1,by omega⟩,a.2,trivial⟩,lE];show gd (c9 (1000000*s)/\c9 (1000000*s*s)/\c9 (4*(A7 b n).getD (u6 b n k).toNat 0)/\c9 (4*(A7 b n).getD (u6 b n k).toNat 0*(A7 b n).getD (u6 b n k).toNat 0)/\c9 (1000000*s*s+4*(A7 b n).getD (u6 b n k).toNat 0*(A7 b n).getD (u6 b n k).toNat 0)/\(Cn (1000000*s*s+4*(A7 b n).getD (u6 b n k).toNat 0*(A7 b n).getD (u6 b n k).toNat 0) m).isSome=true/\(V4 (vl (Cn (1000000*s*s+4*(A7 b n).getD (u6 b n k).toNat 0*(A7 b n).getD (u6 b n k).toNat 0) m)) 1000 m).isSome=true/\True) (lt (vl (V4 (vl (Cn (1000000*s*s+4*(A7 b n).getD (u6 b n k).toNat 0*(A7 b n).getD (u6 b n k).toNat 0) m)) 1000 m)) fun w=>some w)=_;rw[G,vS,i,vS,gP ⟨oo,oo,oo,oo,oo,rfl,rfl,trivial⟩,lE]
theorem MS(o:wf l9 b)(f:p7 b=true){q:Int}(j:m0 q 0 (((lV b).length:Int)-1)=true){s m:Int}(H:0<=s)(z:s<=1000000)(v:m=0∨m=1) :
  ∃r,F6 (o3 b) q s m=some r/\AW b ((lV b).getD q.toNat (b7 y80)) s m=some r/\r<=1000000:=by
 have j:=y9.1 j;have d:ix q (o3 b).2.2.1.length:=⟨j.1,by show q < ((lV b).length:Int); omega⟩;generalize hl:(lV b).getD q.toNat (b7 y80)=l;have e:(o3 b).2.2.1.getD q.toNat (b7 y80)=l:=hl;have c:l∈lV b:=by rw[<- hl]; exact F0 (by omega)
 rcases Hn f c with ⟨a,n,h⟩ | ⟨n,k,h⟩
 ·obtain⟨t,T⟩:=AB h.slw h.trs;obtain⟨r,E,y,W,w⟩:=Jr T s ((z6 b n).getD 0 0) m;obtain⟨g,i⟩:=Ht b h.nlt;refine⟨r,?_,?_,w⟩
  ·unfold F6;refine(gP ⟨d,trivial⟩).trans ?_;rw[lE,e,Z0 h.pix h.net,vS,gP ⟨rfl,trivial⟩,lE];refine(if_pos (by rw[h.kind]; rfl)).trans ?_;rw[Ho h,vS,g,E,vS];refine(gP ⟨rfl,by decide,t,i,rfl,trivial⟩).trans ?_;rw[lE];have:min r 1000000=r:=by omega
   rw[this]
  ·unfold AW;refine(if_pos (by rw[h.kind]; rfl)).trans ?_;rw[M0d o f h,vS,gP ⟨rfl,trivial⟩,lE];show gd (_/\ix (l.2.1.tmod 2) a.2.2.2.2.2.length/\(BB (a.2.2.2.2.2.getD (l.2.1.tmod 2).toNat (b7 y70)) s ((z6 b n).getD 0 0) m).isSome=true/\True) (lt (vl (BB (a.2.2.2.2.2.getD (l.2.1.tmod 2).toNat (b7 y70)) s ((z6 b n).getD 0 0) m)) fun F=>some F)=_;rw[y,vS,gP ⟨by decide,t,rfl,trivial⟩,lE]
 ·obtain⟨r,G,Q,V⟩:=H0T o f h.nlt h.klt H z v;obtain⟨g,i⟩:=Hu b h.nlt;have P:=Hj b n;have x:=h.klt;refine⟨min r 1000000,?_,?_,by omega⟩
  ·unfold F6;refine(gP ⟨d,trivial⟩).trans ?_;rw[lE,e,Z0 h.pix h.net,vS,gP ⟨rfl,trivial⟩,lE];refine(if_neg (by rw[h.kind]; decide)).trans ?_;rw[g,h.idx];have u:((k:Int)).toNat=k:=rfl;rw[u,G,vS];refine(gP ⟨i,oo,rfl,trivial⟩).trans ?_;rw[lE]
  ·unfold AW;refine(if_neg (by rw[h.kind]; decide)).trans ?_;rw[M0c o f h,vS,h.idx,Q,vS,gP ⟨rfl,rfl,trivial⟩,lE,Int.min_comm]
def B9(c:p5)(k m:Int):Int:=if(k==1)=true then(if(m==0)=true then c.2.1 else c.2.2.1) else(if(m==0)=true then c.2.2.2.1 else c.2.2.2.2)
theorem MT(c:p5)(k m:Int):IH c k m=some (B9 c k m):=by
 grind[IH,B9]
theorem N0H(c:p5)(k m:Int):Gv c k m=some (B9 c k m):=by
 grind[Gv,B9]
def G8(c:p5):Bool:=I4 c.1&&(decide (100<=c.2.1)&&decide (c.2.1<=c.2.2.1)&&decide (c.2.2.1<=5000))&&(decide (100<=c.2.2.2.1)&&decide (c.2.2.2.1<=c.2.2.2.2)&&decide (c.2.2.2.2<=5000))
theorem DB{c:p5}(h:G8 c=true)(k m:Int):0<=B9 c k m/\B9 c k m<=5000:=by
 grind[G8,B9]
theorem QM(G:wf l9 b)(j:p7 b=true){c:p5}(W:G8 c=true){q:Int}(F:m0 q 0 (((lV b).length:Int)-1)=true)(s m:Int) :
  ∃r,L8 (o3 b) c q s m=some r/\AY b c ((lV b).getD q.toNat (b7 y80)) s m=some r /\ -6000000<=r/\r<=6000000:=by
 have F:=y9.1 F;have g:ix q (o3 b).2.2.1.length:=⟨F.1,by show q < ((lV b).length:Int); omega⟩;generalize hl:(lV b).getD q.toNat (b7 y80)=l;have i:(o3 b).2.2.1.getD q.toNat (b7 y80)=l:=hl;have f:l∈lV b:=by rw[<- hl]; exact F0 (by omega)
 have hf:=DB W l.2.2.1 m;have d:∀p:Int,-1000000<=p->p<=1000000->Aw c l m p=some (u0 (p*B9 c l.2.2.1 m) 1000 m)/\Ir c l m p=some (u0 (p*B9 c l.2.2.1 m) 1000 m) /\ -6000000<=u0 (p*B9 c l.2.2.1 m) 1000 m/\u0 (p*B9 c l.2.2.1 m) 1000 m<=6000000:=fun p p0 p1=>by
  have hp:=J8 (A:=1000000) (B:=5000) (x:=p) (y:=B9 c l.2.2.1 m) (by omega) (by omega) (by omega) (by omega) (by decide);have t:=U8 (p*B9 c l.2.2.1 m) 1000 m (by omega) (by omega) (by decide);have T:=FD (a:=p*B9 c l.2.2.1 m) (b:=1000) (K:=6000000) m (by decide) (by omega) (by omega);have w:Av p (B9 c l.2.2.1 m) m=some (u0 (p*B9 c l.2.2.1 m) 1000 m):=by
   unfold Av;rw[t.1,vS,gP ⟨oo,rfl,trivial⟩,lE]
  refine⟨?_,?_,T⟩
  ·rw[Aw,MT,vS,w,vS,gP ⟨rfl,rfl,trivial⟩,lE]
  ·rw[Ir,N0H,vS,t.2,vS,gP ⟨rfl,oo,rfl,trivial⟩,lE]
 rcases Hn j f with ⟨a,n,h⟩ | ⟨n,k,h⟩
 ·obtain⟨Q,t2⟩:=AB h.del h.trs;obtain⟨r,l1,Y,l3,V⟩:=Jr t2 s ((z6 b n).getD 0 0) m;obtain⟨o,E⟩:=Ht b h.nlt;obtain⟨u,v,z⟩:=d r l3 V;refine⟨_,?_,?_,z⟩
  ·unfold L8;refine(gP ⟨g,trivial⟩).trans ?_;rw[lE,i,Z0 h.pix h.net,vS,gP ⟨rfl,trivial⟩,lE];refine(if_pos (by rw[h.kind]; rfl)).trans ?_;rw[Ho h,vS,o,l1,vS];refine(gP ⟨rfl,by decide,Q,E,rfl,trivial⟩).trans ?_;rw[lE];exact u
  ·unfold AY;refine(if_pos (by rw[h.kind]; rfl)).trans ?_;rw[M0d G j h,vS,gP ⟨rfl,trivial⟩,lE];show gd (_/\ix (l.2.1.tmod 2) a.2.2.2.2.1.length/\(BB (a.2.2.2.2.1.getD (l.2.1.tmod 2).toNat (b7 y70)) s ((z6 b n).getD 0 0) m).isSome=true/\True) (lt (vl (BB (a.2.2.2.2.1.getD (l.2.1.tmod 2).toNat (b7 y70)) s ((z6 b n).getD 0 0) m)) fun v1=>Ir c l m v1)=_;rw[Y,vS,gP ⟨by decide,Q,rfl,trivial⟩,lE];exact v
 ·have P:=Bk j h.nlt;obtain⟨dl,X⟩:=P.delays;have t:=X (u6 b n k).toNat;obtain⟨o,E⟩:=Hu b h.nlt;have aA:=Hj b n;have e:=h.klt;have aB:=u0B b n m;have H:((k:Int)).toNat=k:=rfl;have T:=FD (a:=(A7 b n).getD (u6 b n k).toNat 0) (b:=1000) (K:=301000) m (by decide) (by omega) (by omega);obtain⟨u,v,z⟩:=d (u0 ((A7 b n).getD (u6 b n k).toNat 0) 1000 m) (by omega) (by omega);refine⟨_,?_,?_,z⟩
  ·unfold L8;refine(gP ⟨g,trivial⟩).trans ?_;rw[lE,i,Z0 h.pix h.net,vS,gP ⟨rfl,trivial⟩,lE];refine(if_neg (by rw[h.kind]; decide)).trans ?_;rw[o,h.idx,H,Hi e,(U8 _ 1000 m (by omega) (by omega) (by decide)).1,vS];refine(gP ⟨E,oo,rfl,trivial⟩).trans ?_;rw[lE];exact u
  ·unfold AY;refine(if_neg (by rw[h.kind]; decide)).trans ?_;rw[M0c G j h,vS,N0I b G P,vS,h.idx,H,gP ⟨rfl,rfl,oo,by omega,trivial⟩,lE,u0C e];exact v
theorem M0h(s:Int):Ff s=some (m0 s 0 1000000):=by
 unfold Ff;rw[Y5,vS,gP ⟨rfl,trivial⟩]
end
theorem Wu{b:j7}{q:Int}(h:m0 q 0 (((lV b).length:Int)-1)=true):ix q (lV b).length/\q.toNat < (lV b).length:=by
 have:=y9.1 h;exact⟨oo,by omega⟩
theorem r54(c:p5)(e:wf r5 c):LF c=some (G8 c):=by
 have d:∀a b,GO a b=some (decide (100<=a)&&decide (a<=b)&&decide (b<=5000)):=fun _ _=>rfl;unfold LF G8;rw[VM _ e.1,vS,d,vS,d,vS,gP ⟨rfl,(fun _=>rfl),(fun _=>rfl),trivial⟩]
def Wv(c:p5)(i:Nat):Bool:=!m0 ([c.2.1,c.2.2.1,c.2.2.2.1,c.2.2.2.2].getD i 0) 100 5000
theorem r70(c:p5)(q:wf r5 c):KW c=some (G8 c):=by
 unfold KW;rw[lE];have b:=H5 (n:=4) (by decide) (Wv c) (some false) (e:=KV c ()) (F:=OW [c.2.1,c.2.2.1,c.2.2.2.1,c.2.2.2.2] c) (fun g i hi=>by
  have k:((i:Int)).toNat=i:=rfl;have f:([c.2.1,c.2.2.1,c.2.2.2.1,c.2.2.2.2]:List Int).length=4:=rfl;refine(if_pos (decide_eq_true (by rw[f]; omega))).trans ?_;rw[k,R7,vS,gP ⟨⟨by omega,by rw[f]; omega⟩,hi,rfl,trivial⟩,gP ⟨oo,trivial⟩];rfl) (fun g=>by
  show OW [c.2.1,c.2.2.1,c.2.2.2.1,c.2.2.2.2] c g (((4:Nat):Int))=_;rw[OW];exact if_neg (by simp))
 refine b.trans ?_;have o:KV c ()=some (I4 c.1&&decide (c.2.1<=c.2.2.1)&&decide (c.2.2.2.1<=c.2.2.2.2)):=by
  unfold KV;rw[Qy _ q.1,vS,gP ⟨rfl,trivial⟩]
 rw[o];have j:(List.range 4).any (Wv c)=(!m0 c.2.1 100 5000||(!m0 c.2.2.1 100 5000||(!m0 c.2.2.2.1 100 5000||(!m0 c.2.2.2.2 100 5000||false)))):=rfl;have l:(if(List.range 4).any (Wv c)=true then false else(I4 c.1&&decide (c.2.1<=c.2.2.1)&&decide (c.2.2.2.1<=c.2.2.2.2)))=G8 c:=by
  rw[j,Bool.eq_iff_iff];unfold G8 m0;by_cases h:(!(decide (100<=c.2.1)&&decide (c.2.1<=5000))||(!(decide (100<=c.2.2.1)&&decide (c.2.2.1<=5000))||(!(decide (100<=c.2.2.2.1)&&decide (c.2.2.2.1<=5000))||(!(decide (100<=c.2.2.2.2)&&decide (c.2.2.2.2<=5000))||false))))=true
  ·rw[if_pos h];simp only[Bool.or_eq_true,Bool.not_eq_true',Bool.and_eq_false_iff,decide_eq_false_iff_not,Bool.false_eq_true,or_false] at h;simp only[ba,dq,Bool.false_eq_true,false_iff];rintro⟨⟨_,a⟩,d⟩;omega
  ·rw[if_neg h];simp only[Bool.or_eq_true,Bool.not_eq_true',Bool.and_eq_false_iff,decide_eq_false_iff_not,Bool.false_eq_true,or_false] at h;simp only[ba,dq];constructor
   ·rintro⟨⟨a,d⟩,m⟩;exact⟨⟨a,by omega⟩,by omega⟩
   ·rintro⟨⟨a,d⟩,m⟩;exact⟨⟨a,by omega⟩,by omega⟩
 rw[<- l];split <;> rfl
end Go.Proofs.YtdjgagoledoaaaaGreatDoor
end
section
namespace Go.Proofs.YtdjgagoledoaaaaGreatDoor
open Go Go.Proofs Go.Proofs.Xv Go.Proofs.Xl Go.Proofs.Xd
theorem Js{a b:Int}(m:Int)(c:0<=a)(d:0<b):0<=u0 a b m:=by
 unfold u0;have e:=Int.emod_nonneg a (Int.ne_of_gt d);have f:0<=a / b:=Int.ediv_nonneg c (Int.le_of_lt d);rw[Int.tdiv_eq_ediv_of_nonneg c,Int.tmod_eq_emod_of_nonneg c,if_neg (by rw[ba,dq]; omega)];split <;> omega
theorem v0o(xs:List Int):∀n i,i<=n->fN (fun i m=>min m (xs.getD (i+1) 0)) n (xs.getD 0 0)<=xs.getD i 0
 | 0,i,h=>by
   have:i=0:=by omega
   subst this;exact Int.le_refl _
 | n+1,i,h=>by
   show min (fN (fun i m=>min m (xs.getD (i+1) 0)) n (xs.getD 0 0)) (xs.getD (n+1) 0)<=_;rcases Nat.lt_or_ge n i with a | a
   ·have:i=n+1:=by omega
    subst this;omega
   ·have:=v0o xs n i a;omega
theorem QN{l:List Dq}(h:C0 l true=true){t:Dq}(a:t∈l):∀i,i<t.2.2.length->0<=t.2.2.getD i 0:=fun i hi=>by
 unfold C0 at h;rw[ba] at h;have:=List.all_eq_true.1 h.2 t a;simp only[Bool.true_and,ba,Bool.not_eq_true',decide_eq_false_iff_not] at this;have c:=v0o t.2.2 (t.2.2.length-1) i (by omega);have b:¬Ax t.2.2<0:=this.2;unfold Ax at b;omega
theorem QO{t:s8}(f:∀i,i<t.2.2.length->0<=t.2.2.getD i 0){r q:Nat}{w c d:Int}(a:0<=w)(e:0<=c)(g:0<=d):0<=p8 t r q w c d:=by
 have b:∀r q,0<=J0 t r q:=fun r q=>by
  unfold J0;rcases Nat.lt_or_ge (r*t.2.1.length+q) t.2.2.length with h | h
  ·exact f _ h
  ·rw[gq,List.getElem?_eq_none h]; exact Int.le_refl _
 unfold p8;have k:=Int.mul_nonneg (Int.mul_nonneg (b r q) a) e;have j:=Int.mul_nonneg (Int.mul_nonneg (b r (q+1)) a) g;omega
theorem q0A{t:s8}(h:C3 t=true)(F:∀i,i<t.2.2.length->0<=t.2.2.getD i 0)(s l m:Int):∀r,J6 t s l m=some r->0<=r:=by
 intro r E;have j:F7 t.1=true/\F7 t.2.1=true:=by
  simp only[C3,ba] at h;exact⟨h.1.1.1,h.1.1.2⟩
 obtain⟨p,a,b,L,k,z,h1,H⟩:=Hs s j.1;obtain⟨q,c,d,M,u,n,h3,P⟩:=Hs l j.2;have g:0<=a/\0<=b/\1<=a+b/\a+b<=100000/\a<=100000/\b<=100000/\(b≠0->p+1<t.1.length):=by
  rcases z with ⟨rfl,rfl,_⟩ | ⟨_,_,_,_,_⟩ <;> omega
 have e:0<=c/\0<=d/\1<=c+d/\c+d<=100000:=by
  rcases n with ⟨rfl,rfl,_⟩ | ⟨_,_,_,_,_⟩ <;> omega
 have Q:=J8 (A:=100000) (B:=100000) (x:=a+b) (y:=c+d) (by omega) (by omega) (by omega) (by omega) (by decide);have f:0 < (a+b)*(c+d):=Int.mul_pos (by omega) (by omega);have Y:=Jq h k u n (w:=a) (by omega);have W : -(1000000*(b*(c+d)))<=(if b=0 then 0 else p8 t (p+1) q b c d)/\(if b=0 then 0 else p8 t (p+1) q b c d)<=1000000*(b*(c+d)):=by
  by_cases hz:b=0
  ·rw[if_pos hz,hz,Int.zero_mul]; decide
  ·rw[if_neg hz]; exact Jq h (g.2.2.2.2.2.2 hz) u n (by omega)
 have X:=QO F (r:=p) (q:=q) g.1 e.1 e.2.1;have T:0<=(if b=0 then 0 else p8 t (p+1) q b c d):=by
  split
  ·exact Int.le_refl _
  ·exact QO F g.2.1 e.1 e.2.1
 have V:1000000*((a+b)*(c+d))=1000000*(a*(c+d))+1000000*(b*(c+d)):=by rw[Int.add_mul,Int.mul_add 1000000]
 have o:=(U8 (p8 t p q a c d+(if b=0 then 0 else p8 t (p+1) q b c d)) ((a+b)*(c+d)) m (by omega) (by omega) f).1;have G:c9 ((a+b)*(c+d)):=oo;have v:J6 t s l m=some (u0 (p8 t p q a c d+(if b=0 then 0 else p8 t (p+1) q b c d)) ((a+b)*(c+d)) m):=by
  unfold J6;rw[H,gP ⟨rfl,trivial⟩,vS,lE,P,gP ⟨rfl,trivial⟩,vS,lE,Ws h k u z n,IE,o,gP ⟨G,rfl,trivial⟩,vS,lE]
 rw[v] at E;cases E;exact Js m (by omega) f
end Go.Proofs.YtdjgagoledoaaaaGreatDoor
end
section
namespace Go.Proofs.YtdjgagoledoaaaaGreatDoor
open Go Go.Proofs Go.Proofs.Sv Go.Proofs.Xv Go.Proofs.Xl Go.Proofs.Xd
theorem QP{a:Int}(m:Int)(h:0<=a):u0 a 1000 m=if 0<a % 1000/\m=1 then a / 1000+1 else a / 1000:=by
 unfold u0;have b:=Int.emod_nonneg a (show(1000:Int)≠0 by decide);rw[Int.tdiv_eq_ediv_of_nonneg h,Int.tmod_eq_emod_of_nonneg h,if_neg (by rw[ba,dq]; omega)];by_cases c:0<a % 1000/\m=1
 ·rw[if_pos c,if_pos (by rw[ba,dq,beq_iff_eq]; exact c)]
 ·rw[if_neg c,if_neg (by rw[ba,dq,beq_iff_eq]; exact c)]
theorem w0d{a b:Int}(m:Int)(h:0<=a)(c:a<=b):u0 a 1000 m<=u0 b 1000 m:=by
 rw[QP m h,QP m (by omega)];split <;> split <;> omega
theorem Ww{a b:Int}(h:0<=a)(c:a<=b):u0 a 1000 0<=u0 b 1000 1:=by
 rw[QP 0 h,QP 1 (by omega)];rw[if_neg (by omega)];split <;> omega
theorem v0n{p x y:Int}(a:0<=p)(h:x<=y):p*x<=p*y:=Int.mul_le_mul_of_nonneg_left h a
section
variable {b:j7}
structure R0G(b:j7)(q:Int)(B:Int->Int->Int):Prop where
 bd:∀s m,0<=B s m/\B s m<=1000000
 val:∀c,G8 c=true->∀s m,L8 (o3 b) c q s m=some (u0 (B s m*B9 c ((lV b).getD q.toNat (b7 y80)).2.2.1 m) 1000 m)
theorem E0x(W:p7 b=true){q:Int}(G:m0 q 0 (((lV b).length:Int)-1)=true):∃B,R0G b q B:=by
 have G:=y9.1 G;have i:ix q (o3 b).2.2.1.length:=⟨G.1,by show q < ((lV b).length:Int); omega⟩;generalize hl:(lV b).getD q.toNat (b7 y80)=l;have j:(o3 b).2.2.1.getD q.toNat (b7 y80)=l:=hl;have g:l∈lV b:=by rw[<- hl]; exact F0 (by omega)
 have e:∀(c:p5) (m p:Int),G8 c=true -> -1000000<=p->p<=1000000->Aw c l m p=some (u0 (p*B9 c l.2.2.1 m) 1000 m):=fun c m p f p0 p1=>by
  have hf:=DB f l.2.2.1 m;have hp:=J8 (A:=1000000) (B:=5000) (x:=p) (y:=B9 c l.2.2.1 m) (by omega) (by omega) (by omega) (by omega) (by decide);have T:=U8 (p*B9 c l.2.2.1 m) 1000 m (by omega) (by omega) (by decide);have z:Av p (B9 c l.2.2.1 m) m=some (u0 (p*B9 c l.2.2.1 m) 1000 m):=by
   unfold Av;rw[T.1,vS,gP ⟨oo,rfl,trivial⟩,lE]
  rw[Aw,MT,vS,z,vS,gP ⟨rfl,rfl,trivial⟩,lE]
 rcases Hn W g with ⟨a,n,h⟩ | ⟨n,k,h⟩
 ·obtain⟨H,P⟩:=AB h.del h.trs;have u:(l.2.1.tmod 2).toNat<a.2.2.2.2.1.length:=by have:=H.1; have:=H.2; omega
  have E:=QN h.del (F0 (d:=b7 y70) u);obtain⟨t,F⟩:=Ht b h.nlt;refine⟨fun s m=>vl (J6 (a.2.2.2.2.1.getD (l.2.1.tmod 2).toNat (b7 y70)) s ((z6 b n).getD 0 0) m),⟨fun s m=>?_,fun c f s m=>?_⟩⟩
  ·obtain⟨r,o,l2,X,V⟩:=Jr P s ((z6 b n).getD 0 0) m;have:=q0A P E s ((z6 b n).getD 0 0) m r o;rw[o,vS];omega
  ·obtain⟨r,o,l2,X,V⟩:=Jr P s ((z6 b n).getD 0 0) m;show _=some (u0 (vl (J6 (a.2.2.2.2.1.getD (l.2.1.tmod 2).toNat (b7 y70)) s ((z6 b n).getD 0 0) m)*B9 c ((lV b).getD q.toNat (b7 y80)).2.2.1 m) 1000 m);rw[hl];unfold L8;refine(gP ⟨i,trivial⟩).trans ?_;rw[lE,j,Z0 h.pix h.net,vS,gP ⟨rfl,trivial⟩,lE];refine(if_pos (by rw[h.kind]; rfl)).trans ?_;rw[Ho h,vS,t,o,vS];refine(gP ⟨rfl,by decide,H,F,rfl,trivial⟩).trans ?_;rw[lE];exact e c m r f X V
 ·have no:=Bk W h.nlt;obtain⟨dl,db⟩:=no.delays;have T:=db (u6 b n k).toNat;obtain⟨t,F⟩:=Hu b h.nlt;have aA:=Hj b n;have v:=h.klt;have Y:((k:Int)).toNat=k:=rfl;have Q:=fun m=>FD (a:=(A7 b n).getD (u6 b n k).toNat 0) (b:=1000) (K:=301000) m (by decide) (by omega) (by omega);have w:=fun m=>Js (a:=(A7 b n).getD (u6 b n k).toNat 0) (b:=1000) m (by omega) (by decide);refine⟨fun _ m=>u0 ((A7 b n).getD (u6 b n k).toNat 0) 1000 m,⟨fun s m=>⟨w m,by have:=(Q m).2; omega⟩,fun c f s m=>?_⟩⟩;show _=some (u0 (u0 ((A7 b n).getD (u6 b n k).toNat 0) 1000 m*B9 c ((lV b).getD q.toNat (b7 y80)).2.2.1 m) 1000 m);rw[hl];unfold L8;refine(gP ⟨i,trivial⟩).trans ?_;rw[lE,j,Z0 h.pix h.net,vS,gP ⟨rfl,trivial⟩,lE];refine(if_neg (by rw[h.kind]; decide)).trans ?_;rw[t,h.idx,Y,Hi v,(U8 _ 1000 m (by omega) (by omega) (by decide)).1,vS];refine(gP ⟨F,oo,rfl,trivial⟩).trans ?_;rw[lE];exact e c m _ f (by have:=Q m; omega) (by have:=Q m; omega)
end
theorem E0H{a b c:Int}(g:0<=a)(d:0<b)(h:a<=c*b):u0 a b 1<=c:=by
 rw[Bo g d];have e:=Int.mul_ediv_add_emod a b;split
 ·rename_i hz;rcases Int.lt_or_le (a / b) c with f | f
  ·omega
  ·have:=Int.mul_le_mul_of_nonneg_right f (show 0<=b by omega);have:b*(a / b)=a / b*b:=Int.mul_comm _ _;omega
 ·exact Int.ediv_le_of_le_mul d h
theorem D0Z{a b:Int}(d:0<=a)(c:0<b):a<=u0 a b 1*b:=by
 rw[Bo d c];have e:=Int.mul_ediv_add_emod a b;have g:=Int.emod_lt_of_pos a c;have f:=Int.emod_nonneg a (show b≠0 by omega);have:b*(a / b)=a / b*b:=Int.mul_comm _ _;split
 ·grind
 ·omega
theorem Jt{a b c d:Int}(i:0<=a)(g:0<b)(j:0<=c)(e:0<d)(h:a*d<=c*b){m:Int}(k:m=0∨m=1):u0 a b m<=u0 c d m:=by
 rcases k with rfl | rfl
 ·rw[Dz i g,Dz j e,Int.le_ediv_iff_mul_le e];have l:=Int.mul_le_mul_of_nonneg_right (Int.ediv_mul_le a (show b≠0 by omega)) (show 0<=d by omega);have f:a / b*d*b<=c*b:=by rw[Int.mul_assoc,Int.mul_comm d b,<- Int.mul_assoc]; omega
  exact Int.le_of_mul_le_mul_right f g
 ·refine E0H i g ?_;have l:=Int.mul_le_mul_of_nonneg_right (D0Z j e) (show 0<=b by omega);have f:a*d<=u0 c d 1*b*d:=by rw[Int.mul_assoc,Int.mul_comm b d,<- Int.mul_assoc]; omega
  exact Int.le_of_mul_le_mul_right f e
theorem E0m{a b:Int}(d:0<=a)(c:0<b):u0 a b 0<=u0 a b 1:=by
 grind[Dz,Bo]
theorem F0r{xs:List Int}(h:F7 xs=true){p:Nat}(a:p<xs.length):O6 xs (xs.getD p 0)=some ([((p:Int),1)],1):=by
 obtain⟨m,l⟩:=CA h;have c:((xs.length:Int)-1).toNat=xs.length-1:=by omega
 have k:xs.getD 0 0<=xs.getD p 0:=by
  rcases Nat.eq_zero_or_pos p with e | e
  ·grind
  ·have:=CF h e a; omega
 have j:xs.getD p 0<=xs.getD (xs.length-1) 0:=by
  rcases Nat.lt_or_ge p (xs.length-1) with e | e
  ·have:=CF h e (by omega); omega
  ·grind
 have b:A3 xs (xs.getD p 0)=xs.getD p 0:=by unfold A3; omega
 have f:∀i,i<p->xs.getD i 0<A3 xs (xs.getD p 0):=fun i hi=>by rw[b]; exact CF h hi a
 have d:∀i,p<=i->i<xs.length->A3 xs (xs.getD p 0)<=xs.getD i 0:=fun i hi g=>by
  rw[b];rcases Nat.eq_or_lt_of_le hi with e | e
  ·grind
  ·have:=CF h e g; omega
 unfold O6;rw[gP ⟨oo,oo,oo,trivial⟩,c];change lt (A3 xs (xs.getD p 0)) _=_;rw[lE,MR (by omega) a f d,gP ⟨rfl,trivial⟩,vS,lE,if_pos (by grind)]
theorem QQ{t:s8}(h:C3 t=true)(_:∀i,i<t.2.2.length->0<=t.2.2.getD i 0){s l:Int}{p q:Nat}{a b c d:Int}{L M:List (Int×Int)}(e:p<t.1.length)(o:Sh t.1.length p a b L)(u:O6 t.1 s=some (L,a+b))(k:q<t.2.1.length)(g:Sh t.2.1.length q c d M)(r:O6 t.2.1 l=some (M,c+d))(m:Int) :
  J6 t s l m=some (u0 (p8 t p q a c d+(if b=0 then 0 else p8 t (p+1) q b c d)) ((a+b)*(c+d)) m):=by
 have n:0<=a/\0<=b/\1<=a+b/\a+b<=100000/\a<=100000/\b<=100000/\(b≠0->p+1<t.1.length):=by
  rcases o with ⟨rfl,rfl,_⟩ | ⟨_,_,_,_,_⟩ <;> omega
 have z:0<=c/\0<=d/\1<=c+d/\c+d<=100000:=by
  rcases g with ⟨rfl,rfl,_⟩ | ⟨_,_,_,_,_⟩ <;> omega
 have E:=J8 (A:=100000) (B:=100000) (x:=a+b) (y:=c+d) (by omega) (by omega) (by omega) (by omega) (by decide);have f:0 < (a+b)*(c+d):=Int.mul_pos (by omega) (by omega);have G:=Jq h e k g (w:=a) (by omega);have F : -(1000000*(b*(c+d)))<=(if b=0 then 0 else p8 t (p+1) q b c d)/\(if b=0 then 0 else p8 t (p+1) q b c d)<=1000000*(b*(c+d)):=by
  by_cases hz:b=0
  ·grind
  ·rw[if_neg hz]; exact Jq h (n.2.2.2.2.2.2 hz) k g (by omega)
 have H:1000000*((a+b)*(c+d))=1000000*(a*(c+d))+1000000*(b*(c+d)):=by grind
 have j:=(U8 (p8 t p q a c d+(if b=0 then 0 else p8 t (p+1) q b c d)) ((a+b)*(c+d)) m (by omega) (by omega) f).1;have v:c9 ((a+b)*(c+d)):=oo;unfold J6;rw[u,gP ⟨rfl,trivial⟩,vS,lE,r,gP ⟨rfl,trivial⟩,vS,lE,Ws h e k o g,IE,j,gP ⟨v,rfl,trivial⟩,vS,lE]
theorem MU(t:s8)(r q:Nat)(w c d:Int):p8 t r q w c d=w*p8 t r q 1 c d:=by
 grind[p8]
structure MV(t:s8)(l:Int)(V:Int->Int->Int):Prop where
 val:∀s m,J6 t s l m=some (V s m)
 pos:∀s m,0<=V s m
 two:∀s,V s 0<=V s 1
 lo:∀s,∃i,i<t.1.length/\V (t.1.getD i 0) 0<=V s 0
 hi:∀s,∃i,i<t.1.length/\V s 1<=V (t.1.getD i 0) 1
theorem D0V{t:s8}(y:C3 t=true)(H:∀i,i<t.2.2.length->0<=t.2.2.getD i 0)(l:Int):∃V,MV t l V:=by
 have v:F7 t.1=true/\F7 t.2.1=true:=by
  simp only[C3,ba] at y;exact⟨y.1.1.1,y.1.1.2⟩
 obtain⟨q,c,d,M,T,G,X,Q⟩:=Hs l v.2;have E:0<=c/\0<=d/\1<=c+d/\c+d<=100000:=by
  rcases G with ⟨rfl,rfl,_⟩ | ⟨_,_,_,_,_⟩ <;> omega
 have F:∀r,0<=p8 t r q 1 c d:=fun r=>QO H (by decide) E.1 E.2.1;have j:∀s,∃(p:Nat) (a b:Int),p<t.1.length/\0<=a/\0<=b/\1<=a+b/\(b≠0->p+1<t.1.length)/\∀m,J6 t s l m=some (u0 (a*p8 t p q 1 c d+b*p8 t (p+1) q 1 c d) ((a+b)*(c+d)) m):=fun s=>by
  obtain⟨p,a,b,L,g,P,Y,W⟩:=Hs s v.1;have e:0<=a/\0<=b/\1<=a+b/\(b≠0->p+1<t.1.length):=by
   rcases P with ⟨rfl,rfl,_⟩ | ⟨_,_,_,_,_⟩ <;> omega
  refine⟨p,a,b,g,e.1,e.2.1,e.2.2.1,e.2.2.2,fun m=>?_⟩;rw[QQ y H g P W T G Q m];by_cases hz:b=0
  ·rw[if_pos hz,MU t p q a,hz,Int.zero_mul]
  ·rw[if_neg hz,MU t p q a,MU t (p+1) q b]
 have x:∀p,p<t.1.length->∀m,J6 t (t.1.getD p 0) l m=some (u0 (p8 t p q 1 c d) (c+d) m):=fun p g m=>by
  have:=QQ y H (a:=1) (b:=0) g (.inl ⟨rfl,rfl,rfl⟩) (F0r v.1 g) T G Q m;rw[this,if_pos rfl,Int.add_zero,Int.add_zero,Int.one_mul]
 have u:∀{a b:Int} (p:Nat),0<=a->0<=b->0<=a*p8 t p q 1 c d+b*p8 t (p+1) q 1 c d:=fun p n k=>by
  have:=Int.mul_nonneg n (F p);have:=Int.mul_nonneg k (F (p+1));omega
 have j5:∀{a b:Int},1<=a+b->0 < (a+b)*(c+d):=fun h=>Int.mul_pos (by omega) (by omega);refine⟨fun s m=>vl (J6 t s l m),⟨fun s m=>?_,fun s m=>?_,fun s=>?_,fun s=>?_,fun s=>?_⟩⟩
 ·obtain⟨p,a,b,_,_,_,_,_,h⟩:=j s
  grind[vl,J6,vS]
 ·obtain⟨p,a,b,_,n,k,e,_,h⟩:=j s;show 0<=vl (J6 t s l m);rw[h,vS];exact Js m (u p n k) (j5 e)
 ·obtain⟨p,a,b,_,n,k,e,_,h⟩:=j s;show vl (J6 t s l 0)<=vl (J6 t s l 1);rw[h,h,vS,vS];exact E0m (u p n k) (j5 e)
 ·obtain⟨p,a,b,g,n,k,e,w,h⟩:=j s;have o:∀r,r<t.1.length->(a+b)*p8 t r q 1 c d<=a*p8 t p q 1 c d+b*p8 t (p+1) q 1 c d->∃i,i<t.1.length/\vl (J6 t (t.1.getD i 0) l 0)<=vl (J6 t s l 0):=fun r z f=>by
   refine⟨r,z,?_⟩;rw[h,x r z,vS,vS];refine Jt (F r) (by omega) (u p n k) (j5 e) ?_ (.inl rfl);have:=Int.mul_le_mul_of_nonneg_right f (show 0<=c+d by omega)
   grind
  by_cases hz:b=0
  ·grind
  ·rcases Int.le_total (p8 t p q 1 c d) (p8 t (p+1) q 1 c d) with f | f
   ·refine o p g ?_;have:=Int.mul_le_mul_of_nonneg_left f k
    grind
   ·refine o (p+1) (w hz) ?_;have:=Int.mul_le_mul_of_nonneg_left f n
    grind
 ·obtain⟨p,a,b,g,n,k,e,w,h⟩:=j s;have o:∀r,r<t.1.length->a*p8 t p q 1 c d+b*p8 t (p+1) q 1 c d<=(a+b)*p8 t r q 1 c d->∃i,i<t.1.length/\vl (J6 t s l 1)<=vl (J6 t (t.1.getD i 0) l 1):=fun r z f=>by
   refine⟨r,z,?_⟩;rw[h,x r z,vS,vS];refine Jt (u p n k) (j5 e) (F r) (by omega) ?_ (.inr rfl);have:=Int.mul_le_mul_of_nonneg_right f (show 0<=c+d by omega)
   grind
  by_cases hz:b=0
  ·grind
  ·rcases Int.le_total (p8 t p q 1 c d) (p8 t (p+1) q 1 c d) with f | f
   ·refine o (p+1) (w hz) ?_;have:=Int.mul_le_mul_of_nonneg_left f n
    grind
   ·refine o p g ?_;have:=Int.mul_le_mul_of_nonneg_left f k
    grind
theorem s0Y{s d:Int}(e:0<=s)(q:s<=1000000)(c:0<=d)(v:d<=301000000):∃r z,V7 s d 0=some r/\V7 s d 1=some z/\r<=z:=by
 obtain⟨k,w,u⟩:=QK s d;have o:=J8 (A:=1000000) (B:=1000000) (x:=s) (y:=s) (by omega) (by omega) (by omega) (by omega) (by decide);have t:=J8 (A:=301000000) (B:=301000000) (x:=d) (y:=d) (by omega) (by omega) (by omega) (by omega) (by decide);have l:0<=s*s:=Int.mul_nonneg e e;have h:0<=d*d:=Int.mul_nonneg c c;obtain⟨R,i,j,g⟩:=Wm (n:=250000*(s*s)+d*d) (by omega) (by omega);have b:=i.1;have f:=J8 (A:=3000000000) (B:=3000000000) (x:=R) (y:=R) (by omega) (by omega) (by omega) (by omega) (by decide);have a:∀m,V7 s d m=some (N8 (250000*(s*s)+d*d) m R):=fun m=>by
  unfold V7;rw[k,g,vS,gP ⟨oo,oo,oo,oo,oo,trivial⟩,gP ⟨rfl,trivial⟩,lE,gP ⟨(fun _=>oo),trivial⟩];unfold N8;split
  ·have:R.tdiv 500=R / 500:=Int.tdiv_eq_ediv_of_nonneg b;exact gP ⟨by decide,oo,trivial⟩
  ·rw[(U8 R 500 m (by omega) (by omega) (by decide)).1,vS,gP ⟨rfl,trivial⟩,lE]
 refine⟨_,_,a 0,a 1,?_⟩;unfold N8;rw[if_neg (by simp),Dz b (by decide)]
 grind[Int.tdiv_eq_ediv_of_nonneg,Bo]
def D0(s:Int×Int):Bool:=m0 s.1 (-1000000000) 1000000000&&m0 s.2 (-1000000000) 1000000000&&decide (s.1<=s.2)
def B4(s:Int×Int):Bool:=D0 s&&m0 s.1 0 1000000&&m0 s.2 0 1000000
theorem R0x(s:Int×Int):Ba s=some (B4 s):=by
 have e:∀x,Fg x=some (m0 x (-1000000000) 1000000000):=fun _=>rfl;have a:M4 s=some (D0 s):=by
  unfold M4;rw[e,e,vS,vS];exact gP ⟨rfl,fun _=>rfl,trivial⟩
 unfold Ba;rw[a,vS,M0h,M0h,vS,vS];exact gP ⟨rfl,fun _=>rfl,fun _=>rfl,trivial⟩
theorem r56(s:Int×Int):Ba s=some (B4 s)/\KT s=some (B4 s):=by
 refine⟨R0x s,?_⟩;unfold KT;refine congrArg some ?_;unfold B4 D0 m0;rw[Bool.eq_iff_iff];simp only[ba,dq];omega
theorem s0w{b:j7}(e:wf l9 b)(d:p7 b=true){c:p5}(g:G8 c=true){q:Int}(a:m0 q 0 (((lV b).length:Int)-1)=true)(sp:Int×Int)(f:B4 sp=true) :
  ∃v:(Int×Int)×Int×Int,Dj (o3 b) c q sp=some v/\Is b c ((lV b).getD q.toNat (b7 y80)) sp=some v:=by
 unfold B4 at f;rw[ba,ba] at f;have i:=y9.1 f.1.2;have h:=y9.1 f.2;have k:=y9.1 a;have j:ix q (o3 b).2.2.1.length:=⟨k.1,by show q < ((lV b).length:Int); omega⟩;obtain⟨l,P,w,_⟩:=QM e d g a sp.1 0;obtain⟨o,Q,y,_⟩:=QM e d g a sp.2 0;obtain⟨r,Y,W,_⟩:=QM e d g a sp.1 1;obtain⟨n,G,b4,_⟩:=QM e d g a sp.2 1;obtain⟨F,H,E,_⟩:=MS e d a i.1 i.2 (m:=0) (.inl rfl);obtain⟨s,x,z,_⟩:=MS e d a h.1 h.2 (m:=0) (.inl rfl);obtain⟨V,u,f3,_⟩:=MS e d a i.1 i.2 (m:=1) (.inr rfl);obtain⟨T,t,X,_⟩:=MS e d a h.1 h.2 (m:=1) (.inr rfl);refine⟨((min l o,max r n),min F s,max V T),?_,?_⟩
 ·unfold Dj;rw[P,Q,Y,G];refine(gP ⟨rfl,rfl,rfl,rfl,trivial⟩).trans ?_;rw[lE];refine(gP ⟨j,trivial⟩).trans ?_;rw[lE];refine(if_neg ?_).trans ?_
  ·show ¬(decide ((0:Int)<0)&&_)=true;simp
  ·show GM (o3 b) q sp (min l o,max r n)=_;rw[GM,H,x,u,t];rfl
 ·unfold Is;rw[w,W,E,f3,y,b4,z,X];rfl
section
variable {b:j7}
theorem q0U(_:p7 b=true){q:Int}(f:m0 q 0 (((lV b).length:Int)-1)=true){a:D8}{n:Nat}(h:MQ b ((lV b).getD q.toNat (b7 y80)) a n){V:Int->Int->Int}(e:MV (a.2.2.2.2.1.getD (((lV b).getD q.toNat (b7 y80)).2.1.tmod 2).toNat (b7 y70)) ((z6 b n).getD 0 0) V)(i:∀s m,V s m<=1000000){c:p5}(u:G8 c=true)(s m:Int) :
  L8 (o3 b) c q s m=some (u0 (V s m*B9 c ((lV b).getD q.toNat (b7 y80)).2.2.1 m) 1000 m):=by
 have f:=y9.1 f;have j:ix q (o3 b).2.2.1.length:=⟨f.1,by show q < ((lV b).length:Int); omega⟩;generalize hl:(lV b).getD q.toNat (b7 y80)=l at h e;have d:(o3 b).2.2.1.getD q.toNat (b7 y80)=l:=hl;have w:=e.pos s m;have E:=i s m;have v:=DB u l.2.2.1 m;have z:=J8 (A:=1000000) (B:=5000) (x:=V s m) (y:=B9 c l.2.2.1 m) (by omega) (by omega) (by omega) (by omega) (by decide);have o:=U8 (V s m*B9 c l.2.2.1 m) 1000 m (by omega) (by omega) (by decide);have g:Av (V s m) (B9 c l.2.2.1 m) m=some (u0 (V s m*B9 c l.2.2.1 m) 1000 m):=by
  unfold Av;rw[o.1,vS,gP ⟨oo,rfl,trivial⟩,lE]
 obtain⟨t,F⟩:=AB h.del h.trs;obtain⟨k,r⟩:=Ht b h.nlt;unfold L8;refine(gP ⟨j,trivial⟩).trans ?_;rw[lE,d,Z0 h.pix h.net,vS,gP ⟨rfl,trivial⟩,lE];refine(if_pos (by rw[h.kind]; rfl)).trans ?_;rw[Ho h,vS,k,e.val,vS];refine(gP ⟨rfl,by decide,t,r,rfl,trivial⟩).trans ?_;rw[lE];show Aw c l m (V s m)=_;rw[Aw,MT,vS,g,vS,gP ⟨rfl,rfl,trivial⟩,lE]
theorem QR(_:p7 b=true){T:List s8}(g:C0 T true=true){x:Int}(j:x=0∨x=1)(l:Int):∃V,MV (T.getD x.toNat (b7 y70)) l V/\∀s m,V s m<=1000000:=by
 obtain⟨f,c⟩:=AB g j;have a:x.toNat<T.length:=by have:=f.1; have:=f.2; omega
 obtain⟨V,e⟩:=D0V c (QN g (F0 (d:=b7 y70) a)) l;refine⟨V,e,fun s m=>?_⟩;obtain⟨r,i,_,_,h⟩:=Jr c s l m;have:=e.val s m;rw[i] at this;cases this;exact h
theorem y0a(_:wf l9 b)(j:p7 b=true){q:Int}(X:m0 q 0 (((lV b).length:Int)-1)=true){s:Int}(H:0<=s)(E:s<=1000000):∃r z,F6 (o3 b) q s 0=some r/\F6 (o3 b) q s 1=some z/\r<=z:=by
 obtain⟨W,P⟩:=Wu X;have e:ix q (o3 b).2.2.1.length:=W;have d:(lV b).getD q.toNat (b7 y80)∈lV b:=F0 P;rcases Hn j d with ⟨a,n,h⟩ | ⟨n,k,h⟩
 ·obtain⟨V,o,t⟩:=QR j h.slw h.trs ((z6 b n).getD 0 0);obtain⟨v,Y⟩:=AB h.slw h.trs;obtain⟨f,g⟩:=Ht b h.nlt;generalize hl:(lV b).getD q.toNat (b7 y80)=l at h o v Y f g;have c:(o3 b).2.2.1.getD q.toNat (b7 y80)=l:=hl;have val:∀m,F6 (o3 b) q s m=some (V s m):=fun m=>by
   unfold F6;refine(gP ⟨e,trivial⟩).trans ?_;rw[lE,c,Z0 h.pix h.net,vS,gP ⟨rfl,trivial⟩,lE];refine(if_pos (by rw[h.kind]; rfl)).trans ?_;rw[Ho h,vS,f,o.val,vS];refine(gP ⟨rfl,by decide,v,g,rfl,trivial⟩).trans ?_;rw[lE];have:=t s m;have:min (V s m) 1000000=V s m:=by omega
   rw[this]
  exact⟨_,_,val 0,val 1,o.two s⟩
 ·have G:=Bk j h.nlt;obtain⟨dl,y⟩:=G.delays;have u:=y (u6 b n k).toNat;obtain⟨f,g⟩:=Hu b h.nlt;have Q:=Hj b n;have i:=h.klt;generalize hl:(lV b).getD q.toNat (b7 y80)=l at h;have c:(o3 b).2.2.1.getD q.toNat (b7 y80)=l:=hl;obtain⟨r,z,F,T,w3⟩:=s0Y H E u.1 u.2;have val:∀m r,V7 s ((A7 b n).getD (u6 b n k).toNat 0) m=some r->F6 (o3 b) q s m=some (min r 1000000):=fun m r w=>by
   unfold F6;refine(gP ⟨e,trivial⟩).trans ?_;rw[lE,c,Z0 h.pix h.net,vS,gP ⟨rfl,trivial⟩,lE];refine(if_neg (by rw[h.kind]; decide)).trans ?_;rw[f,h.idx];have x:((k:Int)).toNat=k:=rfl;rw[x,Hi i,w,vS];refine(gP ⟨g,oo,rfl,trivial⟩).trans ?_;rw[lE]
  exact⟨_,_,val 0 r F,val 1 z T,by omega⟩
end
theorem s0X{xs:List Int}(x:Int)(h:F7 xs=true):∃p:Nat,p<xs.length/\((A3 xs x=xs.getD p 0/\O6 xs x=some ([((p:Int),1)],1)) ∨
  (p+1<xs.length/\xs.getD p 0<A3 xs x/\A3 xs x<xs.getD (p+1) 0/\O6 xs x=some ([((p:Int),xs.getD (p+1) 0-A3 xs x),((p:Int)+1,A3 xs x-xs.getD p 0)],(xs.getD (p+1) 0-A3 xs x)+(A3 xs x-xs.getD p 0)))):=by
 obtain⟨u,t⟩:=CA h;have f:((xs.length:Int)-1).toNat=xs.length-1:=by omega
 have n:xs.getD 0 0<=A3 xs x:=by
  have:xs.getD 0 0<=xs.getD (xs.length-1) 0:=by
   by_cases v:xs.length=1
   ·grind
   ·have:=CF h (by omega:0<xs.length-1) (by omega); omega
  unfold A3; omega
 have m:A3 xs x<=xs.getD (xs.length-1) 0:=by unfold A3; omega
 obtain⟨p,a,e,c⟩:=w0B h n m;by_cases g:xs.getD p 0=A3 xs x
 ·refine⟨p,a,.inl ⟨g.symm,?_⟩⟩;unfold O6;rw[gP ⟨oo,oo,oo,trivial⟩,f];change lt (A3 xs x) _=_;rw[lE,MR (by omega) a e c,gP ⟨rfl,trivial⟩,vS,lE,if_pos (by simpa using g)]
 ·have d:A3 xs x<xs.getD p 0:=by have:=c p (Nat.le_refl _) a; omega
  have j:0<p:=by
   apply Nat.pos_of_ne_zero;intro k; subst k; omega
  obtain⟨q,rfl⟩:∃q,p=q+1:=⟨p-1,by omega⟩;have b:=e q (by omega);have r:=MP h a;have s:=MP h (by omega:q<xs.length);have i:(((q+1:Nat):Int))-1=(q:Int):=by omega
  have o:(((q+1:Nat):Int)).toNat=q+1:=rfl;have l:((q:Int)).toNat=q:=rfl;refine⟨q,by omega,.inr ⟨a,b,d,?_⟩⟩;unfold O6;rw[gP ⟨oo,oo,oo,trivial⟩,f];change lt (A3 xs x) _=_;rw[lE,MR (by omega) a e c,gP ⟨rfl,trivial⟩,vS,lE,if_neg (by grind)];simp only[i,o,l];refine(gP ⟨oo,oo,oo,oo,oo,oo,oo,oo,oo,oo,trivial⟩).trans ?_;rw[lE]
  grind
theorem v0z{t:s8}(X:C3 t=true)(hp:∀i,i<t.2.2.length->0<=t.2.2.getD i 0)(Y:∀r q,r+1<t.1.length->q<t.2.1.length->J0 t r q<=J0 t (r+1) q)(l:Int){V:Int->Int->Int}(hV:MV t l V){s o m:Int}(hm:m=0∨m=1)(hs:s<=o):V s m<=V o m:=by
 have u:F7 t.1=true/\F7 t.2.1=true:=by
  simp only[C3,ba] at X;exact⟨X.1.1.1,X.1.1.2⟩
 obtain⟨q,c,d,M,hq,hM,h3,h4⟩:=Hs l u.2;have v:0<=c/\0<=d/\1<=c+d/\c+d<=100000/\(d≠0->q+1<t.2.1.length):=by
  rcases hM with ⟨rfl,rfl,_⟩ | ⟨_,_,_,_,_⟩ <;> omega
 have Q:∀r,0<=p8 t r q 1 c d:=fun r=>QO hp (by decide) v.1 v.2.1;have aB:∀r,r+1<t.1.length->p8 t r q 1 c d<=p8 t (r+1) q 1 c d:=fun r hr=>by
  unfold p8;rw[Int.mul_one,Int.mul_one,Int.mul_one,Int.mul_one];have x1:=Int.mul_le_mul_of_nonneg_right (Y r q hr hq) v.1;have x2:J0 t r (q+1)*d<=J0 t (r+1) (q+1)*d:=by
   by_cases hz:d=0
   ·rw[hz,Int.mul_zero,Int.mul_zero]; exact Int.le_refl _
   ·exact Int.mul_le_mul_of_nonneg_right (Y r (q+1) hr (v.2.2.2.2 hz)) v.2.1
  omega
 have aD:∀k r,r+k<t.1.length->p8 t r q 1 c d<=p8 t (r+k) q 1 c d:=by
  intro k
  induction k with
  | zero=>intro r _; exact Int.le_refl _
  | succ k ih =>
    intro r hr;have:=ih r (by omega);have:=aB (r+k) (by omega);rw[show r+(k+1)=r+k+1 by omega];omega
 have f:∀i j,i<=j->j<t.1.length->p8 t i q 1 c d<=p8 t j q 1 c d:=fun i j g P=>by
  have:=aD (j-i) i (by omega);rw[show i+(j-i)=j by omega] at this;exact this
 have z:∀{s:Int} {p:Nat},p<t.1.length->O6 t.1 s=some ([((p:Int),1)],1)->V s m=u0 (p8 t p q 1 c d) (c+d) m:=fun {s p} E h2=>by
  have h1:=QQ X hp (a:=1) (b:=0) E (.inl ⟨rfl,rfl,rfl⟩) h2 hq hM h4 m;rw[hV.val] at h1;rw[Option.some.inj h1,if_pos rfl,Int.add_zero,Int.add_zero,Int.one_mul]
 have H:∀{s:Int} {p:Nat} {a b:Int},p+1<t.1.length->0<a->0<b->a+b<=100000->O6 t.1 s=some ([((p:Int),a),((p:Int)+1,b)],a+b)->V s m=u0 (a*p8 t p q 1 c d+b*p8 t (p+1) q 1 c d) ((a+b)*(c+d)) m:=fun {s p a b} E ha hb aF h2=>by
  have h1:=QQ X hp (a:=a) (b:=b) (show p<t.1.length by omega) (.inr ⟨E,ha,hb,aF,rfl⟩) h2 hq hM h4 m;rw[hV.val] at h1;rw[Option.some.inj h1,if_neg (by omega),MU t p q a,MU t (p+1) q b]
 have j5:∀{a b:Int},1<=a+b->0 < (a+b)*(c+d):=fun h=>Int.mul_pos (by omega) (by omega);have w:∀{a b:Int} (p:Nat),0<=a->0<=b->0<=a*p8 t p q 1 c d+b*p8 t (p+1) q 1 c d:=fun p ha hb=>by
  have:=Int.mul_nonneg ha (Q p);have:=Int.mul_nonneg hb (Q (p+1));omega
 -- below a line, above a line
 have up:∀{a b:Int} (p i:Nat),0<a->0<b->p+1<=i->i<t.1.length->u0 (a*p8 t p q 1 c d+b*p8 t (p+1) q 1 c d) ((a+b)*(c+d)) m<=u0 (p8 t i q 1 c d) (c+d) m:=fun {a b} p i ha hb y hi=>by
  refine Jt (w p (by omega) (by omega)) (j5 (by omega)) (Q i) (by omega) ?_ hm;have x1:=Int.mul_le_mul_of_nonneg_left (f p i (by omega) hi) (show 0<=a by omega);have x2:=Int.mul_le_mul_of_nonneg_left (f (p+1) i y hi) (show 0<=b by omega);have x3:a*p8 t p q 1 c d+b*p8 t (p+1) q 1 c d<=(a+b)*p8 t i q 1 c d:=by rw[Int.add_mul]; omega
  have:=Int.mul_le_mul_of_nonneg_right x3 (show 0<=c+d by omega);rw[<- Int.mul_assoc,Int.mul_comm (p8 t i q 1 c d)];exact this
 have dn:∀{a b:Int} (p i:Nat),0<a->0<b->i<=p->p+1<t.1.length->u0 (p8 t i q 1 c d) (c+d) m<=u0 (a*p8 t p q 1 c d+b*p8 t (p+1) q 1 c d) ((a+b)*(c+d)) m:=fun {a b} p i ha hb y hi=>by
  refine Jt (Q i) (by omega) (w p (by omega) (by omega)) (j5 (by omega)) ?_ hm;have x1:=Int.mul_le_mul_of_nonneg_left (f i p y (by omega)) (show 0<=a by omega);have x2:=Int.mul_le_mul_of_nonneg_left (f i (p+1) (by omega) hi) (show 0<=b by omega);have x3:(a+b)*p8 t i q 1 c d<=a*p8 t p q 1 c d+b*p8 t (p+1) q 1 c d:=by rw[Int.add_mul]; omega
  have:=Int.mul_le_mul_of_nonneg_right x3 (show 0<=c+d by omega);rw[<- Int.mul_assoc,Int.mul_comm (p8 t i q 1 c d)];exact this
 have aC:∀i j,i<=j->j<t.1.length->u0 (p8 t i q 1 c d) (c+d) m<=u0 (p8 t j q 1 c d) (c+d) m:=fun i j g P=>Jt (Q i) (by omega) (Q j) (by omega) (Int.mul_le_mul_of_nonneg_right (f i j g P) (show 0<=c+d by omega)) hm
 have hx:A3 t.1 s<=A3 t.1 o:=by unfold A3; omega
 have aA:=fun {i j:Nat} (g:i<j) (P:j<t.1.length)=>CF u.1 g P;have F:∀{i j:Nat},i<=j->j<t.1.length->t.1.getD i 0<=t.1.getD j 0:=fun {i j} g P=>by
  rcases Nat.eq_or_lt_of_le g with e | e
  ·rw[e]; exact Int.le_refl _
  ·have:=aA e P; omega
 obtain⟨p,p1,p2⟩:=s0X s u.1;obtain⟨n,x,W⟩:=s0X o u.1;have T:=fun {i:Nat} (hi:i<t.1.length)=>MP u.1 hi;rcases p2 with ⟨e1,w1⟩ | ⟨b1,b2,b3,w1⟩
 ·rw[z p1 w1];rcases W with ⟨e2,G⟩ | ⟨c1,c2,c3,G⟩
  ·rw[z x G];refine aC p n ?_ x;rcases Nat.lt_or_ge n p with h | h
   ·have:=aA h p1; omega
   ·exact h
  ·have:=T (show n<t.1.length by omega);have:=T c1;rw[H c1 (by omega) (by omega) (by omega) G];refine dn n p (by omega) (by omega) ?_ c1;rcases Nat.lt_or_ge n p with h | h
   ·have:=F (show n+1<=p by omega) p1; omega
   ·exact h
 ·have:=T (show p<t.1.length by omega);have:=T b1;rw[H b1 (by omega) (by omega) (by omega) w1];rcases W with ⟨e2,G⟩ | ⟨c1,c2,c3,G⟩
  ·rw[z x G];refine up p n (by omega) (by omega) ?_ x;rcases Nat.lt_or_ge p n with h | h
   ·exact h
   ·have:=F h (show p<t.1.length by omega); omega
  ·have:=T (show n<t.1.length by omega);have:=T c1;rw[H c1 (by omega) (by omega) (by omega) G];rcases Nat.lt_trichotomy p n with h | h | h
   ·refine Int.le_trans (up p (p+1) (by omega) (by omega) (Nat.le_refl _) b1) ?_;exact dn n (p+1) (by omega) (by omega) (by omega) c1
   ·subst h;refine Jt (w p (by omega) (by omega)) (j5 (by omega)) (w p (by omega) (by omega)) (j5 (by omega)) ?_ hm;have e1:(t.1.getD (p+1) 0-A3 t.1 s)+(A3 t.1 s-t.1.getD p 0)=(t.1.getD (p+1) 0-A3 t.1 o)+(A3 t.1 o-t.1.getD p 0):=by omega
    rw[e1];refine Int.mul_le_mul_of_nonneg_right ?_ (by have:=j5 (a:=t.1.getD (p+1) 0-A3 t.1 o) (b:=A3 t.1 o-t.1.getD p 0) (by omega); omega);obtain⟨k,hk⟩:∃k,A3 t.1 o=A3 t.1 s+k:=⟨A3 t.1 o-A3 t.1 s,by omega⟩;have x1:=Int.mul_le_mul_of_nonneg_left (aB p b1) (show 0<=k by omega);have x2:(t.1.getD (p+1) 0-A3 t.1 o)*p8 t p q 1 c d=(t.1.getD (p+1) 0-A3 t.1 s)*p8 t p q 1 c d-k*p8 t p q 1 c d:=by rw[<- Int.sub_mul]; congr 1; omega
    have x3:(A3 t.1 o-t.1.getD p 0)*p8 t (p+1) q 1 c d=(A3 t.1 s-t.1.getD p 0)*p8 t (p+1) q 1 c d+k*p8 t (p+1) q 1 c d:=by rw[<- Int.add_mul]; congr 1; omega
    omega
   ·have:=F (show n+1<=p by omega) (show p<t.1.length by omega); omega
theorem Wk{a b:Int}(e:0<=a)(d:0<=b)(h:a*a<b*b):a<b:=by
 rcases Int.lt_or_le a b with c | c
 ·exact c
 ·have:=Int.mul_le_mul c c d (by omega);omega
theorem t0a{n R:Int}(h:Bn n R):n<=(500*N8 n 1 R)*(500*N8 n 1 R):=by
 obtain⟨c,g,f⟩:=h;have b:∀v,R<500*v∨(R<=500*v/\R*R=n)->n<=(500*v)*(500*v):=fun v a=>by
  rcases a with a | ⟨a,e⟩
  ·have:=Int.mul_le_mul (show R+1<=500*v by omega) (show R+1<=500*v by omega) (by omega) (by omega);omega
  ·have:=Int.mul_le_mul a a c (by omega);omega
 refine b _ ?_;unfold N8;split
 ·grind
 ·rename_i d;simp only[beq_self_eq_true,Bool.true_and,dq] at d;rw[Bo c (by decide)];omega
theorem s0Z{n R w:Int}(h:Bn n R)(g:0<=w)(f:n<=(500*w)*(500*w)):N8 n 1 R<=w:=by
 obtain⟨b,i,d⟩:=h;unfold N8;split
 ·rename_i a;simp only[beq_self_eq_true,Bool.true_and,dq] at a;have:=Wk b (show 0<=500*w by omega) (by omega)
  grind
 ·rename_i a;simp only[beq_self_eq_true,Bool.true_and,dq] at a;have e:R<=500*w:=by
   rcases Int.lt_or_le (500*w) R with c | c
   ·have:=Int.mul_lt_mul' (show 500*w<=R by omega) c (by omega) (by omega);omega
   ·exact c
  grind[Bo]
theorem k0H{n R:Int}(a:0<=R):0<=N8 n 1 R:=by
 grind[N8,Int.tdiv_eq_ediv_of_nonneg,Bo]
theorem n0Z{n b R R' m:Int}(h:Bn n R)(a:Bn b R')(e:n<=b)(c:m=0∨m=1):N8 n m R<=N8 b m R':=by
 rcases c with rfl | rfl
 ·have d:R<=R':=by
   have:=Wk h.1 (show 0<=R'+1 by have:=a.1; omega) (by have:=h.2.1; have:=a.2.2; omega);omega
  unfold N8;rw[if_neg (by simp),if_neg (by simp),Dz h.1 (by decide),Dz a.1 (by decide)];omega
 ·exact s0Z h (k0H a.1) (by have:=t0a a; omega)
theorem r0v{s c d m:Int}(b:0<=s)(g:s<=c)(j:c<=1000000)(k:0<=d)(G:d<=301000000)(o:m=0∨m=1):∃r z,V7 s d m=some r/\V7 c d m=some z/\r<=z:=by
 have a:∀s,0<=s->s<=1000000->∃R,Bn (250000*(s*s)+d*d) R/\V7 s d m=some (N8 (250000*(s*s)+d*d) m R):=fun s b j=>by
  obtain⟨t,H,Q⟩:=QK s d;have g:=J8 (A:=1000000) (B:=1000000) (x:=s) (y:=s) (by omega) (by omega) (by omega) (by omega) (by decide);have F:=J8 (A:=301000000) (B:=301000000) (x:=d) (y:=d) (by omega) (by omega) (by omega) (by omega) (by decide);have q:0<=s*s:=Int.mul_nonneg b b;have E:0<=d*d:=Int.mul_nonneg k k;obtain⟨R,f,w,v⟩:=Wm (n:=250000*(s*s)+d*d) (by omega) (by omega);have h:=f.1;have l:=J8 (A:=3000000000) (B:=3000000000) (x:=R) (y:=R) (by omega) (by omega) (by omega) (by omega) (by decide);refine⟨R,f,?_⟩;unfold V7;rw[t,v,vS,gP ⟨oo,oo,oo,oo,oo,trivial⟩,gP ⟨rfl,trivial⟩,lE,gP ⟨(fun _=>oo),trivial⟩];unfold N8;split
  ·have:R.tdiv 500=R / 500:=Int.tdiv_eq_ediv_of_nonneg h;exact gP ⟨by decide,oo,trivial⟩
  ·rw[(U8 R 500 m (by omega) (by omega) (by decide)).1,vS,gP ⟨rfl,trivial⟩,lE]
 obtain⟨R,f,e⟩:=a s b (by omega);obtain⟨P,i,u⟩:=a c (by omega) j;refine⟨_,_,e,u,n0Z f i ?_ o⟩;have:=Int.mul_le_mul g g b (by omega);omega
variable {b:j7}
theorem I0M(u:p7 b=true){c:p5}(r:G8 c=true){q:Int}(H:m0 q 0 (((lV b).length:Int)-1)=true) :
  ∃d:Int->Int->Int,(∀s m,L8 (o3 b) c q s m=some (d s m))/\∀s,d s 0<=d s 1:=by
 obtain⟨x1,Y⟩:=Wu H;have i:(lV b).getD q.toNat (b7 y80)∈lV b:=F0 Y;have t:=fun k=>DB r k 0;have e:∀k,B9 c k 0<=B9 c k 1:=fun k=>by
  have h:=r;unfold G8 at h;simp only[ba,dq] at h;unfold B9;have e0:((0:Int)==0)=true:=rfl;have X:((1:Int)==0)=false:=rfl;rw[e0,X];split <;> simp only[if_true,Bool.false_eq_true,if_false] <;> omega
 rcases Hn u i with ⟨a,n,h⟩ | ⟨n,k,h⟩
 ·obtain⟨t1,P⟩:=AB h.del h.trs;obtain⟨v,E,_⟩:=Ds P;obtain⟨V,o,G⟩:=QR u h.del h.trs ((z6 b n).getD 0 0);have g:=fun s m=>q0U u H h o G r s m;generalize hlk:(lV b).getD q.toNat (b7 y80)=l at h o g t1 P v E;refine⟨fun s m=>u0 (V s m*B9 c l.2.2.1 m) 1000 m,g,fun s=>?_⟩;refine Ww (Int.mul_nonneg (o.pos _ _) (t _).1) ?_;exact Int.le_trans (Int.mul_le_mul_of_nonneg_right (o.two s) (t _).1) (v0n (o.pos _ _) (e _))
 ·have W:=Bk u h.nlt;obtain⟨dl,T⟩:=W.delays;have g:=T (u6 b n k).toNat;obtain⟨v,E⟩:=Hu b h.nlt;have aA:=Hj b n;have w:=h.klt;have Q:((k:Int)).toNat=k:=rfl;have hv:=fun m=>FD (a:=(A7 b n).getD (u6 b n k).toNat 0) (b:=1000) (K:=301000) m (by decide) (by omega) (by omega);have f:=fun m=>Js (a:=(A7 b n).getD (u6 b n k).toNat 0) (b:=1000) m (by omega) (by decide);generalize hlk:(lV b).getD q.toNat (b7 y80)=l at h;have F:(o3 b).2.2.1.getD q.toNat (b7 y80)=l:=hlk;have j:∀s m,L8 (o3 b) c q s m=some (u0 (u0 ((A7 b n).getD (u6 b n k).toNat 0) 1000 m*B9 c l.2.2.1 m) 1000 m):=fun s m=>by
   have p0:=f m;have p1:=hv m;have hf:=DB r l.2.2.1 m;have hp:=J8 (A:=1000000) (B:=5000) (x:=u0 ((A7 b n).getD (u6 b n k).toNat 0) 1000 m) (y:=B9 c l.2.2.1 m) (by omega) (by omega) (by omega) (by omega) (by decide);have g:=U8 (u0 ((A7 b n).getD (u6 b n k).toNat 0) 1000 m*B9 c l.2.2.1 m) 1000 m (by omega) (by omega) (by decide);have z:Av (u0 ((A7 b n).getD (u6 b n k).toNat 0) 1000 m) (B9 c l.2.2.1 m) m=some (u0 (u0 ((A7 b n).getD (u6 b n k).toNat 0) 1000 m*B9 c l.2.2.1 m) 1000 m):=by
    unfold Av;rw[g.1,vS,gP ⟨oo,rfl,trivial⟩,lE]
   unfold L8;refine(gP ⟨x1,trivial⟩).trans ?_;rw[lE,F,Z0 h.pix h.net,vS,gP ⟨rfl,trivial⟩,lE];refine(if_neg (by rw[h.kind]; decide)).trans ?_;rw[v,h.idx,Q,Hi w,(U8 _ 1000 m (by omega) (by omega) (by decide)).1,vS];refine(gP ⟨E,oo,rfl,trivial⟩).trans ?_;rw[lE];show Aw c l m _=_;rw[Aw,MT,vS,z,vS,gP ⟨rfl,rfl,trivial⟩,lE]
  refine⟨fun s m=>u0 (u0 ((A7 b n).getD (u6 b n k).toNat 0) 1000 m*B9 c l.2.2.1 m) 1000 m,j,fun s=>?_⟩;refine Ww (Int.mul_nonneg (f 0) (t _).1) ?_;exact Int.le_trans (Int.mul_le_mul_of_nonneg_right (Ww g.1 (Int.le_refl _)) (t _).1) (v0n (f 1) (e _))
theorem y0b{b:j7}(T:wf l9 b)(w:p7 b=true){q:Int}(u:m0 q 0 (((lV b).length:Int)-1)=true){s m:Int}(P:0<=s)(G:s<=1000000)(E:m=0∨m=1){r:Int}(i:F6 (o3 b) q s m=some r):0<=r:=by
 have u:=y9.1 u;have e:ix q (o3 b).2.2.1.length:=⟨u.1,by show q < ((lV b).length:Int); omega⟩;generalize hl:(lV b).getD q.toNat (b7 y80)=l;have f:(o3 b).2.2.1.getD q.toNat (b7 y80)=l:=hl;have d:l∈lV b:=by rw[<- hl]; exact F0 (by omega)
 rcases Hn w d with ⟨a,n,h⟩ | ⟨n,k,h⟩
 ·obtain⟨v,y⟩:=AB h.slw h.trs;obtain⟨g,x,X,Y,V⟩:=Jr y s ((z6 b n).getD 0 0) m;obtain⟨j,t⟩:=Ht b h.nlt;have o:(l.2.1.tmod 2).toNat<a.2.2.2.2.2.length:=by have:=v.1; have:=v.2; omega
  have hp:=q0A y (QN h.slw (F0 o)) s ((z6 b n).getD 0 0) m g x;have c:F6 (o3 b) q s m=some (min g 1000000):=by
   unfold F6;refine(gP ⟨e,trivial⟩).trans ?_;rw[lE,f,Z0 h.pix h.net,vS,gP ⟨rfl,trivial⟩,lE];refine(if_pos (by rw[h.kind]; rfl)).trans ?_;rw[Ho h,vS,j,x,vS];refine(gP ⟨rfl,by decide,v,t,rfl,trivial⟩).trans ?_;rw[lE]
  rw[c] at i;cases i;omega
 ·obtain⟨g,H,w2,W⟩:=H0T T w h.nlt h.klt P G E;obtain⟨j,t⟩:=Hu b h.nlt;have Q:=Hj b n;have F:=h.klt;have c:F6 (o3 b) q s m=some (min g 1000000):=by
   unfold F6;refine(gP ⟨e,trivial⟩).trans ?_;rw[lE,f,Z0 h.pix h.net,vS,gP ⟨rfl,trivial⟩,lE];refine(if_neg (by rw[h.kind]; decide)).trans ?_;rw[j,h.idx];have z:((k:Int)).toNat=k:=rfl;rw[z,H,vS];refine(gP ⟨t,oo,rfl,trivial⟩).trans ?_;rw[lE]
  rw[c] at i;cases i;omega
section
variable {b:j7}
end
end Go.Proofs.YtdjgagoledoaaaaGreatDoor
end
section
namespace Go.Proofs.Xd
open Go.Proofs.Xl
theorem q0L{b:Type}{l:List b}{p q:b->Bool}(h:∀a∈l,p a=q a):l.find? p=l.find? q:=by
 induction l with
 | nil=>rfl
 | cons a r c =>
   grind
theorem n0z{b:Type}(l:List b)(p q r:b->Bool)(h:∀a∈l,(p a).toNat=(q a).toNat+(r a).toNat):l.countP p=l.countP q+l.countP r:=by
 induction l with
 | nil=>rfl
 | cons a t c =>
   grind
theorem s0t{b:Type}(l:List b)(p q:b->Bool)(h:∀a∈l,p a=q a):l.countP p=l.countP q:=by
 induction l with
 | nil=>rfl
 | cons a t c =>
   grind
section
variable (M N:Nat) (fr to:Nat->Nat) (lv:Nat->Bool)
def W7(out:List Nat)(v:Nat):Nat:=(List.range M).countP fun i=>lv i&&to i==v&&!out.contains (fr i)
def Hv(o:List Int)(i:Nat):List Int:=o.set (to i) (o.getD (to i) 0-1)
def FE(o:List Int)(i:Nat):List Int:=o.set (to i) (o.getD (to i) 0+1)
def Ju:List Int:=((List.range M).filter lv).foldl (FE to) (List.replicate N 0)
def MW(o:List Int)(v:Nat):List Int:=((List.range M).filter fun i=>lv i&&fr i==v).foldl (Hv to) (o.set v (-1))
def CG(out:List Nat):List Int:=out.foldl (MW M fr to lv) (Ju M N to lv)
def M6(out:List Nat):Option Nat:=(List.range N).find? fun v=>!out.contains v&&W7 M fr to lv out v==0
def AD:Nat->List Nat->Option (List Nat)
 | 0,out=>some out
 | k+1,out=>match M6 M N fr to lv out with
   | none=>none
   | some v=>AD k (out++[v])
theorem m0J(a:List Nat)(v:Nat):CG M N fr to lv (a++[v])=MW M fr to lv (CG M N fr to lv a) v:=by
 grind[CG]
theorem MX{o:List Int}{i v:Nat}(x:Int)(hi:i<o.length):(o.set i x).getD v 0=if v=i then x else o.getD v 0:=by
 grind
theorem E0y(a:List Nat)(o:List Int)(h:∀i∈a,to i<o.length)(v:Nat):(a.foldl (Hv to) o).length=o.length/\(a.foldl (Hv to) o).getD v 0=o.getD v 0-(a.countP fun i=>to i==v):=by
 induction a generalizing o with
 | nil=>simp
 | cons i r b =>
   grind[Hv,MX]
theorem E0e(a:List Nat)(o:List Int)(h:∀i∈a,to i<o.length)(v:Nat):(a.foldl (FE to) o).length=o.length/\(a.foldl (FE to) o).getD v 0=o.getD v 0+(a.countP fun i=>to i==v):=by
 induction a generalizing o with
 | nil=>simp
 | cons i r b =>
   grind[FE,MX]
variable {M N fr to lv}
theorem k0z(p:Nat->Bool):(List.range M).countP p<=M:=by
 grind[List.countP_le_length,List.range,List.length_range]
theorem u0X(d:∀i,i<M->to i<N)(v:Nat):(Ju M N to lv).length=N/\(Ju M N to lv).getD v 0=W7 M fr to lv [] v:=by
 have a:∀i∈(List.range M).filter lv,to i < (List.replicate N (0:Int)).length:=fun i hi=>by
  grind
 obtain⟨e,b⟩:=E0e to ((List.range M).filter lv) (List.replicate N 0) a v;refine⟨by grind[Ju,List.length_replicate],?_⟩;rw[Ju,b,List.countP_filter];have c:(List.replicate N (0:Int)).getD v 0=0:=by
  rw[gq,List.getElem?_replicate];split <;> rfl
 rw[c,Int.zero_add];congr 1;refine s0t _ _ _ (fun i _=>?_)
 grind
structure MY(M N:Nat)(fr to:Nat->Nat)(lv:Nat->Bool)(out:List Nat)(o:List Int):Prop where
 len:o.length=N
 un:∀v,v<N->v ∉ out->o.getD v 0=W7 M fr to lv out v
 li:∀v,v<N->v∈out->o.getD v 0<0
 lo:∀v,v<N -> -(1+(out.length:Int)*M)<=o.getD v 0
 hi:∀v,v<N->o.getD v 0<=M
theorem z0L{a:List Nat}{v:Nat}(b:v ∉ a)(w:Nat):W7 M fr to lv a w=((List.range M).countP fun i=>to i==w&&(lv i&&fr i==v))+W7 M fr to lv (a++[v]) w:=by
 unfold W7;refine n0z _ _ _ _ (fun i _=>?_)
 grind
theorem B0N(b:∀i,i<M->to i<N):MY M N fr to lv [] (Ju M N to lv):=by
 have h:=fun v=>u0X (fr:=fr) (lv:=lv) b v;refine⟨(h 0).1,fun v _ _=>(h v).2,fun v _ a=>(nomatch a),fun v _=>?_,fun v _=>?_⟩
 ·grind
 grind[W7,k0z]
theorem v0a(l:∀i,i<M->to i<N){a:List Nat}{o:List Int}(h:MY M N fr to lv a o){v:Nat}(s:v<N)(m:v ∉ a):MY M N fr to lv (a++[v]) (MW M fr to lv o v):=by
 have k:(o.set v (-1)).length=N:=by rw[List.length_set,h.len]
 have g:=fun w=>E0y to ((List.range M).filter fun i=>lv i&&fr i==v) (o.set v (-1)) (fun i hi=>by
  rw[List.mem_filter,List.mem_range] at hi;rw[k];exact l i hi.1) w
 have d:∀w,(MW M fr to lv o v).getD w 0=(if w=v then -1 else o.getD w 0)-((List.range M).countP fun i=>to i==w&&(lv i&&fr i==v)):=fun w=>by
  grind[MW,MX,List.countP_filter]
 have j:∀w,(((List.range M).countP fun i=>to i==w&&(lv i&&fr i==v):Nat):Int)<=M:=fun w=>by
  have:=k0z (M:=M) (fun i=>to i==w&&(lv i&&fr i==v));omega
 have c:((a++[v]).length:Int)*M=(a.length:Int)*M+M:=by
  rw[List.length_append,List.length_singleton,Int.natCast_add,Int.add_mul];simp
 have r:(0:Int)<=(a.length:Int)*M:=Int.mul_nonneg (Int.natCast_nonneg _) (Int.natCast_nonneg _);refine⟨(g 0).1.trans k,fun w b f=>?_,fun w b f=>?_,fun w b=>?_,fun w b=>?_⟩
 ·rw[d,if_neg (fun e=>f (by simp[e])),h.un w b (fun e=>f (by simp[e])),z0L m w];omega
 ·rw[d];by_cases e:w=v
  ·omega
  ·rw[if_neg e];have:=h.li w b (by
    grind)
   omega
 ·rw[d,c];have q:=j w;have n:=h.lo w b;omega
 ·rw[d];have q:=j w;have n:=h.hi w b;omega
theorem v0b{a:List Nat}{o:List Int}(h:MY M N fr to lv a o):(List.range o.length).find? (fun v=>(0:Int)==o.getD v 0)=M6 M N fr to lv a:=by
 unfold M6;rw[h.len];refine q0L (fun v c=>?_);have c:=List.mem_range.1 c;by_cases b:v∈a
 ·have e:=h.li v c b;have d:a.contains v=true:=List.contains_iff_mem.2 b;have f:((0:Int)==o.getD v 0)=false:=beq_eq_false_iff_ne.2 (by omega);rw[d,f]; rfl
 ·have e:=h.un v c b;have d:a.contains v=false:=by rw[<- Bool.not_eq_true,List.contains_iff_mem]; exact b
  rw[e,d,Bool.not_false,Bool.true_and,Bool.eq_iff_iff];simp only[beq_iff_eq];omega
theorem MZ{a:List Nat}{v:Nat}(h:M6 M N fr to lv a=some v):v<N/\v ∉ a:=by
 grind[M6]
def O0(N:Nat)(out:List Nat):List Bool:=out.foldl (fun l v=>l.set v true) (List.replicate N false)
theorem Jv{o:List Bool}{i v:Nat}(x:Bool)(hi:i<o.length):(o.set i x).getD v false=if v=i then x else o.getD v false:=by
 grind
theorem m0Y(a:List Nat)(v:Nat):O0 N (a++[v])=(O0 N a).set v true:=by
 grind[O0]
theorem u0w(a:List Nat)(o:List Bool)(h:∀v∈a,v<o.length)(w:Nat):(a.foldl (fun l v=>l.set v true) o).length=o.length/\(a.foldl (fun l v=>l.set v true) o).getD w false=(a.contains w||o.getD w false):=by
 induction a generalizing o with
 | nil=>simp
 | cons v r b =>
   grind
theorem Na{a:List Nat}(h:∀v∈a,v<N)(w:Nat):(O0 N a).length=N/\(O0 N a).getD w false=a.contains w:=by
 obtain⟨b,d⟩:=u0w a (List.replicate N false) (fun v c=>by grind) w
 grind[List.replicate,O0]
def FF(fr to:Nat->Nat)(lv:Nat->Bool)(out:List Nat)(k:Nat)(w:List Bool):List Bool:=if(lv k&&!out.contains (fr k))=true then w.set (to k) true else w
theorem p0m(c:∀i,i<M->to i<N)(a:List Nat)(v:Nat):∀m,m<=M->(fN (FF fr to lv a) m (List.replicate N false)).length=N/\(fN (FF fr to lv a) m (List.replicate N false)).getD v false=(List.range m).any fun i=>lv i&&to i==v&&!a.contains (fr i):=by
 intro m
 induction m with
 | zero =>
   intro _;refine⟨List.length_replicate,?_⟩;show(List.replicate N false).getD v false=false
   grind
 | succ m b =>
   grind[FF,fN,List.replicate]
theorem t0g(c:∀i,i<M->to i<N){a:List Nat}(b:∀v∈a,v<N):(List.range N).find? (fun v=>!((O0 N a).getD v false||(fN (FF fr to lv a) M (List.replicate N false)).getD v false))=M6 M N fr to lv a:=by
 unfold M6;refine q0L (fun v _=>?_);rw[(Na b v).2,(p0m c a v M (Nat.le_refl _)).2,Bool.not_or]
 grind[W7]
end
inductive Rch(M:Nat)(fr to:Nat->Nat)(lv:Nat->Bool)(s:Nat):Nat->Prop
 | refl:Rch M fr to lv s s
 | step {i:Nat}:Rch M fr to lv s (fr i)->i<M->lv i=true->Rch M fr to lv s (to i)
theorem Rch.trans{M:Nat}{fr to:Nat->Nat}{lv:Nat->Bool}{a b c:Nat}(h:Rch M fr to lv a b)(k:Rch M fr to lv b c):Rch M fr to lv a c:=by
 induction k with
 | refl=>exact h
 | step _ hi e d=>exact d.step hi e
theorem Rch.one{M:Nat}{fr to:Nat->Nat}{lv:Nat->Bool}{i:Nat}(hi:i<M)(a:lv i=true):Rch M fr to lv (fr i) (to i):=Rch.refl.step hi a
theorem Rch.head{M:Nat}{fr to:Nat->Nat}{lv:Nat->Bool}{i c:Nat}(hi:i<M)(a:lv i=true)(k:Rch M fr to lv (to i) c):Rch M fr to lv (fr i) c:=(Rch.one hi a).trans k
theorem Rch.back{M:Nat}{fr to:Nat->Nat}{lv:Nat->Bool}{a b:Nat}(h:Rch M fr to lv a b):Rch M to fr lv b a:=by
 induction h with
 | refl=>exact .refl
 | step _ hi d c=>grind[Rch.head]
theorem Rch.lt{M N:Nat}{fr to:Nat->Nat}{lv:Nat->Bool}(d:∀i,i<M->to i<N){a b:Nat}(h:Rch M fr to lv a b)(c:a<N):b<N:=by
 cases h with
 | refl=>exact c
 | step _ hi _=>grind
section
variable (M N:Nat) (fr to:Nat->Nat) (lv:Nat->Bool)
def RB(s:Nat)(L:List Bool):Prop:=L.length=N/\∀v,v<N->(L.getD v false=true↔Rch M fr to lv s v)
theorem RB.uniq{M N:Nat}{fr to:Nat->Nat}{lv:Nat->Bool}{s:Nat}{L K:List Bool}(h:RB M N fr to lv s L)(k:RB M N fr to lv s K):L=K :=
 Jw false (h.1.trans k.1.symm) fun i hi=>by
  have a:i<N:=by rw[<- h.1]; exact hi
  rw[Bool.eq_iff_iff,h.2 i a,k.2 i a]
structure RI(s:Nat)(r:List Bool):Prop where
 len:r.length=N
 src:r.getD s false=true
 snd:∀v,r.getD v false=true->Rch M fr to lv s v
theorem RI.done{M N:Nat}{fr to:Nat->Nat}{lv:Nat->Bool}{s:Nat}{r:List Bool}(h:RI M N fr to lv s r)(d:∀i,i<M->lv i=true->r.getD (fr i) false=true->r.getD (to i) false=true):RB M N fr to lv s r :=
 ⟨h.len,fun v b=>⟨h.snd v,fun a=>by
   clear b
   induction a with
   | refl=>exact h.src
   | step _ hi e c=>grind⟩⟩
def C6(r:List Bool):Nat:=r.countP id
theorem q0W{r:List Bool}{i:Nat}(hi:i<r.length)(h:r.getD i false=false):C6 (r.set i true)=C6 r+1:=by
 grind[List.getD_cons_zero,C6]
theorem Wx(r:List Bool):C6 r<=r.length:=List.countP_le_length
def F8(k:Nat)(s:List Bool×Bool):List Bool×Bool:=if(lv k&&s.1.getD (fr k) false&&!s.1.getD (to k) false)=true then(s.1.set (to k) true,true) else s
theorem D0n(g:∀i,i<M->to i<N){s:Nat}{r:List Bool}(h:RI M N fr to lv s r):∀m,m<=M->RI M N fr to lv s (fN (F8 fr to lv) m (r,false)).1 /\
  ((fN (F8 fr to lv) m (r,false)).2=false->(fN (F8 fr to lv) m (r,false)).1=r/\∀i,i<m->lv i=true->r.getD (fr i) false=true->r.getD (to i) false=true) /\
  ((fN (F8 fr to lv) m (r,false)).2=true->C6 r<C6 (fN (F8 fr to lv) m (r,false)).1)/\C6 r<=C6 (fN (F8 fr to lv) m (r,false)).1:=by
 intro m
 induction m with
 | zero=>intro _; exact⟨h,fun _=>⟨rfl,fun i hi=>by omega⟩,(fun h=>by cases h),Nat.le_refl _⟩
 | succ m k =>
   intro o;obtain⟨b,i2,i3,i4⟩:=k (by omega);show RI M N fr to lv s (F8 fr to lv m (fN (F8 fr to lv) m (r,false))).1/\((F8 fr to lv m (fN (F8 fr to lv) m (r,false))).2=false->(F8 fr to lv m (fN (F8 fr to lv) m (r,false))).1=r/\_)/\((F8 fr to lv m (fN (F8 fr to lv) m (r,false))).2=true->_<C6 (F8 fr to lv m (fN (F8 fr to lv) m (r,false))).1)/\_<=C6 (F8 fr to lv m (fN (F8 fr to lv) m (r,false))).1;generalize fN (F8 fr to lv) m (r,false)=q at b i2 i3 i4 ⊢;unfold F8;split
   ·rename_i d;simp only[ba,Bool.not_eq_true'] at d;obtain⟨⟨f,l⟩,n⟩:=d;have a:to m<q.1.length:=by rw[b.len]; exact g m (by omega)
    have j:=q0W a n;refine⟨⟨by rw[List.length_set,b.len],?_,fun v c=>?_⟩,(fun h=>by cases h),fun _=>by show C6 r<C6 (q.1.set (to m) true); omega,by show C6 r<=C6 (q.1.set (to m) true); omega⟩
    ·show(q.1.set (to m) true).getD s false=true;rw[Jv true a];split
     ·rfl
     ·exact b.src
    ·rw[Jv true a] at c;split at c
     ·rename_i e;subst e;exact(b.snd _ l).step (by omega) f
     ·exact b.snd v c
   grind
theorem p0K{ρ:Type}(k:∀i,i<M->to i<N)(r:N<=1000000){s:Nat}(m:s<N){F:(List Bool×Bool->Option ρ)->List Bool×Bool->Option ρ}{J:List Bool->Option ρ}
  (o:∀g (q:List Bool×Bool),q.1.length=N->F g q=if q.2=true then g (fN (F8 fr to lv) M (q.1,false)) else J q.1):∃L,RB M N fr to lv s L/\lp F ((List.replicate N false).set s true,true)=J L:=by
 have j:RI M N fr to lv s ((List.replicate N false).set s true):=by
  have f:s < (List.replicate N false).length:=by rw[List.length_replicate]; exact m
  refine⟨by rw[List.length_set,List.length_replicate],by rw[Jv true f,if_pos rfl],fun v d=>?_⟩;rw[Jv true f] at d;split at d
  ·rename_i e; subst e; exact .refl
  ·grind
 obtain⟨q,⟨_,a⟩,b,t⟩:=Wj (J:=fun q:List Bool×Bool=>J q.1) (fun q=>2*(N-C6 q.1)+q.2.toNat) (fun q=>RI M N fr to lv s q.1/\(q.2=false->RB M N fr to lv s q.1)) (fun q=>q.2) (fun q=>fN (F8 fr to lv) M (q.1,false))
  (fun g q a=>o g q a.1.len) (fun q a b=>by
    obtain⟨c,i2,i3,i4⟩:=D0n M N fr to lv k a.1 M (Nat.le_refl _);refine⟨⟨c,fun h=>?_⟩,?_⟩
    ·obtain⟨e,l⟩:=i2 h;rw[e];exact a.1.done l
    ·have n:=Wx (fN (F8 fr to lv) M (q.1,false)).1;rw[c.len] at n;show 2*(N-C6 (fN (F8 fr to lv) M (q.1,false)).1)+(fN (F8 fr to lv) M (q.1,false)).2.toNat<2*(N-C6 q.1)+q.2.toNat;rw[b];cases h:(fN (F8 fr to lv) M (q.1,false)).2 with
     | true=>grind
     | false=>grind) (((List.replicate N false).set s true),true) ⟨j,fun h=>by cases h⟩ (by grind)
 grind
def R0C(r:List Bool):Nat:=(List.range M).countP fun i=>lv i&&!r.getD (fr i) false
structure QI(s:Nat)(q:List Int×List Bool):Prop where
 len:q.2.length=N
 mem:∀x∈q.1,0<=x/\x.toNat<N/\Rch M fr to lv s x.toNat
 snd:∀v,q.2.getD v false=true->Rch M fr to lv s v
 src:q.2.getD s false=true∨(s:Int)∈q.1
 cls:∀i,i<M->lv i=true->q.2.getD (fr i) false=true->q.2.getD (to i) false=true∨(to i:Int)∈q.1
 cnt:q.1.length+R0C M fr lv q.2<=M+1
theorem B0G(b:∀i,i<M->to i<N)(c:N<=1000000){s:Nat}(a:s<N):∃L,RB M N fr to lv s L:=by
 obtain⟨L,h,_⟩:=p0K (ρ:=Unit) M N fr to lv b c a (F:=fun g q=>if q.2=true then g (fN (F8 fr to lv) M (q.1,false)) else none) (J:=fun _=>none) (fun _ _ _=>rfl)
 grind
end
abbrev Sp:=Int×Int
abbrev q9:=Sp×Sp
def K3(a b:Sp):Sp:=(min a.1 b.1,max a.2 b.2)
def M7(a b:Sp):Sp:=(a.1+b.1,a.2+b.2)
def BQ(o:Option q9)(x:q9):Option q9:=match o with
 | none=>some x
 | some y=>some (K3 y.1 x.1,K3 y.2 x.2)
section
variable (M:Nat) (fr to:Nat->Nat) (lv:Nat->Bool) (sp:Nat->Sp->Sp×Sp) (src:Nat->Option q9)
def Bp(T:Nat->Option q9)(v k:Nat)(o:Option q9):Option q9:=if(lv k&&to k==v)=true then(match T (fr k) with
 | none=>o
 | some x=>BQ o (M7 x.1 (sp k x.2).1,(sp k x.2).2)) else o
def Z1(T:Nat->Option q9)(v:Nat):Option q9:=fN (Bp fr to lv sp T v) M (src v)
def H2(T:Nat->Option q9)(v:Nat)(x:Option q9):Nat->Option q9:=fun w=>if w=v then x else T w
variable (ok:q9->Bool)
def DC(x:Option q9):Bool:=match x with
 | none=>true
 | some y=>ok y
def BR:List Nat->(Nat->Option q9)->Option (Nat->Option q9)
 | [],T=>some T
 | v :: r,T=>if DC ok (Z1 M fr to lv sp src T v)=true then BR r (H2 T v (Z1 M fr to lv sp src T v)) else none
end
theorem n0o{a:Type}{f g:Nat->a->a}:∀(n:Nat) (s:a),(∀i s,i<n->f i s=g i s)->fN f n s=fN g n s
 | 0,_,_=>rfl
 | n+1,s,h=>by
   show f n (fN f n s)=g n (fN g n s);rw[n0o n s (fun i s hi=>h i s (by omega)),h n _ (by omega)]
theorem n0n{b a:Type}{f:Nat->b->b}{g:Nat->a->a}(R:b->a->Prop):∀(n:Nat) (s:b) (t:a),R s t->(∀i s t,i<n->R s t->R (f i s) (g i t))->R (fN f n s) (fN g n t)
 | 0,_,_,h,_=>h
 | n+1,s,t,h,hs=>hs n _ _ (by omega) (n0n R n s t h fun i s t hi=>hs i s t (by omega))
theorem Wy{a:Type}{f:Nat->a->a}(I:a->Prop):∀(n:Nat) (s:a),I s->(∀i s,i<n->I s->I (f i s))->I (fN f n s)
 | 0,_,h,_=>h
 | n+1,s,h,hs=>hs n _ (by omega) (Wy I n s h fun i s hi=>hs i s (by omega))
section
variable {M:Nat} {fr to:Nat->Nat} {lv:Nat->Bool} {sp:Nat->Sp->Sp×Sp} {src:Nat->Option q9} {ok:q9->Bool}
theorem o0x{T T':Nat->Option q9}{v:Nat}(h:∀k,k<M->lv k=true->to k=v->T (fr k)=T' (fr k)):Z1 M fr to lv sp src T v=Z1 M fr to lv sp src T' v:=by
 unfold Z1;refine n0o M _ fun k s a=>?_
 grind[Bp]
def Nb(M:Nat)(fr to:Nat->Nat)(lv:Nat->Bool):List Nat->List Nat->Prop
 | _,[]=>True
 | d,v :: r=>(∀k,k<M->lv k=true->to k=v->fr k∈d)/\Nb M fr to lv (d++[v]) r
theorem u0J{v:Nat}{r:List Nat}{T:Nat->Option q9}:BR M fr to lv sp src ok (v :: r) T=if DC ok (Z1 M fr to lv sp src T v)=true then BR M fr to lv sp src ok r (H2 T v (Z1 M fr to lv sp src T v)) else none:=rfl
theorem m0N(P:q9->Prop)(h:∀v x,src v=some x->P x)(i:∀x y,P x->P y->P (K3 x.1 y.1,K3 x.2 y.2))(g:∀k x,k<M->lv k=true->P x->P (M7 x.1 (sp k x.2).1,(sp k x.2).2)){T:Nat->Option q9}(f:∀v x,T v=some x->P x)(v:Nat):∀x,Z1 M fr to lv sp src T v=some x->P x:=by
 unfold Z1;refine Wy (fun o:Option q9=>∀x,o=some x->P x) M _ (h v) fun k o b d=>?_;unfold Bp;split
 ·rename_i c;simp only[ba,beq_iff_eq] at c;cases e:T (fr k) with
  | none=>exact d
  | some y =>
    intro x a;cases o with
    | none =>
      have a:some (M7 y.1 (sp k y.2).1,(sp k y.2).2)=some x:=a;cases a;exact g k y b c.1 (f _ _ e)
    | some z =>
      have a:some (K3 z.1 (M7 y.1 (sp k y.2).1),K3 z.2 (sp k y.2).2)=some x:=a;cases a;exact i z (M7 y.1 (sp k y.2).1,(sp k y.2).2) (d z rfl) (g k y b c.1 (f _ _ e))
 omega
def S6(a b:Sp):Prop:=b.1<=a.1/\a.2<=b.2
def insO(x y:Option q9):Prop:=∀a,x=some a->∃c,y=some c/\S6 a.1 c.1/\S6 a.2 c.2
theorem insO.refl(x:Option q9):insO x x:=fun a h=>⟨a,h,⟨Int.le_refl _,Int.le_refl _⟩,⟨Int.le_refl _,Int.le_refl _⟩⟩
theorem insO.none(y:Option q9):insO none y:=fun _ h=>by cases h
theorem v0C{x y:Option q9}{a c:q9}(h:insO x y)(d:S6 a.1 c.1)(b:S6 a.2 c.2):insO (BQ x a) (BQ y c):=by
 intro z hz;cases x with
 | none =>
   have hz:some a=some z:=hz;cases hz;cases y with
   | none=>exact⟨c,rfl,d,b⟩
   | some y =>
     refine⟨_,rfl,?_,?_⟩
     ·show min y.1.1 c.1.1<=a.1.1/\a.1.2<=max y.1.2 c.1.2;have:=d.1; have:=d.2; omega
     ·show min y.2.1 c.2.1<=a.2.1/\a.2.2<=max y.2.2 c.2.2;have:=b.1; have:=b.2; omega
 | some x =>
   obtain⟨f,e,g,i⟩:=h x rfl;subst e;have hz:some (K3 x.1 a.1,K3 x.2 a.2)=some z:=hz;cases hz;refine⟨_,rfl,?_,?_⟩
   ·show min f.1.1 c.1.1<=min x.1.1 a.1.1/\max x.1.2 a.1.2<=max f.1.2 c.1.2;have:=d.1; have:=d.2; have:=g.1; have:=g.2; omega
   ·show min f.2.1 c.2.1<=min x.2.1 a.2.1/\max x.2.2 a.2.2<=max f.2.2 c.2.2;have:=b.1; have:=b.2; have:=i.1; have:=i.2; omega
theorem s0l{x y:Option q9}{c:q9}(h:insO x y):insO x (BQ y c):=by
 intro z hz;obtain⟨a,e,b,d⟩:=h z hz;subst e;refine⟨_,rfl,?_,?_⟩
 ·show min a.1.1 c.1.1<=z.1.1/\z.1.2<=max a.1.2 c.1.2;have:=b.1; have:=b.2; omega
 ·show min a.2.1 c.2.1<=z.2.1/\z.2.2<=max a.2.2 c.2.2;have:=d.1; have:=d.2; omega
theorem v0g{src':Nat->Option q9}(a:Sp->Prop)(i:∀k s s',k<M->lv k=true->a s->a s'->S6 s s'->S6 (sp k s).1 (sp k s').1/\S6 (sp k s).2 (sp k s').2){T T':Nat->Option q9}(j:∀v,insO (src v) (src' v))(n:∀v,insO (T v) (T' v))(l:∀v x,T v=some x->a x.2)(m:∀v x,T' v=some x->a x.2)(v:Nat):insO (Z1 M fr to lv sp src T v) (Z1 M fr to lv sp src' T' v):=by
 unfold Z1;refine n0n insO M _ _ (j v) fun k s t h e=>?_;unfold Bp;split
 ·rename_i c;simp only[ba,beq_iff_eq] at c;cases e1:T (fr k) with
  | none =>
    grind[s0l]
  | some x =>
    obtain⟨y,b,d,i2⟩:=n (fr k) x e1;rw[b];obtain⟨f,g⟩:=i k x.2 y.2 h c.1 (l _ _ e1) (m _ _ b) i2;refine v0C e ?_ g;show y.1.1+(sp k y.2).1.1<=x.1.1+(sp k x.2).1.1/\x.1.2+(sp k x.2).1.2<=y.1.2+(sp k y.2).1.2;have:=d.1; have:=d.2; have:=f.1; have:=f.2;omega
 omega
theorem y0c{T T':Nat->Option q9}{x y:Option q9}(a:∀v,insO (T v) (T' v))(h:insO x y)(v:Nat):∀w,insO (H2 T v x w) (H2 T' v y w):=fun w=>by
 grind[H2]
theorem p0X{src':Nat->Option q9}(a:Sp->Prop)(P:q9->Prop)(g:∀x,P x->a x.2)(n:∀k s s',k<M->lv k=true->a s->a s'->S6 s s'->S6 (sp k s).1 (sp k s').1/\S6 (sp k s).2 (sp k s').2)
  (o:∀v,insO (src v) (src' v)) (c:∀x y,P x->P y->ok y=true->S6 x.1 y.1->ok x=true)
  (f:∀v x,src v=some x->P x) (d:∀v x,src' v=some x->P x) (i:∀x y,P x->P y->P (K3 x.1 y.1,K3 x.2 y.2)) (l:∀k x,k<M->lv k=true->P x->P (M7 x.1 (sp k x.2).1,(sp k x.2).2)) :
  ∀(r:List Nat) (T T' R:Nat->Option q9),(∀v,insO (T v) (T' v))->(∀v x,T v=some x->P x)->(∀v x,T' v=some x->P x)->BR M fr to lv sp src' ok r T'=some R->∃Q,BR M fr to lv sp src ok r T=some Q/\∀v,insO (Q v) (R v)
 | [],T,T',R,hT,_,_,h=>by cases h; exact⟨T,rfl,hT⟩
 | u :: r,T,T',R,hT,p1,p2,h=>by
   unfold BR at h ⊢;split at h
   ·rename_i m;have hi:=v0g (fr:=fr) (to:=to) (src:=src) (src':=src') a n o hT (fun v x b=>g x (p1 v x b)) (fun v x b=>g x (p2 v x b)) u;have t:=m0N (fr:=fr) (to:=to) (src:=src) P f i l p1 u;have w:=m0N (fr:=fr) (to:=to) (src:=src') P d i l p2 u;have j:DC ok (Z1 M fr to lv sp src T u)=true:=by
     cases e:Z1 M fr to lv sp src T u with
     | none=>rfl
     | some x =>
       obtain⟨y,q,z,_⟩:=hi x e;rw[q] at m;exact c x y (t x e) (w y q) m z
    rw[if_pos j];refine p0X a P g n o c f d i l r _ _ R (y0c hT hi u) (fun v x b=>?_) (fun v x b=>?_) h
    ·unfold H2 at b;split at b
     ·grind
     grind
    ·unfold H2 at b;split at b
     ·grind
     grind
   grind
end
end Go.Proofs.Xd
end
section
namespace Go.Proofs.YtdjgagoledoaaaaGreatDoor
open Go Go.Proofs Go.Proofs.Sv Go.Proofs.Xv Go.Proofs.Xl Go.Proofs.Xd
structure SpanV(b:j7)(c:p5)(q:Int)(dv lv:Int->Int->Int):Prop where
 del:∀s m,L8 (o3 b) c q s m=some (dv s m)
 d0:∀s m,0<=dv s m/\dv s m<=5000000
 d2:∀s,dv s 0<=dv s 1
 slw:∀s m,0<=s->s<=1000000->m=0∨m=1->F6 (o3 b) q s m=some (lv s m)/\0<=lv s m/\lv s m<=1000000
 l2:∀s,0<=s->s<=1000000->lv s 0<=lv s 1
section
variable {b:j7}
theorem H0G(t:wf l9 b)(_:cnt l9 b<=1048576)(a:p7 b=true){c:p5}(_:wf r5 c)(k:G8 c=true){q:Int}(f:m0 q 0 (((lV b).length:Int)-1)=true):∃dv lv,SpanV b c q dv lv:=by
 obtain⟨B,o⟩:=E0x a f;obtain⟨d,n,j⟩:=I0M a k f;have e:∀s m,d s m=u0 (B s m*B9 c ((lV b).getD q.toNat (b7 y80)).2.2.1 m) 1000 m:=fun s m=>by
  have u:=n s m;rw[o.val c k] at u
  grind
 refine⟨d,fun s m=>vl (F6 (o3 b) q s m),⟨n,fun s m=>?_,j,fun s m g i h=>?_,fun s g i=>?_⟩⟩
 ·rw[e];have E:=o.bd s m;have F:=DB k ((lV b).getD q.toNat (b7 y80)).2.2.1 m;have v:=Int.mul_nonneg E.1 F.1;have u:=J8 (A:=1000000) (B:=5000) (x:=B s m) (y:=B9 c ((lV b).getD q.toNat (b7 y80)).2.2.1 m) (by omega) (by omega) (by omega) (by omega) (by decide);exact⟨Js m v (by decide),(FD (K:=5000000) m (by decide) (by omega) (by omega)).2⟩
 ·obtain⟨r,l,_,z⟩:=MS t a f g i h;have w:=y0b t a f g i h l;show _=some (vl (F6 (o3 b) q s m))/\0<=vl (F6 (o3 b) q s m)/\vl (F6 (o3 b) q s m)<=1000000;rw[l];exact⟨rfl,w,z⟩
 grind[y0a,vl,F6,o3]
def AE(dv lv:Int->Int->Int)(sp:Sp):Sp×Sp:=((min (dv sp.1 0) (dv sp.2 0),max (dv sp.1 1) (dv sp.2 1)),min (lv sp.1 0) (lv sp.2 0),max (lv sp.1 1) (lv sp.2 1))
theorem SpanV.spans{c:p5}{q:Int}{a lv:Int->Int->Int}(h:SpanV b c q a lv)(j:m0 q 0 (((lV b).length:Int)-1)=true){sp:Sp}(d:B4 sp=true):Dj (o3 b) c q sp=some (AE a lv sp):=by
 unfold B4 at d;rw[ba,ba] at d;have f:=y9.1 d.1.2;have e:=y9.1 d.2;have i:=y9.1 j;have g:ix q (o3 b).2.2.1.length:=⟨i.1,by show q < ((lV b).length:Int); omega⟩;unfold Dj;rw[h.del,h.del,h.del,h.del];refine(gP ⟨rfl,rfl,rfl,rfl,trivial⟩).trans ?_;rw[lE];refine(gP ⟨g,trivial⟩).trans ?_;rw[lE];refine(if_neg ?_).trans ?_
 ·show ¬(decide ((0:Int)<0)&&_)=true;simp
 ·show GM (o3 b) q sp (min (a sp.1 0) (a sp.2 0),max (a sp.1 1) (a sp.2 1))=_;rw[GM,(h.slw sp.1 0 f.1 f.2 (.inl rfl)).1,(h.slw sp.2 0 e.1 e.2 (.inl rfl)).1,(h.slw sp.1 1 f.1 f.2 (.inr rfl)).1,(h.slw sp.2 1 e.1 e.2 (.inr rfl)).1];rfl
theorem SpanV.ok{c:p5}{q:Int}{d lv:Int->Int->Int}(h:SpanV b c q d lv){sp:Sp}(e:B4 sp=true):0<=(AE d lv sp).1.1/\(AE d lv sp).1.1<=(AE d lv sp).1.2/\(AE d lv sp).1.2<=5000000/\B4 (AE d lv sp).2=true:=by
 unfold B4 at e;rw[ba,ba] at e;have a:=y9.1 e.1.2;have f:=y9.1 e.2;have i:=h.d0 sp.1 0;have k:=h.d0 sp.2 0;have j:=h.d0 sp.1 1;have l:=h.d0 sp.2 1;have g:=h.d2 sp.1;have m:=(h.slw sp.1 0 a.1 a.2 (.inl rfl)).2;have n:=(h.slw sp.2 0 f.1 f.2 (.inl rfl)).2;have r:=(h.slw sp.1 1 a.1 a.2 (.inr rfl)).2;have s:=(h.slw sp.2 1 f.1 f.2 (.inr rfl)).2;have o:=h.l2 sp.1 a.1 a.2;unfold AE;refine⟨by grind,by grind,by grind,?_⟩;unfold B4 D0;simp only[ba,dq]
 grind[y9]
def U9(t:s8):Prop:=∀r q,r+1<t.1.length->q<t.2.1.length->J0 t r q<=J0 t (r+1) q
def Jx(b:j7):Prop:=∀ce∈b.1,∀ar∈ce.2.2.2.1,(∀t∈ar.2.2.2.2.1,U9 t)/\∀t∈ar.2.2.2.2.2,U9 t
theorem z0P{l:w6}{a:D8}{n:Nat}(i:Jx b)(h:MQ b l a n):(∀t∈a.2.2.2.2.1,U9 t)/\∀t∈a.2.2.2.2.2,U9 t:=by
 have g:=h.cix;have f:=h.aix;have e:(m5 b.2.1 (s9 b.2.1 (l.2.1.tdiv 2).toNat).1.toNat).2.1.toNat<b.1.length:=by have:=g.1; have:=g.2; omega
 have c:l.2.2.2.toNat < (b.1.getD (m5 b.2.1 (s9 b.2.1 (l.2.1.tdiv 2).toNat).1.toNat).2.1.toNat (b7 y64)).2.2.2.1.length:=by have:=f.1; have:=f.2; omega
 have:=i _ (F0 (d:=b7 y64) e) _ (F0 (d:=b7 y67) c);rw[h.arc] at this;omega
theorem v0A{T:List s8}(e:C0 T true=true)(g:∀t∈T,U9 t){x:Int}(n:x=0∨x=1)(l:Int){s c m:Int}(h:m=0∨m=1)(i:s<=c){V:Int->Int->Int}(k:MV (T.getD x.toNat (b7 y70)) l V):V s m<=V c m:=by
 obtain⟨f,j⟩:=AB e n;have b:x.toNat<T.length:=by have:=f.1; have:=f.2; omega
 have a:=F0 (d:=b7 y70) b;exact v0z j (QN e a) (g _ a) l k h i
theorem SpanV.mono(_:wf l9 b)(G:p7 b=true)(hM:Jx b){c:p5}(Q:G8 c=true){q:Int}(hq:m0 q 0 (((lV b).length:Int)-1)=true){E lv:Int->Int->Int}(h:SpanV b c q E lv):(∀s s' m,s<=s'->m=0∨m=1->E s m<=E s' m)/\∀s s' m,0<=s->s<=s'->s'<=1000000->m=0∨m=1->lv s m<=lv s' m:=by
 obtain⟨x1,x2⟩:=Wu hq;have v:ix q (o3 b).2.2.1.length:=x1;have t:(lV b).getD q.toNat (b7 y80)∈lV b:=F0 x2;rcases Hn G t with ⟨a,n,e⟩ | ⟨n,k,e⟩
 ·obtain⟨m1,m2⟩:=z0P hM e;obtain⟨V,hV,aG⟩:=QR G e.del e.trs ((z6 b n).getD 0 0);obtain⟨W,hW,P⟩:=QR G e.slw e.trs ((z6 b n).getD 0 0);have ed:∀s m,E s m=u0 (V s m*B9 c ((lV b).getD q.toNat (b7 y80)).2.2.1 m) 1000 m:=fun s m=>by
   have h1:=h.del s m
   grind[q0U,Option.some.inj]
  refine⟨fun s s' m i f=>?_,fun s s' m H i F f=>?_⟩
  ·rw[ed,ed];refine w0d m (Int.mul_nonneg (hV.pos _ _) (DB Q _ _).1) ?_;exact Int.mul_le_mul_of_nonneg_right (v0A e.del m1 e.trs _ f i hV) (DB Q _ _).1
  ·have X:=v0A e.slw m2 e.trs _ f i hW;obtain⟨t1,t2⟩:=AB e.slw e.trs;obtain⟨j,u⟩:=Ht b e.nlt;have aA:=(h.slw s m H (by omega) f).1;have T:=(h.slw s' m (by omega) F f).1;generalize hll:(lV b).getD q.toNat (b7 y80)=l at e hV hW t1 t2 j u X;have g:(o3 b).2.2.1.getD q.toNat (b7 y80)=l:=hll;have val:∀s,F6 (o3 b) q s m=some (W s m):=fun s=>by
    unfold F6;refine(gP ⟨v,trivial⟩).trans ?_;rw[lE,g,Z0 e.pix e.net,vS,gP ⟨rfl,trivial⟩,lE];refine(if_pos (by rw[e.kind]; rfl)).trans ?_;rw[Ho e,vS,j,hW.val,vS];refine(gP ⟨rfl,by decide,t1,u,rfl,trivial⟩).trans ?_;rw[lE];have:=P s m;have:min (W s m) 1000000=W s m:=by omega
    rw[this]
   grind
 ·have no:=Bk G e.nlt;obtain⟨dl,db⟩:=no.delays;have hd:=db (u6 b n k).toNat;obtain⟨j,u⟩:=Hu b e.nlt;have aF:=Hj b n;have o:=e.klt;have e4:((k:Int)).toNat=k:=rfl;generalize hll:(lV b).getD q.toNat (b7 y80)=l at e;have g:(o3 b).2.2.1.getD q.toNat (b7 y80)=l:=hll;refine⟨fun s s' m i f=>?_,fun s s' m H i F f=>?_⟩
  ·have h1:=h.del s m;have h2:=h.del s' m;have hv:=FD (a:=(A7 b n).getD (u6 b n k).toNat 0) (b:=1000) (K:=301000) m (by decide) (by omega) (by omega);have aD:=Js (a:=(A7 b n).getD (u6 b n k).toNat 0) (b:=1000) m (by omega) (by decide);have aC:∀s,L8 (o3 b) c q s m=some (u0 (u0 ((A7 b n).getD (u6 b n k).toNat 0) 1000 m*B9 c l.2.2.1 m) 1000 m):=fun s=>by
    have hf:=DB Q l.2.2.1 m;have hp:=J8 (A:=1000000) (B:=5000) (x:=u0 ((A7 b n).getD (u6 b n k).toNat 0) 1000 m) (y:=B9 c l.2.2.1 m) (by omega) (by omega) (by omega) (by omega) (by decide);have aB:=U8 (u0 ((A7 b n).getD (u6 b n k).toNat 0) 1000 m*B9 c l.2.2.1 m) 1000 m (by omega) (by omega) (by decide);have Y:Av (u0 ((A7 b n).getD (u6 b n k).toNat 0) 1000 m) (B9 c l.2.2.1 m) m=some (u0 (u0 ((A7 b n).getD (u6 b n k).toNat 0) 1000 m*B9 c l.2.2.1 m) 1000 m):=by
     unfold Av;rw[aB.1,vS,gP ⟨oo,rfl,trivial⟩,lE]
    unfold L8;refine(gP ⟨x1,trivial⟩).trans ?_;rw[lE,g,Z0 e.pix e.net,vS,gP ⟨rfl,trivial⟩,lE];refine(if_neg (by rw[e.kind]; decide)).trans ?_;rw[j,e.idx,e4,Hi o,(U8 _ 1000 m (by omega) (by omega) (by decide)).1,vS];refine(gP ⟨u,oo,rfl,trivial⟩).trans ?_;rw[lE];show Aw c l m _=_;rw[Aw,MT,vS,Y,vS,gP ⟨rfl,rfl,trivial⟩,lE]
   grind
  ·obtain⟨r,z,w1,w2,w3⟩:=r0v (d:=(A7 b n).getD (u6 b n k).toNat 0) (m:=m) H i F hd.1 hd.2 f;have val:∀s r,V7 s ((A7 b n).getD (u6 b n k).toNat 0) m=some r->F6 (o3 b) q s m=some (min r 1000000):=fun s r w=>by
    unfold F6;refine(gP ⟨v,trivial⟩).trans ?_;rw[lE,g,Z0 e.pix e.net,vS,gP ⟨rfl,trivial⟩,lE];refine(if_neg (by rw[e.kind]; decide)).trans ?_;rw[j,e.idx];rw[e4,Hi o,w,vS];refine(gP ⟨u,oo,rfl,trivial⟩).trans ?_;rw[lE]
   have aA:=(h.slw s m H (by omega) f).1;have T:=(h.slw s' m (by omega) F f).1
   grind
theorem SpanV.ins{b lv:Int->Int->Int}(i:∀s a m,s<=a->m=0∨m=1->b s m<=b a m)(g:∀s a m,0<=s->s<=a->a<=1000000->m=0∨m=1->lv s m<=lv a m){s a:Sp}(f:B4 s=true)(j:B4 a=true)(hi:S6 s a):S6 (AE b lv s).1 (AE b lv a).1/\S6 (AE b lv s).2 (AE b lv a).2:=by
 have e:∀{s:Sp},B4 s=true->0<=s.1/\s.1<=s.2/\s.2<=1000000:=fun {s} f=>by
  unfold B4 D0 at f;simp only[ba,dq] at f
  grind[y9]
 obtain⟨k,h,l⟩:=e f;obtain⟨o,q,n⟩:=e j;have d:=hi.1;have c:=hi.2;have z:=i a.1 s.1 0 d (.inl rfl);have x:=i s.1 s.2 0 h (.inl rfl);have w:=i s.2 a.2 1 c (.inr rfl);have r:=i s.1 s.2 1 h (.inr rfl);have y:=g a.1 s.1 0 o d (by omega) (.inl rfl);have u:=g s.1 s.2 0 k h l (.inl rfl);have t:=g s.2 a.2 1 (by omega) c n (.inr rfl);have v:=g s.1 s.2 1 k h l (.inr rfl)
 grind[S6,AE]
end
end Go.Proofs.YtdjgagoledoaaaaGreatDoor
end
section
namespace Go.Proofs.Xd
open Go.Proofs.Xl
abbrev Hw:=List Bool×List Sp×List Sp
def w5(N:Nat)(T:Nat->Option q9):Hw:=((List.range N).map fun v=>(T v).isSome,(List.range N).map fun v=>((T v).getD ((0,0),(0,0))).1,(List.range N).map fun v=>((T v).getD ((0,0),(0,0))).2)
def BS(t:Hw):Nat->Option q9:=fun v=>if t.1.getD v false=true then some (t.2.1.getD v (0,0),t.2.2.getD v (0,0)) else none
theorem CH{a:Type}(f:Nat->a)(N:Nat)(d:a){v:Nat}(h:v<N):((List.range N).map f).getD v d=f v:=by
 rw[gq,List.getElem?_map,List.getElem?_range h];rfl
theorem D0R{b:Type}(f g:Nat->b)(N v:Nat)(h:∀w,w<N->w≠v->f w=g w):((List.range N).map f).set v (g v)=(List.range N).map g:=by
 refine List.ext_getElem? fun i=>?_;rw[List.getElem?_set,List.getElem?_map,List.getElem?_map,List.length_map,List.length_range];by_cases hi:i<N
 ·rw[List.getElem?_range hi];by_cases e:v=i
  ·subst e;rw[if_pos rfl,if_pos hi];rfl
  ·rw[if_neg e];show some (f i)=some (g i);rw[h i hi (fun a=>e a.symm)]
 ·rw[List.getElem?_eq_none (by rw[List.length_range]; omega)];by_cases e:v=i
  ·rw[if_pos e,if_neg (by omega)]; rfl
  ·rw[if_neg e]; rfl
theorem w0g{N:Nat}{T:Nat->Option q9}{v:Nat}(h:v<N):BS (w5 N T) v=T v:=by
 unfold BS w5;simp only;rw[CH _ N _ h,CH _ N _ h,CH _ N _ h];cases T v <;> rfl
theorem z0D{N:Nat}{T:Nat->Option q9}{v:Nat}(h:T v=none):w5 N (H2 T v none)=w5 N T:=by
 have:H2 T v none=T:=by
  funext w;unfold H2;split
  ·rename_i e; rw[e,h]
  ·rfl
 rw[this]
theorem FG{N:Nat}{T:Nat->Option q9}:(w5 N T).1.length=N/\(w5 N T).2.1.length=N/\(w5 N T).2.2.length=N:=by
 unfold w5;simp
section
variable (M:Nat) (fr to:Nat->Nat) (lv:Nat->Bool) (sp:Nat->Sp->Sp×Sp) (src:Nat->Option q9) (T:Nat->Option q9) (md:Int)
end
section
variable {M:Nat} {fr to:Nat->Nat} {lv:Nat->Bool} {sp:Nat->Sp->Sp×Sp} {src:Nat->Option q9} {T:Nat->Option q9} {md:Int}
end
abbrev O1:=Int×Sp×Sp
def DD(l:List O1):Prop:=l.Pairwise fun x y=>x.1<y.1
def L3(l:List O1)(v:Nat):Option q9:=(l.find? fun s=>s.1==(v:Int)).map fun s=>s.2
theorem QS{l:List O1}(h:DD l){s:O1}(d:s∈l){v:Nat}(n:s.1=(v:Int)):L3 l v=some s.2:=by
 unfold L3;cases e:l.find? fun s=>s.1==(v:Int) with
 | none =>
   have:=List.find?_eq_none.1 e s d;simp[n] at this
 | some x =>
   have k:=List.find?_some e;have m:=List.mem_of_find?_eq_some e;have k:x.1=(v:Int):=by simpa using k
   obtain⟨i,hi,b⟩:=List.getElem_of_mem m;obtain⟨j,g,a⟩:=List.getElem_of_mem d;have f:=List.pairwise_iff_getElem.1 h;rcases Nat.lt_trichotomy i j with c | c | c
   ·have:=f i j hi g c;rw[b,a] at this;omega
   ·subst c;rw[b] at a;rw[a];rfl
   ·have:=f j i g hi c;rw[b,a] at this;omega
theorem x0T{l:List O1}{v:Nat}(h:∀s∈l,s.1≠(v:Int)):L3 l v=none:=by
 unfold L3;rw[List.find?_eq_none.2 fun s a=>by simpa using h s a];rfl
theorem Nc{l:List O1}{v:Nat}{x:q9}(h:L3 l v=some x):∃s∈l,s.1=(v:Int)/\s.2=x:=by
 unfold L3 at h;cases e:l.find? fun s=>s.1==(v:Int) with
 | none=>rw[e] at h; cases h
 | some s =>
   rw[e] at h;cases h;exact⟨s,List.mem_of_find?_eq_some e,by simpa using List.find?_some e,rfl⟩
def DE(l:List O1)(d:O1)(v:Nat)(i:Nat)(o:Option q9):Option q9:=if((l.getD i d).1==(v:Int))=true then some (l.getD i d).2 else o
theorem x0U{l:List O1}(h:DD l)(d:O1)(v:Nat):fN (DE l d v) l.length none=L3 l v:=by
 have g:∀n,n<=l.length->fN (DE l d v) n none=L3 (l.take n) v:=by
  intro n
  induction n with
  | zero=>intro _; rfl
  | succ n j =>
    intro r;have b:n<l.length:=by omega
    have q:l.getD n d=l[n]:=by rw[gq,List.getElem?_eq_getElem b]; rfl
    have hi:DD (l.take (n+1)):=h.sublist (List.take_sublist _ _);have f:l.take (n+1)=l.take n++[l[n]]:=by rw[List.take_add_one,List.getElem?_eq_getElem b]; rfl
    show DE l d v n (fN (DE l d v) n none)=_;rw[j (by omega)];unfold DE;rw[q];by_cases c:(l[n].1==(v:Int))=true
    ·rw[if_pos c];exact(QS hi (by rw[f]; exact List.mem_append_right _ (List.mem_singleton.2 rfl)) (by simpa using c)).symm
    ·rw[if_neg c];cases e:L3 (l.take n) v with
     | none =>
       refine(x0T fun s a i=>?_).symm;rw[f] at a;rcases List.mem_append.1 a with a | a
       ·have:=QS (h.sublist (List.take_sublist n l)) a i;rw[e] at this;cases this
       ·rw[List.mem_singleton.1 a] at i;exact c (by simpa using i)
     | some x =>
       obtain⟨s,o,k,m⟩:=Nc e;have:=QS hi (by rw[f]; exact List.mem_append_left _ o) k;rw[this,m]
 have:=g l.length (Nat.le_refl _)
 rwa [List.take_of_length_le (Nat.le_refl _)] at this
theorem x0S{l:List O1}(h:DD l)(v:Nat):insO (L3 (l.drop 1) v) (L3 l v):=by
 intro x a;obtain⟨s,c,d,b⟩:=Nc a;have:=QS h (List.mem_of_mem_drop c) d;rw[this,b];exact⟨x,rfl,⟨Int.le_refl _,Int.le_refl _⟩,⟨Int.le_refl _,Int.le_refl _⟩⟩
end Go.Proofs.Xd
end
section
namespace Go.Proofs.YtdjgagoledoaaaaGreatDoor
open Go Go.Proofs Go.Proofs.Sv Go.Proofs.Xv Go.Proofs.Xl Go.Proofs.Xd
theorem k6{ρ:Type}{V:Prop}[Decidable V]{e:Option ρ}{P:ρ->Prop}(a:V)(h:∃r,e=some r/\P r):∃r,gd V e=some r/\P r:=by grind[gP]
theorem K4{a ρ:Type}{F:(a->Option ρ)->a->Option ρ}(b:a->Nat)(I:a->Prop){P:ρ->Prop}(j:∀g s,I s->(∀s',I s'->b s'<b s->∃r,g s'=some r/\P r)->∃r,F g s=some r/\P r){s:a}(c:I s)(i:b s<=18446744073709551616):∃r,lp F s=some r/\P r:=by
 have e:∀n s,I s->b s<n->∃r,I9 F n s=some r/\P r:=by
  intro n
  induction n with
  | zero=>omega
  | succ n f =>
    intro s c h;exact j (I9 F n) s c fun s' d k=>f s' d (by omega)
 exact e U7 s c (by grind[U7])
def Sd(s:l5):Prop:=sd s/\s.1.length<=9223372036854775807/\∀b∈s.1,0<=b/\b<=255
theorem Sd.sd{s:l5}(h:Sd s):YtdjgagoledoaaaaGreatDoor.sd s:=h.1
theorem z8{s:l5}{n:Int}(h:Sd s)(o:n<=9223372036854775807):∃v s',c8 s n=some (v,s')/\Sd s'/\0<=v/\(1<=n->v<n)/\(n<=1->v=0):=by
 obtain⟨⟨f,j,k⟩,d,b⟩:=h;have g:∀x:Int,0<=x->0<=x.tmod 2147483647/\x.tmod 2147483647<2147483647:=fun x a=>⟨Int.tmod_nonneg _ a,Int.tmod_lt_of_pos x (by omega)⟩;unfold c8;by_cases e:n<=1
 ·rw[if_pos (decide_eq_true e)];exact⟨0,_,rfl,⟨⟨f,j,k⟩,d,b⟩,by omega,by omega,fun _=>rfl⟩
 ·rw[if_neg (by grind)];by_cases i:s.2.1 < (s.1.length:Int)
  ·rw[if_pos (decide_eq_true i)];have l:0<=s.1.getD s.2.1.toNat 0/\s.1.getD s.2.1.toNat 0<=255:=by
    have c:s.2.1.toNat<s.1.length:=by omega
    rw[gq,List.getElem?_eq_getElem c];exact b _ (List.getElem_mem c)
   rw[gP ⟨⟨f,i⟩,trivial,trivial⟩,gP ⟨oo,trivial⟩];by_cases m:n<=256
   ·rw[if_pos (decide_eq_true m),gP ⟨by omega,trivial⟩];exact⟨_,_,rfl,⟨⟨by grind,j,k⟩,d,b⟩,Int.tmod_nonneg _ l.1,fun _=>Int.tmod_lt_of_pos _ (by omega),fun h=>(e h).elim⟩
   ·rw[if_neg (by grind),gP ⟨oo,oo,oo,by omega,trivial⟩,lE,gP ⟨by omega,trivial⟩];have a:=g (s.2.2*48271+s.1.getD s.2.1.toNat 0+1) (by omega);exact⟨_,_,rfl,⟨⟨by grind,a.1,a.2⟩,d,b⟩,Int.tmod_nonneg _ a.1,fun _=>Int.tmod_lt_of_pos _ (by omega),fun h=>(e h).elim⟩
  ·rw[if_neg (by grind),gP ⟨oo,oo,by omega,trivial⟩,gP ⟨by omega,by omega,trivial⟩];have a:=g (s.2.2*48271+11) (by omega);exact⟨_,_,rfl,⟨⟨f,a.1,a.2⟩,d,b⟩,Int.tmod_nonneg _ (Int.tdiv_nonneg a.1 (by omega)),fun _=>Int.tmod_lt_of_pos _ (by omega),fun h=>(e h).elim⟩
theorem w0z{s:l5}{n:Int}(h:Sd s)(o:1<=n)(P:n<=1000):∃r,GR s n=some r/\Sd r.2/\1<=r.1.length/\r.1.length<=3:=by
 obtain⟨W,T,z,i,F,l,_⟩:=z8 (n:=n) h (by omega);obtain⟨Q,G,w,j,V,k,_⟩:=z8 (n:=3) i (by omega);have l:=l o;have k:=k (by omega);unfold GR;simp only[z,w,vS,lE,Option.isSome_some];refine k6 ⟨trivial,trivial⟩ (k6 ⟨trivial,oo,trivial⟩ ?_);refine K4 (fun x=>x.2.1.toNat) (fun x=>Sd (x.2.2.1,x.2.2.2.1,x.2.2.2.2.1)/\0<=x.1/\x.1+1001*x.2.1<=5000/\0<=x.2.1/\1<=(x.2.2.2.2.2.length:Int)+x.2.1/\(x.2.2.2.2.2.length:Int)+x.2.1<=3) ?_ ⟨j,by omega,by grind,by grind,by grind,by grind⟩ (by grind);rintro g ⟨x,m,c,y,u,t⟩ ⟨f,i2,i3,i4,i5,i6⟩ q;simp only at f i2 i3 i4 i5 i6;unfold A0c;dsimp only;by_cases E:0<m
 ·obtain⟨v,H,e,d,a,b,_⟩:=z8 (n:=n) f (by omega);have b:=b o;simp only[e,vS,lE,Option.isSome_some];rw[if_pos (decide_eq_true E)];refine k6 ⟨⟨by grind,by grind⟩,trivial⟩ (k6 ⟨oo,trivial,oo,trivial⟩ (k6 ⟨oo,trivial⟩ ?_));exact q _ ⟨d,by omega,by grind,by grind,by grind,by grind⟩ (by grind)
 ·rw[if_neg (by grind)];exact⟨_,rfl,f,by grind,by grind⟩
def Hx(t:s8):Prop:=t.1.length<=3/\t.2.1.length<=3/\t.2.2.length<=9
theorem Qr{s:l5}{base:Int}(h:Sd s)(h1 : -1000<=base)(h2:base<=1000):∃r,Fq s base=some r/\Sd r.2/\Hx r.1:=by
 obtain⟨⟨G,s0⟩,e0,w,a0,X⟩:=w0z (n:=60) h (by omega) (by omega);obtain⟨⟨m,s1⟩,e1,u,a1,W⟩:=w0z (n:=40) w (by omega) (by omega);simp only at w a0 X u a1 W e0 e1;unfold Fq;simp only[e0,e1,vS,lE,Option.isSome_some];refine k6 ⟨trivial,trivial⟩ (k6 ⟨trivial,trivial⟩ ?_);have Y:G.length*m.length<=9:=Nat.mul_le_mul X W;have T:((G.length:Int)*(m.length:Int))=((G.length*m.length:Nat):Int):=by simp
 refine K4 (fun x=>(10-x.1).toNat) (fun x=>Sd x.2.2/\0<=x.1/\x.1<=9/\(x.2.1.length:Int)=x.1/\∀y∈x.2.1,-2000<=y/\y<=2000+40*x.1) ?_ ⟨u,by omega,by omega,by simp,by simp⟩ (by omega);rintro g ⟨i,f,c,aB,aA⟩ ⟨P,i2,i3,i4,i5⟩ ih;simp only at P i2 i3 i4 i5;unfold A0f;dsimp only;refine k6 ⟨oo,trivial⟩ ?_;rw[T];by_cases cm:i < ((G.length*m.length:Nat):Int)
 ·rw[if_pos (decide_eq_true cm)];obtain⟨v,s',e,t,a,b,_⟩:=z8 (n:=10) P (by omega);have b:=b (by omega);simp only[e,vS,lE,Option.isSome_some];refine k6 ⟨trivial,oo,trivial⟩ (k6 ⟨by omega,trivial⟩ ?_);have l:∀j:Nat,-2000<=f.getD j 0/\f.getD j 0<=2000+40*i:=fun j=>by
   rw[gq];cases hj:f[j]? with
   | none=>grind
   | some y=>exact i5 y (List.mem_of_getElem? hj)
  -- the k step
  have k:∀(y:Int) (d:l5),Sd d -> -2000<=y->y<=2040+40*i->∃r,LW i f g (y,d.1,d.2.1,d.2.2)=some r/\Sd r.2/\Hx r.1:=by
   intro y d q y1 y2;unfold LW;dsimp only;refine k6 ⟨⟨by grind,by grind⟩,trivial⟩ (k6 ⟨oo,trivial⟩ ?_);refine ih _ ⟨q,by omega,by omega,by grind,fun z hz=>?_⟩ (by omega);rcases List.mem_append.1 hz with hz | hz
   ·grind
   ·grind
  have F:∀(y:Int) (d:l5),Sd d -> -2000<=y->y<=2040+40*i->∃r,LX i f (m,s1) g (y,d.1,d.2.1,d.2.2)=some r/\Sd r.2/\Hx r.1:=by
   intro y d q y1 y2;unfold LX;dsimp only;obtain⟨v2,Q,H,o,a3,E,_⟩:=z8 (n:=20) q (by omega);have E:=E (by omega);obtain⟨c2,a2,d2⟩:=d;simp only[H,vS,lE,Option.isSome_some];by_cases c3:(m.length:Int)<=i
   ·rw[if_pos (decide_eq_true c3)];have:=l (i-(m.length:Int)).toNat;refine k6 ⟨oo,oo,by omega,trivial,oo,trivial⟩ ?_;exact k _ Q o (by omega) (by omega)
   ·grind
  by_cases V:0<i.tmod (m.length:Int)
  ·rw[if_pos (decide_eq_true V)];obtain⟨v2,Q,H,o,a3,E,_⟩:=z8 (n:=20) t (by omega);have E:=E (by omega);simp only[H,vS,Option.isSome_some];have aC:i≠0:=fun h=>by subst h; simp at V
   have:=l (i-1).toNat;refine k6 ⟨oo,oo,by omega,trivial,oo,trivial⟩ ?_;exact F _ Q o (by omega) (by omega)
  ·rw[if_neg (by grind)];exact F _ s' t (by omega) (by omega)
 ·rw[if_neg (by grind)];refine⟨_,rfl,P,by omega,by omega,by grind⟩
theorem Wz{s:l5}{base:Int}(h:Sd s)(f : -1000<=base)(e:base<=1000):∃r,Dm s base=some r/\Sd r.2/\r.1.length=2/\∀t∈r.1,Hx t:=by
 obtain⟨⟨m,n⟩,d,b,g⟩:=Qr h f e;obtain⟨⟨k,l⟩,c,a,i⟩:=Qr b f e;simp only at b g a i d c;unfold Dm;simp only[d,c,vS,lE,Option.isSome_some];refine k6 ⟨trivial,trivial⟩ (k6 ⟨trivial,trivial⟩ ⟨_,rfl,a,rfl,fun t j=>?_⟩)
 grind
def Jy(a:z7):Prop:=a.2.2.2.2.1.length<=2/\(∀t∈a.2.2.2.2.1,Hx t)/\a.2.2.2.2.2.length<=2/\∀t∈a.2.2.2.2.2,Hx t
theorem Nd{s:l5}{k x y z:Int}(h:Sd s):∃r,K9 s k x y z=some r/\Sd r.2/\Jy r.1:=by
 unfold K9;by_cases c:4<=k
 ·rw[if_pos (decide_eq_true c)];obtain⟨v,w,e,f,a,b,_⟩:=z8 (n:=10) h (by omega);have b:=b (by omega);obtain⟨⟨t,q⟩,g,d,l,i⟩:=Wz (base:=5-v) f (by omega) (by omega);simp only at d l i g;simp only[e,g,vS,lE,Option.isSome_some];refine k6 ⟨trivial,oo,trivial,trivial⟩ ⟨_,rfl,d,?_⟩;exact⟨by grind,i,by simp,by simp⟩
 ·rw[if_neg (by grind)];obtain⟨v,w,e,f,a,b,_⟩:=z8 (n:=20) h (by omega);have b:=b (by omega);obtain⟨⟨t,q⟩,g,d,l,i⟩:=Wz (base:=5+v) f (by omega) (by omega);obtain⟨⟨E,F⟩,m,j,u,o⟩:=Wz (base:=10) d (by omega) (by omega);simp only at d l i g j u o m;simp only[e,g,m,vS,lE,Option.isSome_some];refine k6 ⟨trivial,oo,trivial,trivial⟩ (k6 ⟨trivial,trivial⟩ ⟨_,rfl,j,?_⟩);exact⟨by grind,i,by grind,o⟩
theorem B0A{a:Type}{f:a->Nat}{k:Nat}:∀{xs:List a},(∀x∈xs,f x<=k)->(xs.map f).sum<=xs.length*k
 | [],_=>by simp
 | x :: r,h=>by
   have:=B0A (xs:=r) (fun y b=>h y (by grind))
   grind[List.length_cons,Nat.add_mul]
theorem CI{e:Ty}{xs:List (j5 e)}{m k:Nat}(a:xs.length<=m)(h:∀x∈xs,cnt e x<=k):cnt (.sl e) xs<=m+m*k:=by
 rw[AF];have:=B0A h;have:=Nat.mul_le_mul_right k a;omega
theorem x6{a ρ:Type}{x:a}{f:a->Option ρ}{P:ρ->Prop}(h:∃r,f x=some r/\P r):∃r,lt x f=some r/\P r:=h
theorem u0k{t:s8}(h:Hx t):cnt y70 t<=15:=by
 obtain⟨b,c,a⟩:=h
 grind[J1,FH]
theorem w0F{a:z7}(h:Jy a):cnt y67 a<=64:=by
 obtain⟨g,d,f,c⟩:=h;show cnt (.pr (.int .i64) (.pr (.int .i64) (.pr (.int .i64) (.pr (.int .i64) (.pr (.sl y70) (.sl y70)))))) a<=64;have i:=CI (e:=y70) g (fun t b=>u0k (d t b));have j:=CI (e:=y70) f (fun t b=>u0k (c t b))
 grind[J1,FI]
theorem y0d{c:m4}{m p:Nat}(n:m<=3)(s:p<m)(k:c.2.2.2.2.1.length=2 ^ m):∃r,Ma c (p:Int)=some r/\True:=by
 have d:∀m,m<4->∀p,p<m->∀j,j<8->j<2 ^ m->(j &&& 2 ^ p)=0->j+2 ^ p<2 ^ m:=by decide
 have h:((1:Int)*(2:j5 i64) ^ ((p:Int)).toNat)=((2 ^ p:Nat):Int):=by
  show(1:Int)*(2:Int) ^ p=_;simp
 have t:2 ^ p<=4:=(Nat.pow_le_pow_right (by omega) (by omega):2 ^ p<=2 ^ 2);have f:2 ^ m<=8:=(Nat.pow_le_pow_right (by omega) n:2 ^ m<=2 ^ 3);have d:=d m (by omega) p s;generalize 2 ^ p=P at d h t;generalize 2 ^ m=M at d k f;unfold Ma;refine k6 ⟨oo,⟨oo,?_⟩,trivial⟩ ?_
 ·have e:((1:Int)*(2:Int) ^ ((p:Int)).toNat)=(P:Int):=h;rw[e];exact oo
 refine K4 (fun x=>(9-x.2.2).toNat) (fun x=>∃j:Nat,x.2.2=(j:Int)/\j<=8) ?_ ⟨0,rfl,by omega⟩ (by grind);rintro g ⟨a,b,i⟩ ⟨j,hi,u⟩ o;simp only at hi;subst hi;unfold A0v;dsimp only;rw[k];by_cases l:(j:Int) < (M:Int)
 ·rw[if_pos (decide_eq_true l)];generalize hBB:((1:Int)*(2:j5 i64) ^ ((p:Int)).toNat)=B;rw[h] at hBB;subst hBB;refine k6 ⟨oo,trivial⟩ ?_;have nx:∀a b,∃r,LZ (j:Int) g (a,b)=some r/\True:=fun a b=>by
   unfold LZ;dsimp only;exact k6 ⟨oo,trivial⟩ (o _ ⟨j+1,by grind,by omega⟩ (by grind))
  by_cases q:(j &&& P)=0
  ·have:=d j (by omega) (by omega) q;rw[if_neg (by simp_all)];refine k6 ⟨fun _=>oo,fun _=>oo,fun _=>oo,trivial⟩ (k6 ⟨fun _=>oo,fun _=>oo,fun _=>oo,trivial⟩ ?_);exact nx _ _
  ·rw[if_pos (by simp_all)];exact nx _ _
 ·rw[if_neg (by grind)];unfold UM;dsimp only
  repeat' split
  all_goals exact⟨_,rfl,trivial⟩
def Nf(c:m4):Prop:=cnt y64 c<=300
theorem y0J:∀k:Nat,(([ByteArray.mk #[97],ByteArray.mk #[98],ByteArray.mk #[99],ByteArray.mk #[100]]:List ByteArray).getD k (b7 Ty.str)).size<=1
 | 0 | 1 | 2 | 3=>by decide
 | n+4=>by
   simp[b7];exact Nat.zero_le _
theorem z0u{s:l5}{nm:ByteArray}{tr:List Int}{k:Nat}{pins:List I2}{v1 v:Int}{V G:l5}(hn:nm.size<=8)(e:k<=3)(Q:tr.length=2 ^ k)(hp:pins.length=k)(i1:Sd s)(i2:∀p∈pins,cnt y233 p<=3):∃r,PS nm tr (v1,V) (v,G) (pins,s.1,s.2.1,s.2.2)=some r/\Sd r.2/\Nf r.1:=by
 have W:2 ^ k<=8:=(Nat.pow_le_pow_right (by omega) e:2 ^ k<=2 ^ 3);unfold PS;refine k6 ⟨⟨by grind,by grind⟩,trivial⟩ ?_;refine x6 ?_;dsimp only;have F:cnt (.sl y233) (pins++[(ByteArray.mk #[(121:UInt8)],(2:Int),(0:Int),false)])<=4+4*3:=CI (by grind) (fun p a=>by
  rcases List.mem_append.1 a with a | a
  ·grind
  ·rw[List.mem_singleton.1 a];show cnt (.pr .str (.pr (.int .i64) (.pr (.int .i64) .bool))) _<=3;simp only[J1,FI,WA,FJ];decide)
 refine K4 (fun x=>(5-x.1).toNat) (fun x=>∃j:Nat,x.1=(j:Int)/\j<=k/\x.2.1.length<=j/\Sd x.2.2/\∀q∈x.2.1,Jy q) ?_ ⟨0,rfl,by omega,by simp,i1,by simp⟩ (by omega);rintro g2 ⟨i',f,c',X,aA⟩ ⟨j,t,H,j1,l,u⟩ i;simp only at t j1 l u;subst t;unfold A0K;dsimp only;rw[hp];by_cases T:(j:Int) < (k:Int)
 ·rw[if_pos (decide_eq_true T)];obtain⟨w,ew,-⟩:=y0d (c:=(nm,(1:Int),pins++[(ByteArray.mk #[(121:UInt8)],(2:Int),(0:Int),false)],[],tr,v1,v)) e (p:=j) (m:=k) (by omega) Q;rw[ew];refine k6 ⟨rfl,trivial⟩ (x6 ?_);rw[vS];have nx:∀(b:List z7) (h:l5),Sd h->b.length<=j+1->(∀q∈b,Jy q)->∃r,Mb (j:Int) g2 (b,h.1,h.2.1,h.2.2)=some r/\Sd r.2/\Nf r.1:=fun b h h3 hl n=>by
   unfold Mb;dsimp only;exact k6 ⟨oo,trivial⟩ (i _ ⟨j+1,by omega,by omega,hl,h3,n⟩ (by omega))
  by_cases P:w != 0
  ·rw[if_pos P];obtain⟨⟨q,Y⟩,o,g,E⟩:=Nd (k:=1) (x:=(j:Int)) (y:=(k:Int)) (z:=w) l;simp only at g E o;rw[o];refine k6 ⟨rfl,⟨by grind,by grind⟩,trivial⟩ (x6 (nx _ Y g (by grind) fun q' d=>?_));rcases List.mem_append.1 d with d | d
   ·grind
   ·rw[List.mem_singleton.1 d]; exact E
  grind
 ·rw[if_neg (by grind)];unfold UN;refine⟨_,rfl,l,?_⟩;have ha:cnt (.sl y67) f<=4+4*64:=CI (by omega) (fun q n=>w0F (u q n));show cnt (.pr .str (.pr (.int .i64) (.pr (.sl y233) (.pr (.sl y67) (.pr (.sl (.int .i64)) (.pr (.int .i64) (.int .i64))))))) _<=300
  grind[J1,FI,FJ,FH]
theorem Ng{s:l5}{nm:ByteArray}{tr:List Int}{m:Nat}(h:Sd s)(hn:nm.size<=8)(G:1<=m/\m<=3)(T:tr.length=2 ^ m):∃r,C5 s nm tr=some r/\Sd r.2/\Nf r.1:=by
 have y:2 ^ m<=8:=(Nat.pow_le_pow_right (by omega) G.2:2 ^ m<=2 ^ 3);obtain⟨v1,s1,X,F,-,-,-⟩:=z8 (n:=50) h (by omega);obtain⟨v2,s2,Q,E,-,-,-⟩:=z8 (n:=80) F (by omega);unfold C5;refine x6 ?_;dsimp only;simp only[X,Q,vS,Option.isSome_some];refine k6 ⟨trivial,trivial,trivial⟩ (x6 ?_);dsimp only;refine K4 (fun x=>(16-x.1).toNat) (fun x=>∃k,k<=m/\x.1=((2 ^ k:Nat):Int)/\x.2.1.length=k/\Sd x.2.2/\∀p∈x.2.1,cnt y233 p<=3) ?_ ⟨0,by omega,rfl,rfl,E,by simp⟩ (by omega);rintro g ⟨i,pins,c,z,w⟩ ⟨k,V,hi,H,u,i2⟩ P;simp only at hi H u i2;unfold A0L;dsimp only;subst hi;rw[T];have l:2 ^ k<=2 ^ m:=Nat.pow_le_pow_right (by omega) V;have d:0<2 ^ k:=Nat.pos_of_ne_zero (by simp);have j:2 ^ (k+1)=2*2 ^ k:=by rw[Nat.pow_succ]; omega
 have f:k<m->2 ^ (k+1)<=2 ^ m:=fun h=>Nat.pow_le_pow_right (by omega) h;have Y:((2 ^ k:Nat):Int)=((2 ^ k:Nat):Int):=rfl;generalize hK2:2 ^ k=K2 at l d j ⊢;generalize hM2:2 ^ m=M2 at l y f ⊢;by_cases c1:(K2:Int) < (M2:Int)
 ·rw[if_pos (decide_eq_true c1)];have o:k<m:=by
   rcases Nat.lt_or_ge k m with q | q
   ·exact q
   ·grind
  obtain⟨v,s',e,t,a,b,-⟩:=z8 (n:=9) u (by omega);have b:=b (by omega);simp only[e,vS,lE,Option.isSome_some];refine k6 ⟨⟨by omega,by grind⟩,by grind,trivial,oo,⟨by grind,by grind⟩,trivial⟩ (k6 ⟨oo,trivial⟩ ?_);refine P _ ⟨k+1,by omega,by omega,by grind,t,fun p W=>?_⟩ (by omega)
  grind[List.mem_singleton,J1,FI,WA,FJ,y0J]
 ·rw[if_neg (by grind)];have o:k=m:=by
   rcases Nat.lt_or_ge k m with q | q
   ·omega
   ·omega
  subst o;exact z0u (s:=(c,z,w)) hn G.2 (by omega) H u i2
theorem WB{s:l5}{nm:ByteArray}{k e:Int}(h:Sd s)(hn:nm.size<=8):∃r,Dn s nm k e=some r/\Sd r.2/\Nf (r.1.1,r.1.2.1,r.1.2.2.1,r.1.2.2.2.1,[],r.1.2.2.2.2):=by
 obtain⟨v1,s1,e1,v,-,-,-⟩:=z8 (n:=50) h (by omega);obtain⟨v2,P,Y,u,-,-,-⟩:=z8 (n:=80) v (by omega);obtain⟨X,s3,V,l,a3,G,-⟩:=z8 (n:=9) u (by omega);obtain⟨v4,s4,Q,o,a4,F,-⟩:=z8 (n:=9) l (by omega);have G:=G (by omega);have F:=F (by omega);obtain⟨⟨q5,s5⟩,H,d,a5⟩:=Nd (k:=e) (x:=1) (y:=2) (z:=0) o;simp only at d a5 H;obtain⟨⟨q6,s6⟩,E,j,a6⟩:=Nd (k:=4) (x:=1) (y:=0) (z:=0) d;simp only at j a6 E;obtain⟨⟨W,s7⟩,w,b,a7⟩:=Nd (k:=5) (x:=1) (y:=0) (z:=0) j;simp only at b a7 w;obtain⟨⟨q8,T⟩,e8,i,a8⟩:=Nd (k:=1) (x:=0) (y:=2) (z:=1) b;simp only at i a8 e8;unfold Dn;simp only[lE,e1,Y,V,Q,H,E,w,e8,vS,Option.isSome_some];refine k6 ⟨trivial,trivial,trivial⟩ (k6 ⟨trivial,oo,trivial,oo,trivial⟩ (k6 ⟨trivial,trivial,trivial,trivial⟩ ?_));have f:∀(a:List z7) (g:l5),Sd g->a.length<=4->(∀q∈a,Jy q)->∃r,LY nm k [(ByteArray.mk #[(100:UInt8)],(1:Int),(1:Int)+X,false),(ByteArray.mk #[(99:UInt8),(107:UInt8)],(1:Int),(1:Int)+v4,true),(ByteArray.mk #[(113:UInt8)],(2:Int),(0:Int),false)] (v1,s1) (v2,P) (a,g.1,g.2.1,g.2.2)=some r/\Sd r.2/\Nf (r.1.1,r.1.2.1,r.1.2.2.1,r.1.2.2.2.1,[],r.1.2.2.2.2):=fun a g h9 hl t=>by
  unfold LY;refine⟨_,rfl,h9,?_⟩;have ha:cnt (.sl y67) a<=4+4*64:=CI hl (fun q m=>w0F (t q m));show cnt (.pr .str (.pr (.int .i64) (.pr (.sl y233) (.pr (.sl y67) (.pr (.sl (.int .i64)) (.pr (.int .i64) (.int .i64))))))) _<=300;have hp:∀x y:Int,cnt (.sl y233) [(ByteArray.mk #[(100:UInt8)],(1:Int),x,false),(ByteArray.mk #[(99:UInt8),(107:UInt8)],(1:Int),y,true),(ByteArray.mk #[(113:UInt8)],(2:Int),(0:Int),false)]<=10:=fun x y=>by
   rw[AF];simp only[List.map_cons,List.map_nil,List.sum_cons,List.sum_nil,List.length_cons,List.length_nil];show _+(cnt (.pr .str (.pr (.int .i64) (.pr (.int .i64) .bool))) _+(cnt (.pr .str (.pr (.int .i64) (.pr (.int .i64) .bool))) _+(cnt (.pr .str (.pr (.int .i64) (.pr (.int .i64) .bool))) _+0)))<=10;simp only[J1,FI,WA,FJ];decide
  grind[J1,FI,FJ,FH,List.length_nil]
 have h3:∀q∈[q5,q6,W],Jy q:=fun q t=>by
  grind
 by_cases c:(k==3)=true
 ·rw[if_pos c];refine k6 ⟨trivial,⟨by simp,by simp⟩,trivial⟩ (f _ T i (by simp) fun q t=>?_)
  grind
 ·rw[if_neg c];exact f _ s7 b (by simp) h3
theorem I0i{s:l5}(h:Sd s):∃r,Mc s=some r/\Sd r.2/\cnt (.sl y64) r.1<=2408:=by
 obtain⟨⟨c1,s1⟩,w,t,o⟩:=Ng (nm:=ByteArray.mk #[105,110,118]) (tr:=[1,0]) (m:=1) h (by decide) (by decide) rfl;simp only at t o w;obtain⟨⟨c2,T⟩,f,n,F⟩:=Ng (nm:=ByteArray.mk #[98,117,102]) (tr:=[0,1]) (m:=1) t (by decide) (by decide) rfl;simp only at n F f;obtain⟨⟨Y,s3⟩,d,P,l⟩:=Ng (nm:=ByteArray.mk #[110,97,110,100]) (tr:=[1,1,1,0]) (m:=2) n (by decide) (by decide) rfl;simp only at P l d;obtain⟨⟨W,s4⟩,a,v,y⟩:=Ng (nm:=ByteArray.mk #[120,111,114]) (tr:=[0,1,1,0]) (m:=2) P (by decide) (by decide) rfl;simp only at v y a;obtain⟨⟨c5,s5⟩,Q,b,E⟩:=Ng (nm:=ByteArray.mk #[109,117,120]) (tr:=[0,1,0,1,0,0,1,1]) (m:=3) v (by decide) (by decide) rfl;simp only at b E Q;obtain⟨⟨c6,s6⟩,x,q,z⟩:=WB (nm:=ByteArray.mk #[102,108,111,112]) (k:=2) (e:=2) b (by decide);simp only at q z x;obtain⟨⟨c7,s7⟩,j,G,H⟩:=WB (nm:=ByteArray.mk #[102,108,111,112,110]) (k:=2) (e:=3) q (by decide);simp only at G H j;obtain⟨⟨X,V⟩,e8,i,u⟩:=WB (nm:=ByteArray.mk #[108,97,116,99,104]) (k:=3) (e:=2) G (by decide);simp only at i u e8;unfold Mc;simp only[lE,w,f,d,a,Q,x,j,e8,vS,Option.isSome_some];refine k6 ⟨trivial,trivial,trivial⟩ (k6 ⟨trivial,trivial,trivial⟩ (k6 ⟨trivial,trivial,trivial⟩ (k6 ⟨trivial,trivial,trivial⟩ (k6 ⟨trivial,trivial,trivial⟩ (k6 ⟨trivial,trivial⟩ (k6 ⟨trivial,trivial⟩ (k6 ⟨trivial,trivial⟩ ⟨_,rfl,i,?_⟩)))))));refine Nat.le_trans (CI (m:=8) (k:=300) (by simp) fun c g=>?_) (by decide);simp only[List.mem_cons,List.not_mem_nil,or_false] at g;rcases g with rfl | rfl | rfl | rfl | rfl | rfl | rfl | rfl
 ·exact o
 ·exact F
 ·exact l
 ·exact y
 ·exact E
 ·exact z
 ·exact H
 ·exact u
theorem O2{e:Option Unit}(h:∃r,e=some r/\True):e=some ():=by
 obtain⟨_,h,_⟩:=h;exact h
theorem BT{s:l5}(a:wf m7 s)(h:sd s):Sd s:=⟨h,a.1.1,fun b c=>a.1.2 b c⟩
theorem v0e:∀(m:Nat) (n:Int),0<=n->n<10 ^ m->1<=m/\m<=40->∃r,IU m n=some r/\r.size<=m
 | 0,n,h0,h1,d=>by omega
 | m+1,n,h0,h1,hm=>by
   show ∃r,PV (IU m) n=some r/\r.size<=m+1;unfold PV;rw[if_neg (by simp; omega)];have d:0<=n.tmod 10/\n.tmod 10<10:=⟨Int.tmod_nonneg _ h0,Int.tmod_lt_of_pos _ (by omega)⟩;by_cases c:n<10
   ·rw[if_pos (decide_eq_true c)];refine k6 ⟨oo,trivial,by simp,trivial⟩ ⟨_,rfl,?_⟩;rw[strOfNums_size];simp
   ·rw[if_neg (by simpa using c)];have b:n.tdiv 10<10 ^ m:=by
     rw[Int.tdiv_eq_ediv_of_nonneg h0];have:(10:Int) ^ (m+1)=10*10 ^ m:=by rw[Int.pow_succ]; omega
     omega
    have a:1<=m:=by
     rcases Nat.eq_zero_or_pos m with h | h
     ·subst h; simp at h1; omega
     ·exact h
    obtain⟨r,e,f⟩:=v0e m (n.tdiv 10) (Int.tdiv_nonneg h0 (by omega)) b (by omega);rw[e];refine k6 ⟨by omega,rfl,by omega,oo,trivial,by simp,?_,trivial⟩ (x6 ⟨_,rfl,?_⟩)
    ·rw[vS,strOfNums_size]; simp; omega
    ·rw[vS,ByteArray.size_append,strOfNums_size]; simp; omega
theorem B0Q{n:Int}(a:0<=n)(b:n<1000):∃r,Cy n=some r/\r.size<=25 :=
 v0e 25 n a (by have:(1000:Int)<10 ^ 25:=by decide
                omega) (by omega)
theorem WC{xs:List Int}(h:xs.length<=1000):K1 xs=some xs:=by
 unfold K1;rw[gP ⟨oo,trivial⟩];rfl
def WD(d:r6):Prop:=(d.1.length<=6/\∀i∈d.1,i.2.2.length<=4)/\d.2.2.length<=5
theorem E0u{d:r6}(h:WD d):∃r,I6 d=some r/\r.length<=29:=by
 obtain⟨⟨w,t⟩,v⟩:=h;unfold I6;refine K4 (fun x=>(7-x.1).toNat) (fun x=>0<=x.1/\x.1<=6/\(x.2.length:Int)<=4*x.1) ?_ ⟨by simp only; omega,by simp only; omega,by simp⟩ (by simp only; omega);rintro g ⟨i,q⟩ ⟨n,i2,i3⟩ o;simp only at n i2 i3;unfold Tk;dsimp only;by_cases c:i < (d.1.length:Int)
 ·rw[if_pos (decide_eq_true c)];refine k6 ⟨⟨n,c⟩,trivial⟩ (x6 ?_);have j:i.toNat<d.1.length:=by omega
  have s:(d.1.getD i.toNat (b7 y139)).2.2.length<=4:=by
   rw[gq,List.getElem?_eq_getElem j];exact t _ (List.getElem_mem j)
  generalize d.1.getD i.toNat (b7 y139)=x at s;refine K4 (fun x=>(5-x.1).toNat) (fun y=>0<=y.1/\y.1<=4/\(y.2.length:Int)<=4*i+y.1) ?_ ⟨by simp only; omega,by simp only; omega,by simp only; omega⟩ (by simp only; omega);rintro u ⟨k,f⟩ ⟨e,l,m⟩ b;simp only at e l m;unfold Tj;dsimp only;by_cases a:k < (x.2.2.length:Int)
  ·rw[if_pos (decide_eq_true a)];refine k6 ⟨⟨e,a⟩,oo,⟨by simp; omega,by simp; omega⟩,trivial⟩ (x6 ?_);dsimp only;exact k6 ⟨oo,trivial⟩ (b _ ⟨by simp only; omega,by simp only; omega,by simp; omega⟩ (by simp only; omega))
  ·rw[if_neg (by simpa using a)];unfold Oy;exact k6 ⟨oo,trivial⟩ (o _ ⟨by simp only; omega,by simp only; omega,by simp only; omega⟩ (by simp only; omega))
 ·rw[if_neg (by simpa using c)];unfold Il;refine K4 (fun x=>(6-x.1).toNat) (fun y=>0<=y.1/\y.1<=5/\(y.2.length:Int)<=24+y.1) ?_ ⟨by simp only; omega,by simp only; omega,by simp only; omega⟩ (by simp only; omega);rintro u ⟨k,f⟩ ⟨e,l,m⟩ b;simp only at e l m;unfold Ti;dsimp only;by_cases a:k < (d.2.2.length:Int)
  ·rw[if_pos (decide_eq_true a)];refine k6 ⟨⟨e,a⟩,⟨e,a⟩,⟨by simp; omega,by simp; omega⟩,trivial⟩ (x6 ?_);dsimp only;exact k6 ⟨oo,trivial⟩ (b _ ⟨by simp only; omega,by simp only; omega,by simp; omega⟩ (by simp only; omega))
  ·rw[if_neg (by simpa using a)];exact⟨_,rfl,by omega⟩
theorem H0H{d:r6}{t:Int}(h:WD d):∃r,T4 d t=some r/\r.length<=29:=by
 obtain⟨p,e,l⟩:=E0u h;unfold T4;rw[e];refine k6 ⟨rfl,trivial⟩ (x6 ?_);rw[vS];refine K4 (fun x=>(30-x.1).toNat) (fun x=>0<=x.1/\x.1<=29/\(x.2.length:Int)<=x.1) ?_ ⟨by simp only; omega,by simp only; omega,by simp⟩ (by simp only; omega);rintro g ⟨i,j⟩ ⟨a,i2,i3⟩ f;simp only at a i2 i3;unfold Tl;dsimp only;by_cases c:i < (p.length:Int)
 ·rw[if_pos (decide_eq_true c)];refine k6 ⟨⟨a,c⟩,by omega,fun _=>⟨a,c⟩,fun _=>by omega,trivial⟩ ?_;have nx:∀b:List Int,(b.length:Int)<=i+1->∃r,Im i g b=some r/\r.length<=29:=fun b k=>by
   unfold Im;exact k6 ⟨oo,trivial⟩ (f _ ⟨by simp only; omega,by simp only; omega,k⟩ (by simp only; omega))
  split
  ·exact k6 ⟨⟨by simp; omega,by simp; omega⟩,trivial⟩ (nx _ (by simp; omega))
  ·exact nx _ (by omega)
 ·rw[if_neg (by simpa using c)];exact⟨_,rfl,by omega⟩
section
variable [Alw]
theorem C0l{s:l5}{n:Int}(h:Sd s)(T:0<=n)(h1:n<=40):Qe s n=some ():=by
 refine O2 ?_;obtain⟨v,s0,Y,d,a0,b0,-⟩:=z8 (n:=6) h (by omega);obtain⟨v1,s1,V,a,a1,t,-⟩:=z8 (n:=4) d (by omega);have t:=t (by omega);have Q:Md n v=some ([-1],[0],[v],List.replicate n.toNat 0):=by
  unfold Md;rw[gP ⟨⟨T,rfl,by omega,by omega⟩,trivial⟩]
 unfold Qe;simp only[Y,Q,vS,Option.isSome_some];refine k6 ⟨trivial,trivial,trivial⟩ (x6 ?_);dsimp only;simp only[V,vS,Option.isSome_some];refine k6 ⟨trivial,trivial⟩ (x6 ?_);refine K4 (fun x=>x.1.toNat) (fun x=>Sd (x.2.1,x.2.2.1,x.2.2.2.1)/\0<=x.1/\(1<=x.2.2.2.2.1.length/\(x.2.2.2.2.1.length:Int)+x.1<=4)/\(1<=x.2.2.2.2.2.1.length/\(x.2.2.2.2.2.1.length:Int)+x.1<=4)/\1<=x.2.2.2.2.2.2.length/\(x.2.2.2.2.2.2.length:Int)+x.1<=4) ?_ ⟨a,by simp only; omega,⟨by simp,by simp; omega⟩,⟨by simp,by simp; omega⟩,by simp,by simp; omega⟩ (by simp only; omega);rintro g ⟨m,c,X,G,P,R,C⟩ ⟨b,i2,⟨i3,i4⟩,⟨i5,i6⟩,i7,i8⟩ z;simp only at b i2 i3 i4 i5 i6 i7 i8;unfold B0t;dsimp only;by_cases w:0<m
 ·rw[if_pos (decide_eq_true w)];obtain⟨v2,s2,F,q,-,-,-⟩:=z8 (n:=(P.length:Int)) b (by omega);obtain⟨v3,s3,E,f,-,-,-⟩:=z8 (n:=400) q (by omega);obtain⟨v4,s4,y,o,-,-,-⟩:=z8 (n:=8) f (by omega);rw[WC (xs:=P) (by omega),WC (xs:=R) (by omega),WC (xs:=C) (by omega)];simp only[F,E,y,vS,Option.isSome_some];refine k6 ⟨trivial,trivial,⟨by simp; omega,by simp; omega⟩,trivial,trivial,⟨by simp; omega,by simp; omega⟩,trivial,trivial,⟨by simp; omega,by simp; omega⟩,trivial⟩ (x6 ?_);dsimp only;exact k6 ⟨oo,trivial⟩ (z _ ⟨o,by simp only; omega,⟨by simp,by simp; omega⟩,⟨by simp,by simp; omega⟩,by simp,by simp; omega⟩ (by simp only; omega))
 ·rw[if_neg (by simpa using w)];unfold Ve;refine K4 (fun x=>(41-x.1).toNat) (fun x=>Sd (x.2.1,x.2.2.1,x.2.2.2.1)/\0<=x.1/\x.1<=40/\x.2.2.2.2.length=n.toNat) ?_ ⟨b,by simp only; omega,by simp only; omega,by simp⟩ (by simp only; omega);rintro g2 ⟨i,c',W,aA,H⟩ ⟨k,r,k3,u⟩ j;simp only at k r k3 u;unfold B0s;dsimp only;by_cases e:i < (H.length:Int)
  ·rw[if_pos (decide_eq_true e)];obtain⟨v5,s5,e5,l,-,-,-⟩:=z8 (n:=(P.length:Int)) k (by omega);simp only[e5,vS,Option.isSome_some];refine k6 ⟨trivial,⟨r,e⟩,by omega,trivial⟩ (x6 ?_);exact k6 ⟨oo,trivial⟩ (j _ ⟨l,by simp only; omega,by simp only; omega,by simp[u]⟩ (by simp only; omega))
  ·rw[if_neg (by simpa using e)];unfold Vd;refine k6 ⟨k.1,i3,i5,i7,?_⟩ ⟨_,rfl,trivial⟩;show cnt (.pr (.sl (.int .i64)) (.pr (.sl (.int .i64)) (.pr (.sl (.int .i64)) (.sl (.int .i64))))) _<=60;simp only[J1,FH];omega
end
theorem r0r{e:Ty}(a:∀x y,w7 e x y->cnt e y=cnt e x):∀{xs ys:List (j5 e)},AllS (w7 e) xs ys->(ys.map (cnt e)).sum=(xs.map (cnt e)).sum
 | [],_,h=>by rw[show _=[] from h]
 | x :: r,_,⟨y,r',e1,h1,h2⟩=>by
   subst e1;simp only[List.map_cons,List.sum_cons];rw[a x y h1,r0r a h2]
theorem Hy:∀(t:Ty) (x y:j5 t),w7 t x y->cnt t y=cnt t x
 | .int _,_,_,_=>by grind[cnt]
 | .bool,_,_,h=>by rw[show _=_ from h]
 | .str,_,_,h=>by rw[show _=_ from h]
 | .sl e,x,y,h=>by
   rw[AF,AF,AllS.len h,r0r (Hy e) h]
 | .pt e,x,y,h=>by
   show cnt e y=cnt e x;exact Hy e x y h
 | .pr a b,x,y,h=>by
   rw[J1,J1,Hy a x.1 y.1 h.1,Hy b x.2 y.2 h.2]
theorem Ah[Alw]{a:Type}{p:a->Prop}{f:a->Option Unit}(h:∀z,p z->f z=some ()):∃r,Alw.alp p f=some r/\True:=⟨(),Alw.alp_u h,trivial⟩
theorem E0F:∀j:Nat,0<=([(0:Int),1,2,2,3,4,5,5,5,6,7,1]).getD j 0/\([(0:Int),1,2,2,3,4,5,5,5,6,7,1]).getD j 0<=7
 | 0 | 1 | 2 | 3 | 4 | 5 | 6 | 7 | 8 | 9 | 10 | 11=>by decide
 | n+12=>by simp
theorem H0V:∀j:Nat,j<8->2<=([(2:Int),2,3,3,4,3,3,3]).getD j 0/\([(2:Int),2,3,3,4,3,3,3]).getD j 0<=4
 | 0,_ | 1,_ | 2,_ | 3,_ | 4,_ | 5,_ | 6,_ | 7,_=>by decide
 | n+8,h=>by omega
def Bq(x:m9):Prop:=1<=x.2.2.length/\x.2.2.length<=4/\x.1.size<=26
theorem E0c{x:m9}(h:Bq x):cnt y139 x<=30:=by
 obtain⟨b,c,a⟩:=h
 grind[J1,FJ,FI,FH]
theorem E0b{x y:m9}(h:w7 y139 x y)(c:Bq x):Bq y:=by
 obtain⟨b,f,a⟩:=h;obtain⟨d,e,g⟩:=c;have a:y.2.2.length=x.2.2.length:=AllS.len a;have b:y.1=x.1:=b;exact⟨by omega,by omega,by grind⟩
section
variable [Alw]
abbrev QT:List r9:=[(ByteArray.mk #[(99:UInt8),(107:UInt8)],(1:Int),(0:Int)),(ByteArray.mk #[(97:UInt8)],(1:Int),(1:Int)),(ByteArray.mk #[(98:UInt8)],(1:Int),(2:Int))]
theorem n0x{c:List m9}{a:List ByteArray}{b:List r9}{s:l5}(h:Sd s)(j:c.length<=6)(g:∀x∈c,Bq x)(l:3<=a.length/\a.length<=9)(m:∀x∈a,x.size<=26)(f:1<=b.length/\b.length<=5)(t:∀p∈b,p.1.size<=2) :
  ∃r,Mm c a (b,s.1,s.2.1,s.2.2)=some r/\True:=by
 unfold Mm;refine k6 ⟨h.1,⟨j,fun i hi=>(g i hi).2.1⟩,⟨by grind,by grind⟩,f,?_⟩ ⟨_,rfl,trivial⟩;have n:=CI (e:=y139) j (fun x d=>E0c (g x d));have q:=CI (e:=.str) l.2 (fun x d=>(by grind[FJ]:cnt .str x<=26));have o:=CI (e:=y202) f.2 (k:=2) (fun x d=>by
  grind[J1,FJ,FI])
 grind[J1]
theorem z0I{f a b:List m9}{c G:List ByteArray}{F:List r9}{s:l5}(h:Sd s)(q:f.length<=6)(l:∀x∈f,Bq x)(o:3<=c.length/\c.length<=9)(m:∀x∈c,x.size<=26) :
  ∃r,Qf c QT (s.1,s.2.1,s.2.2,f,a,b,G,F)=some r/\True:=by
 unfold Qf;refine k6 ⟨⟨by simp,by simp⟩,trivial⟩ (k6 ⟨oo,⟨by simp,by simp⟩,trivial⟩ (x6 ?_));dsimp only;obtain⟨v,z,e,g,-,-,-⟩:=z8 (n:=2) h (by omega);obtain⟨w,t,u,j,H,k,-⟩:=z8 (n:=(c.length:Int)-1) g (by omega);have k:=k (by omega);obtain⟨P,E,y⟩:=s;simp only[e,vS,Option.isSome_some];refine k6 ⟨trivial,trivial⟩ (x6 ?_);dsimp only;have i:∀p∈([]++QT++[(ByteArray.mk #[(121:UInt8)],(2:Int),(c.length:Int)-1)]:List r9),p.1.size<=2:=fun p i=>by
  simp only[QT,List.nil_append,List.cons_append,List.mem_cons,List.not_mem_nil,or_false] at i;rcases i with rfl | rfl | rfl | rfl
  ·decide
  ·decide
  ·decide
  ·exact(by decide:(ByteArray.mk #[(121:UInt8)]).size<=2)
 split
 ·simp only[u,vS,Option.isSome_some];refine k6 ⟨oo,trivial,oo,⟨by simp,by simp⟩,trivial⟩ (x6 ?_);dsimp only;refine n0x (s:=t) j q l o m (by simp) (fun p d=>?_);rcases List.mem_append.1 d with d | d
  ·grind
  ·rw[List.mem_singleton.1 d];exact(by decide:(ByteArray.mk #[(122:UInt8)]).size<=2)
 ·exact n0x (s:=z) g q l o m (by simp) i
theorem z0J{o a b:List m9}{d n2:List ByteArray}{p2:List r9}{s:l5}{F:Bool}(h:Sd s)(h1:o.length<=6)(h2:∀x∈o,Bq x)(h3:3<=d.length/\d.length<=9)(h4:∀x∈d,x.size<=26) :
  ∃r,Qg F QT (s.1,s.2.1,s.2.2,d,o,a,b,n2,p2)=some r/\True:=by
 unfold Qg;refine K4 (fun x=>(7-x.1).toNat) (fun x=>Sd (x.2.1,x.2.2.1,x.2.2.2.1)/\0<=x.1/\x.1<=6/\x.2.2.2.2.1.length<=6/\∀y∈x.2.2.2.2.1,Bq y) ?_ ⟨h,by omega,by omega,h1,h2⟩ (by omega);rintro g ⟨i,c,X,V,j,a2,b2,n3,p3⟩ ⟨T,i2,i3,i4,i5⟩ ih;simp only at T i2 i3 i4 i5;unfold B0u;dsimp only;by_cases Q:i < (j.length:Int)
 ·rw[if_pos (decide_eq_true Q)];obtain⟨v,s1,e,z,-,-,-⟩:=z8 (n:=4) T (by omega);obtain⟨w,s2,e2,t,wa,wb,-⟩:=z8 (n:=(d.length:Int)-1) z (by omega);have wb:=wb (by omega);have f:i.toNat<j.length:=by omega
  simp only[e,vS,Option.isSome_some];refine k6 ⟨trivial,fun _=>⟨i2,Q⟩,fun _=>f,fun _=>⟨i2,Q⟩,fun _=>f,trivial⟩ (x6 ?_);dsimp only;have nx:∀(G:l5) (k a3 b3:List m9) (n4:List ByteArray) (p4:List r9),Sd G->k.length<=6->(∀y∈k,Bq y)->∃r,Mn i g (G.1,G.2.1,G.2.2,k,a3,b3,n4,p4)=some r/\True:=fun G k a3 b3 n4 p4 q1 q2 q3=>by
   unfold Mn;exact k6 ⟨oo,trivial⟩ (ih _ ⟨q1,by omega,by omega,q2,q3⟩ (by omega))
  split
  ·simp only[e2,vS,Option.isSome_some];have aA:Bq (j.getD i.toNat (b7 y139)):=by
    rw[gq,List.getElem?_eq_getElem f];exact i5 _ (List.getElem_mem f)
   have:=aA.1;refine k6 ⟨⟨i2,Q⟩,f,oo,trivial,oo,oo,trivial⟩ (Ah ?_);rintro⟨aD,aB,m,aC,l,u,H,P,E⟩ ⟨-,-,k3,-,k5,-⟩;dsimp only;refine O2 (k6 trivial ?_);have hw:wf (.sl (.int .u8)) m:=k3.2 ⟨t.2.1,fun b W=>t.2.2 b W⟩;have hl:l.length=j.length:=AllS.len k5;refine nx (m,s2.2.1,s2.2.2) l u H P E ⟨t.1,hw.1,fun b W=>hw.2 b W⟩ (by omega) ?_;exact AllS.all (p:=Bq) (q:=Bq) (fun x y Y hx=>E0b Y hx) k5 i5
  ·exact nx s1 j a2 b2 n3 p3 z i4 i5
 ·rw[if_neg (by grind)];exact z0I (s:=(c,X,V)) T i4 i5 h3 h4
theorem I0v{s:l5}{a:Int}{i:Bool}(h:Sd s)(h0:2<=a)(h1:a<=6):Qh s a i=some ():=by
 refine O2 ?_;unfold Qh;refine x6 ?_;refine x6 ?_;obtain⟨v,s0,e0,q,a0,G,-⟩:=z8 (n:=a-1) h (by omega);have G:=G (by omega);simp only[e0,vS,Option.isSome_some];refine k6 ⟨⟨by simp,by simp⟩,trivial⟩ (k6 ⟨oo,trivial,oo,trivial⟩ (x6 ?_));refine K4 (fun x=>x.1.toNat) (fun x=>Sd (x.2.1,x.2.2.1,x.2.2.2.1)/\0<=x.1/\(x.2.2.2.2.2.1.length:Int)+x.1<=6/\3<=x.2.2.2.2.1.length/\(x.2.2.2.2.1.length:Int)+x.1<=9/\(∀y∈x.2.2.2.2.2.1,Bq y)/\∀y∈x.2.2.2.2.1,y.size<=26) ?_
  ⟨q,by omega,by grind,by simp,by grind,by simp,by
    intro y f;simp only[List.nil_append,List.mem_cons,List.not_mem_nil,or_false] at f;rcases f with rfl | rfl | rfl <;> decide⟩ (by omega)
 rintro g ⟨m,c,z,t,e,F,a1,a2,a3,a4⟩ ⟨o,i2,i3,i4,i5,i6,i7⟩ ih;simp only at o i2 i3 i4 i5 i6 i7;unfold B0w;dsimp only;by_cases cm:0<m
 ·rw[if_pos (decide_eq_true cm)];obtain⟨Q,s1,e1,l,q1,W,-⟩:=z8 (n:=12) o (by omega);have W:=W (by omega);simp only[e1,vS,Option.isSome_some];refine k6 ⟨trivial,oo,by simp; omega,trivial⟩ (x6 ?_);dsimp only;have hc:=E0F Q.toNat;generalize ([(0:Int),1,2,2,3,4,5,5,5,6,7,1]).getD Q.toNat 0=cell at hc ⊢;obtain⟨nm,e2,aG⟩:=B0Q (n:=(F.length:Int)) (by omega) (by omega);obtain⟨aC,e3,H⟩:=B0Q (n:=(e.length:Int)) (by omega) (by omega);rw[e2]
  refine k6 ⟨rfl,by rw[vS]; have:(ByteArray.mk #[117]).size=1:=rfl
                    omega,trivial⟩ (x6 ?_)
  rw[vS];have aD:=H0V cell.toNat (by omega);refine K4 (fun x=>(5-x.1).toNat) (fun x=>Sd (x.2.2.1,x.2.2.2.1,x.2.2.2.2)/\0<=x.1/\x.1<=3/\(x.2.1.length:Int)=x.1) ?_ ⟨l,by omega,by omega,by simp⟩ (by omega);rintro X ⟨k,V,c2,aF,aB⟩ ⟨E,k2,k3,k4⟩ w;simp only at E k2 k3 k4;unfold B0v;dsimp only;refine k6 ⟨⟨by omega,by grind⟩,by grind,oo,trivial⟩ ?_;by_cases ck:k < ([(2:Int),2,3,3,4,3,3,3]).getD cell.toNat 0-1
  ·rw[if_pos (decide_eq_true ck)];obtain⟨v3,s3,e4,u,w1,Y,-⟩:=z8 (n:=(e.length:Int)-1) E (by omega);have Y:=Y (by omega);obtain⟨v4,T,e5,j,-,-,-⟩:=z8 (n:=3) u (by omega);simp only[e4,vS,Option.isSome_some];refine k6 ⟨oo,trivial,oo,trivial⟩ (x6 ?_);dsimp only;simp only[e5,vS,Option.isSome_some];refine k6 ⟨trivial,trivial⟩ (x6 ?_);dsimp only;have n6:∀(x:Int) (b:l5),Sd b->∃r,Mo k V b.1 b.2.1 b.2.2 X x=some r/\True:=fun x b d=>by
    unfold Mo;exact k6 ⟨oo,⟨by grind,by grind⟩,trivial⟩ (k6 ⟨oo,trivial⟩ (w _ ⟨d,by omega,by omega,by grind⟩ (by omega)))
   have P:∀(x:Int) (b:l5),Sd b->∃r,Mp k V cell X (b.1,b.2.1,b.2.2,x)=some r/\True:=fun x b d=>by
    unfold Mp;dsimp only;split
    ·exact n6 _ b d
    ·exact n6 _ b d
   split
   ·exact k6 ⟨oo,trivial⟩ (P _ T j)
   ·exact P _ T j
  ·rw[if_neg (by grind)];unfold Vi;dsimp only;refine k6 ⟨oo,⟨by grind,by grind⟩,trivial⟩ ?_;rw[e3];have hu:(ByteArray.mk #[110]).size=1:=rfl;refine k6 ⟨rfl,by grind[vS],⟨by grind,by grind⟩,trivial⟩ (x6 ?_);rw[vS];refine k6 ⟨⟨by grind,by grind⟩,trivial⟩ (x6 ?_);dsimp only;unfold Vh;dsimp only;refine k6 ⟨oo,trivial⟩ (ih _ ⟨E,by omega,by grind,by grind,by grind,fun y f=>?_,fun y f=>?_⟩ (by omega))
   ·rcases List.mem_append.1 f with f | f
    ·grind
    ·rw[List.mem_singleton.1 f];exact⟨by simp,by grind,by
      have aA:(ByteArray.mk #[117]).size=1:=rfl;rw[ByteArray.size_append]; omega⟩
   grind
 ·rw[if_neg (by grind)];exact z0J (s:=(c,z,t)) o (by omega) i6 ⟨i4,by omega⟩ i7
end
theorem O0c{s:l5}{k:Int}(h:sd s)(a:0<=k)(b:k<=40):Mj (s,k,()):=⟨h,a,b⟩
theorem QU{s:l5}{k:Int}{b:Bool}(h:sd s)(a:2<=k)(e:k<=6):Fu (s,k,b,()):=⟨h,a,e⟩
theorem u0l{a:Type}{f:a->Nat}{y d:a}:∀{xs:List a} {i:Nat},i<xs.length->((xs.set i y).map f).sum+f (xs.getD i d)=(xs.map f).sum+f y
 | x :: r,0,_=>by grind
 | x :: r,i+1,h=>by
   have:=u0l (f:=f) (y:=y) (d:=d) (xs:=r) (i:=i) (by grind);simp only[List.set_cons_succ,List.map_cons,List.sum_cons,List.getD_cons_succ];omega
theorem E0v{d a:r6}(c:w7 (.sl y139) d.1 a.1)(e:w7 (.sl .str) d.2.1 a.2.1)(b:w7 (.sl y202) d.2.2 a.2.2):cnt y31 a=cnt y31 d :=
 Hy (.pr (.sl y139) (.pr (.sl .str) (.sl y202))) d a ⟨c,e,b⟩
theorem E0l{c:List Int}(d:wf (.sl (.int .u8)) c):∃s,LG c=some s/\Sd s:=by
 unfold LG;refine K4 (fun x=>(65-x.1).toNat) (fun x=>0<=x.1/\x.1<=64/\0<=x.2/\x.2<2147483647) ?_ ⟨by omega,by omega,by omega,by omega⟩ (by omega);rintro g ⟨i,x⟩ ⟨f,i2,i3,i4⟩ j;simp only at f i2 i3 i4;unfold G0V;dsimp only;split
 ·rename_i h;simp only[ba,dq] at h;have a:i.toNat<c.length:=by omega
  have e:0<=c.getD i.toNat 0/\c.getD i.toNat 0<=255:=by
   rw[gq,List.getElem?_eq_getElem a];exact d.2 _ (List.getElem_mem a)
  refine k6 ⟨oo,⟨f,h.1⟩,trivial,oo,by omega,trivial⟩ (k6 ⟨oo,trivial⟩ ?_);exact j _ ⟨by omega,by omega,Int.tmod_nonneg _ (by omega),Int.tmod_lt_of_pos _ (by omega)⟩ (by omega)
 ·exact⟨_,rfl,⟨⟨by grind,i3,i4⟩,d.1,fun b e=>d.2 b e⟩⟩
section
variable [Alw]
def N0q(w:x8):Prop:=(1<=w.1.length/\1<=w.2.1.length/\1<=w.2.2.1.length)/\cnt l6 w<=60
theorem I0H{s:l5}{a:Int}{j:Bool}(h:Sd s)(V:2<=a)(h1:a<=6):Qi s a j=some ():=by
 refine O2 ?_;obtain⟨⟨l,s0⟩,u,f,hl⟩:=I0i h;simp only at f hl u;unfold Qi;simp only[u,vS,Option.isSome_some];refine k6 ⟨trivial,trivial⟩ (x6 ?_);refine k6 ⟨trivial,f.1,V,h1⟩ (Ah ?_);rintro⟨d,H⟩ ⟨⟨t1,⟨t2,t3⟩,⟨t4,P⟩,⟨r,y⟩,X⟩,-,hz⟩;have n:Sd H:=BT hz t1;have E:WD d:=⟨⟨t2,t3⟩,y⟩;refine O2 (k6 trivial ?_);refine K4 (fun x=>(21-x.1).toNat) (fun x=>Sd (x.2.2.1,x.2.2.2.1,x.2.2.2.2)/\0<=x.1/\x.1<=20/\(x.2.1.length:Int)=x.1/\∀w∈x.2.1,N0q w) ?_ ⟨n,by omega,by omega,by simp,by simp⟩ (by omega);rintro g ⟨i,Y,c,aA,G⟩ ⟨o,i2,i3,i4,i5⟩ v;simp only at o i2 i3 i4 i5 t4 P r X;unfold G0r;dsimp only;by_cases cm:i < (d.2.1.length:Int)
 ·rw[if_pos (decide_eq_true cm)];obtain⟨k,W,hk⟩:=H0H (t:=i) E;simp only[W,vS,Option.isSome_some];refine k6 ⟨⟨trivial,trivial⟩,O0c o.1 (by omega) (by omega)⟩ (Ah ?_);rintro⟨w,s2⟩ ⟨⟨Q,w2,F,T,z⟩,-,q⟩;refine O2 (k6 ⟨⟨by grind,by grind⟩,trivial⟩ (k6 ⟨oo,trivial⟩ (x6 ?_)));refine v _ ⟨BT q Q,by omega,by omega,by grind,fun x b=>?_⟩ (by omega);rcases List.mem_append.1 b with b | b
  ·grind
  ·rw[List.mem_singleton.1 b];exact⟨⟨w2,F,T⟩,z⟩
 ·rw[if_neg (by grind)];unfold Vk;have hw:=CI (e:=l6) (m:=20) (k:=60) (xs:=Y) (by omega) (fun x b=>(i5 x b).2);refine k6 ⟨o.1,by grind,fun x b=>(i5 x b).1,r,?_⟩ ⟨_,rfl,trivial⟩
  grind[J1]
theorem QV{s:l5}{a:List x8}{d:r6}{l:List m4}(h:Sd s)(b:cnt (.sl y64) l+(cnt y31 d+cnt (.sl l6) a)<=20000) :
  ∃r,BJ (s.1,s.2.1,s.2.2,a,d.1,d.2.1,d.2.2,l)=some r/\True:=by
 unfold BJ;refine k6 ⟨h.1,?_⟩ ⟨_,rfl,trivial⟩
 grind[J1]
theorem I0N{s:l5}(h:Sd s):Qk s=some ():=by
 refine O2 ?_;obtain⟨v,s0,e0,aF,-,-,-⟩:=z8 (n:=3) h (by omega);unfold Qk;simp only[e0,vS,Option.isSome_some];refine k6 ⟨⟨trivial,trivial⟩,QU aF.1 (by omega) (by omega)⟩ (Ah ?_);rintro⟨⟨l,d,c⟩,s1⟩ ⟨⟨t1,t2,t3,t4,t5⟩,-,hz⟩;have aZ:Sd s1:=BT hz t1;simp only at t2 t3 t4 t5;refine O2 (k6 trivial ?_);have bB:c.length<=9223372036854775807:=by
  have G:cnt (.pr (.sl y64) (.pr y31 (.sl l6))) (l,d,c)<=10000:=t5;rw[J1,J1,AF (e:=l6)] at G;simp only at G;omega
 have hc:cnt (.sl y64) l+(cnt y31 d+cnt (.sl l6) c)<=10000:=by
  have G:cnt (.pr (.sl y64) (.pr y31 (.sl l6))) (l,d,c)<=10000:=t5;rw[J1,J1] at G;exact G
 obtain⟨k,s2,e2,aY,V,kb,-⟩:=z8 (n:=(c.length:Int)) aZ (by omega);have kb:=kb (by omega);obtain⟨q,X,e3,j,-,-,-⟩:=z8 (n:=20) aY (by omega);have aB:c8 (P3 ((l,d,c),s1)) (c.length:Int)=some (k,s2):=e2;dsimp only;simp only[aB,vS,Option.isSome_some];refine k6 ⟨trivial,trivial⟩ (x6 ?_);dsimp only;simp only[e3,vS,Option.isSome_some];refine k6 ⟨trivial,trivial⟩ (x6 ?_);dsimp only;have i:k.toNat<c.length:=by omega
 have bA:1<=(c.getD k.toNat (b7 l6)).1.length/\1<=(c.getD k.toNat (b7 l6)).2.1.length/\1<=(c.getD k.toNat (b7 l6)).2.2.1.length:=by
  rw[gq,List.getElem?_eq_getElem i];exact t3 _ (List.getElem_mem i)
 have aA:cnt l6 (c.getD k.toNat (b7 l6))<=10000:=by
  have:=C0f (t:=l6) (d:=b7 l6) i;rw[AF (e:=l6)] at hc;omega
 -- a number deep in the data has turned
 have H:∀(Q:l5) (c4:List Int) (T:r6) (w4:List x8) (l4:List m4),Sd Q->wf (.sl (.int .u8)) c4->w7 (.sl y139) d.1 T.1->w7 (.sl .str) d.2.1 T.2.1->w7 (.sl y202) d.2.2 T.2.2->w7 (.sl l6) c w4->w7 (.sl y64) l l4 ->
   ∃r,BJ (c4,Q.2.1,Q.2.2,w4,T.1,T.2.1,T.2.2,l4)=some r/\True:=fun Q c4 T w4 l4 q1 q2 q3 q4 q5 q6 q7 =>
  QV (s:=(c4,Q.2.1,Q.2.2)) ⟨q1.1,q2.1,fun b hb=>q2.2 b hb⟩ (by rw[Hy _ _ _ q7,E0v q3 q4 q5,Hy _ _ _ q6]; omega)
 have P:∀{Q:l5},Sd Q->wf (.sl (.int .u8)) Q.1:=fun q=>⟨q.2.1,fun b hb=>q.2.2 b hb⟩;split
 ·refine k6 ⟨⟨by omega,by omega,by omega⟩,trivial⟩ ?_;refine QV (s:=X) (d:=d) j ?_;have:cnt (.sl l6) (List.drop (Int.toNat (1:Int)) c)<=cnt (.sl l6) c:=by
   cases c with
   | nil=>simp
   | cons x r =>
     rw[AF,AF];simp only[show Int.toNat (1:Int)=1 from rfl,List.drop_succ_cons,List.drop_zero,List.map_cons,List.sum_cons,List.length_cons];omega
  omega
 split
 ·have bD:(c.getD k.toNat (b7 l6)).2.2.2.length<=10000:=by
   have G:cnt (.pr (.sl (.int .i64)) (.pr (.sl (.int .i64)) (.pr (.sl (.int .i64)) (.sl (.int .i64))))) (c.getD k.toNat (b7 l6))<=10000:=aA;rw[J1,J1,J1] at G;simp only[FH] at G;omega
  have aD:K1 (c.getD k.toNat (b7 l6)).2.2.2=some (c.getD k.toNat (b7 l6)).2.2.2:=by
   unfold K1;rw[gP ⟨oo,trivial⟩];rfl
  simp only[aD,vS,Option.isSome_some];refine k6 ⟨⟨⟨V,by omega⟩,i,trivial,⟨by rw[List.length_singleton]; omega,by rw[List.length_singleton]; omega⟩,⟨V,by omega⟩,trivial⟩,i,trivial⟩ ?_;refine QV (s:=X) (d:=d) j ?_;have Y:=u0l (f:=cnt l6) (d:=b7 l6) (y:=((c.getD k.toNat (b7 l6)).1,(c.getD k.toNat (b7 l6)).2.1,(c.getD k.toNat (b7 l6)).2.2.1,(c.getD k.toNat (b7 l6)).2.2.2++[0])) i;have W:cnt l6 ((c.getD k.toNat (b7 l6)).1,(c.getD k.toNat (b7 l6)).2.1,(c.getD k.toNat (b7 l6)).2.2.1,(c.getD k.toNat (b7 l6)).2.2.2++[0])=cnt l6 (c.getD k.toNat (b7 l6))+1:=by
   generalize c.getD k.toNat (b7 l6)=w;show cnt (.pr (.sl (.int .i64)) (.pr (.sl (.int .i64)) (.pr (.sl (.int .i64)) (.sl (.int .i64))))) _=cnt (.pr (.sl (.int .i64)) (.pr (.sl (.int .i64)) (.pr (.sl (.int .i64)) (.sl (.int .i64))))) w+1;simp only[J1,FH,List.length_append,List.length_singleton];omega
  rw[W] at Y;rw[AF (e:=l6),List.length_set];rw[AF (e:=l6)] at hc;omega
 split
 ·refine k6 ⟨⟨V,by omega⟩,i,oo,trivial⟩ (Ah ?_);rintro⟨v3,v4,v5,v6,v7,v8,v9,aJ⟩ ⟨-,-,E,m,z,u,o,g⟩;refine O2 (k6 trivial ?_);exact H X v5 (v6,v7,v8) v9 aJ j (E.2 (P j)) m.1 z.1 u.1 o g
 split
 ·obtain⟨q5,s5,e5,F,qa,qb,-⟩:=z8 (n:=3) j (by omega);have qb:=qb (by omega);simp only[e5,vS,Option.isSome_some];refine k6 ⟨⟨V,by omega⟩,i,trivial,⟨by omega,by simp; omega⟩,by simp; omega,oo,trivial⟩ (Ah ?_);rintro⟨bG,bF,aS,bK,aU,aR,aO,aK,aH⟩ ⟨-,-,E,-,m,z,u,o,g⟩;refine O2 (k6 trivial ?_);exact H s5 aS (aU,aR,aO) aK aH F (E.2 (P F)) m.1 z.1 u.1 o g
 split
 ·obtain⟨q5,s5,e5,F,qa,qb,-⟩:=z8 (n:=5) j (by omega);have qb:=qb (by omega);have hP:(c.getD k.toNat (b7 l6)).1.length<=10000:=by
   have G:cnt (.pr (.sl (.int .i64)) (.pr (.sl (.int .i64)) (.pr (.sl (.int .i64)) (.sl (.int .i64))))) (c.getD k.toNat (b7 l6))<=10000:=aA;rw[J1,J1,J1] at G;simp only[FH] at G;omega
  simp only[e5,vS,Option.isSome_some];refine k6 ⟨⟨V,by omega⟩,i,⟨V,by omega⟩,i,oo,trivial,oo,oo,trivial⟩ (Ah ?_);rintro⟨bH,bM,bL,aX,bJ,aC,aI,aV,aT,aG⟩ ⟨-,-,-,E,-,m,z,u,o,g⟩;refine O2 (k6 trivial ?_);exact H s5 aX (aC,aI,aV) aT aG F (E.2 (P F)) m.1 z.1 u.1 o g
 split
 ·refine k6 ⟨oo,trivial⟩ (Ah ?_);rintro⟨bE,bI,bC,aN,aW,aP,aQ,aM,aL⟩ ⟨-,-,-,E,m,z,u,o,g⟩;refine O2 (k6 trivial ?_);exact H X aN (aW,aP,aQ) aM aL j (E.2 (P j)) m.1 z.1 u.1 o g
 ·exact QV (s:=X) (d:=d) j (by omega)
theorem L0q:Vc:=R0z fun _ b a=>C0l (BT b.1 a.1) a.2.1 a.2.2
theorem L0r:Vg:=R0A fun _ b a=>I0v (BT b.1 a.1) a.2.1 a.2.2
theorem WG:Mq:=e61 L0q L0r fun _ b a=>I0H (BT b.1 a.1) a.2.1 a.2.2
theorem L0s:Vm:=R0B WG fun _ a b=>I0N (BT a.1 b)
theorem r0h{v:Int}{s:l5}{b:Bool}(h:Sd s):∃r,Ms (v,s) b=some r/\True:=by
 unfold Ms;dsimp only;split
 ·refine k6 ⟨trivial,QU h.1 (by omega) (by omega)⟩ (Ah ?_);rintro⟨b,e⟩ ⟨⟨c,g,f,d,a⟩,-,hz⟩;exact O2 (k6 trivial (k6 ⟨c,Nat.le_trans a (by decide)⟩ ⟨_,rfl,trivial⟩))
 ·refine k6 ⟨trivial,QU h.1 (by omega) (by omega)⟩ (Ah ?_);rintro⟨b,e⟩ ⟨⟨c,g,f,d,a⟩,-,hz⟩;exact O2 (k6 trivial (k6 ⟨c,Nat.le_trans a (by decide)⟩ ⟨_,rfl,trivial⟩))
theorem E0L{s:l5}(h:Sd s):Qn s=some ():=by
 refine O2 ?_;obtain⟨v,g,c,a,-,-,-⟩:=z8 (n:=12) h (by omega);unfold Qn;simp only[c,vS,Option.isSome_some];refine k6 ⟨trivial,trivial⟩ (x6 ?_);dsimp only;split
 ·refine k6 ⟨trivial,a.1⟩ (Ah ?_);rintro⟨b,f⟩ ⟨⟨e,d⟩,-,hz⟩;exact O2 (k6 trivial (k6 ⟨e,d⟩ ⟨_,rfl,trivial⟩))
 ·split
  ·exact r0h a
  ·exact r0h a
theorem P0k:Vn:=e58 WG L0s fun _ a b=>E0L (BT a.1 b)
end
theorem w0c(pl:Nat->A9)(t:Int):∀m,0<m->U4 pl t m<m
 | 1,_=>by
   have e:U4 pl t 1=if((pl 0).2.2.1==t&&(pl 0).2.2.2)=true then((0:Nat):Int) else 0:=rfl
   rw[e];split <;> simp
 | m+2,_=>by
   have e:U4 pl t (m+2)=if((pl (m+1)).2.2.1==t&&(pl (m+1)).2.2.2)=true then((m+1:Nat):Int) else U4 pl t (m+1):=rfl
   have:=w0c pl t (m+1) (by omega);rw[e];split <;> omega
theorem s0h{b:j7}(v:p7 b=true){l:w6}(h:l∈lV b):0<=l.1/\l.1<2*((p6 b.2.1).length:Int)/\0<=l.2.1/\l.2.1<2*((p6 b.2.1).length:Int):=by
 obtain⟨r,n,_⟩:=U5 v;have w:=R9 r;rcases Wi h with ⟨i,j,t,hi,s,m,rfl⟩ | ⟨i,k,t,hi,hk,m,rfl⟩
 ·obtain⟨Y,x,T⟩:=FB w hi;obtain⟨X,F,E,o⟩:=Dw x;obtain⟨V,W,a3,Q⟩:=o j s;obtain⟨A,y⟩:∃A:Nat,(m8 (w8 b i) j).2.1=(A:Int):=⟨(m8 (w8 b i) j).2.1.toNat,by omega⟩;obtain⟨B,u⟩:∃B:Nat,(m8 (w8 b i) j).2.2.1=(B:Int):=⟨(m8 (w8 b i) j).2.2.1.toNat,by omega⟩;have c:A < (m5 b.2.1 i).2.2.length:=by omega
  have f:B < (m5 b.2.1 i).2.2.length:=by omega
  have lA:x9 (m5 b.2.1) i+A < (p6 b.2.1).length:=by
   have:=MN (m5 b.2.1) hi c;unfold p6;rw[Jp]; omega
  have G:x9 (m5 b.2.1) i+B < (p6 b.2.1).length:=by
   have:=MN (m5 b.2.1) hi f;unfold p6;rw[Jp]; omega
  have tr:=(Qw _ _).2 _ (F0 (d:=(0,0)) m);have e:(Hk (x9 (m5 b.2.1) i:Int) (m8 (w8 b i) j) j t).1=2*((x9 (m5 b.2.1) i:Int)+(A:Int))+((I7 (m8 (w8 b i) j).1 (m8 (w8 b i) j).2.2.2.1).getD t (0,0)).1:=by
   rw[<- y]; rfl
  have a:(Hk (x9 (m5 b.2.1) i:Int) (m8 (w8 b i) j) j t).2.1=2*((x9 (m5 b.2.1) i:Int)+(B:Int))+((I7 (m8 (w8 b i) j).1 (m8 (w8 b i) j).2.2.2.1).getD t (0,0)).2:=by
   rw[<- u]; rfl
  rw[e,a];omega
 ·obtain⟨q,g,H,h3,_⟩:=MB (s9 b.2.1) i (p6 b.2.1).length _ (F0 (d:=0) hk);have g:(x7 b.2.1 i).getD k 0=(q:Int):=g;have z:=(VG (s9 b.2.1) i (p6 b.2.1).length).1;have P:=w0c (s9 b.2.1) i (p6 b.2.1).length (by omega);have e:(Dy (I8 b i) ((x7 b.2.1 i).getD k 0) k t).1=2*U4 (s9 b.2.1) i (p6 b.2.1).length+(t:Int):=rfl;have a:(Dy (I8 b i) ((x7 b.2.1 i).getD k 0) k t).2.1=2*(q:Int)+(t:Int):=by
   rw[<- g]; rfl
  rw[e,a];omega
section
variable (b:j7)
def j6:Nat:=2*(p6 b.2.1).length
def o6(i:Nat):Nat:=((lV b).getD i (b7 y80)).1.toNat
def o8(i:Nat):Nat:=((lV b).getD i (b7 y80)).2.1.toNat
theorem M8(a:p7 b=true){i:Nat}(hi:i < (lV b).length):((lV b).getD i (b7 y80)).1=(o6 b i:Int)/\((lV b).getD i (b7 y80)).2.1=(o8 b i:Int)/\o6 b i<j6 b/\o8 b i<j6 b:=by
 obtain⟨g,e,f,c⟩:=s0h a (F0 (d:=b7 y80) hi);unfold o6 o8 j6;omega
theorem AG(a:p7 b=true):j6 b<=1000000:=by
 have c:=(R9 (U5 a).1).len;unfold j6;omega
theorem WH(a:p7 b=true):Q8 (o3 b)=some (j6 b:Int):=by
 have c:=(R9 (U5 a).1).len;have e:∀s:List B8,KZ s=some (s.length:Int):=fun _=>rfl;unfold Q8;rw[e,vS,gP ⟨rfl,⟨by show _<=2*((p6 b.2.1).length:Int); omega,by show 2*((p6 b.2.1).length:Int)<=_; omega⟩,trivial⟩,lE];unfold j6;rw[Int.natCast_mul];rfl
theorem WI(d:wf l9 b)(c:p7 b=true):X8 b=some (j6 b:Int):=by
 have a:=R9 (U5 c).1;have e:=a.len;unfold X8;rw[Dv b.2.1 d.2.1 a.fac.ni14 a.fac.np8 a.pin,vS,gP ⟨rfl,⟨by show _<=2*((p6 b.2.1).length:Int); omega,by show 2*((p6 b.2.1).length:Int)<=_; omega⟩,trivial⟩,lE];unfold j6;rw[Int.natCast_mul];rfl
end
def C9(l:List Int)(x:Int):Bool:=(List.range l.length).any fun j=>l.getD j 0==x
theorem WJ(l:List Int)(x:Int)(b:l.length<=9223372036854775807):T5 l x=some (C9 l x):=by
 have a:=H5 b (fun j=>l.getD j 0==x) (some true) (e:=some false) (F:=Zm l x) (fun g i hi=>by
  have c:((i:Int)).toNat=i:=rfl;refine(if_pos (decide_eq_true (by omega))).trans ((gP ⟨oo,trivial⟩).trans ?_);rw[c];by_cases h:(l.getD i 0==x)=true
  ·rw[if_pos h,if_pos h]
  ·rw[if_neg h,if_neg h];exact gP ⟨oo,trivial⟩) (fun g=>if_neg (by simp))
 refine a.trans ?_;unfold C9;cases(List.range l.length).any fun j=>l.getD j 0==x <;> rfl
def D4(M:Nat)(br:List Int):List Bool:=fN (AA fun k=>!C9 br (k:Int)) M []
theorem WK(a:List l7)(br:List Int)(e:a.length<=1048576)(d:br.length<=1048576):AZ a br=some (D4 a.length br):=by
 refine(lF (n:=a.length) (by omega) (fun i (s:List Bool)=>((i:Int),s)) (AA fun k=>!C9 br (k:Int)) (fun i s=>s.length=i) (J:=fun s=>some s) (F:=Zp br a) (fun g i s hi b=>?_) (fun i s _ b=>by show(s++[_]).length=_; simp[b]) (fun g s _=>if_neg (by simp)) [] rfl).trans rfl;have c:((i:Int)).toNat=i:=rfl;refine(if_pos (decide_eq_true (by omega))).trans ?_;rw[WJ br _ (by omega),vS];refine(gP ⟨rfl,⟨by simp only[List.length_singleton]; omega,by simp only[List.length_singleton]; omega⟩,trivial⟩).trans ?_;exact gP ⟨oo,trivial⟩
def AH(M:Nat)(br:List Int):Bool:=br.all (m0 · 0 ((M:Int)-1))&&Dr br
theorem E0d:Cu []=some true:=by
 unfold Cu;refine D0S (fun n a=>?_);obtain⟨m,rfl⟩:∃m,n=m+1:=⟨n-1,by omega⟩;rfl
theorem K0I(xs:List Int)(h:xs.length<=9223372036854775807):Cu xs=some (Dr xs):=by
 cases xs with
 | nil=>exact E0d
 | cons x r=>exact VK _ h (by simp)
theorem r65{b:j7}(a:p7 b=true)(br:List Int)(h:br.length<=1048576):IL (o3 b) br=some (AH (lV b).length br):=by
 have c:=P6 a;have e:GN (o3 b).2.2.1=some ((lV b).length:Int):=rfl;unfold IL;rw[e,vS,Hg br 0 _ (by omega),vS,K0I br (by omega),vS,gP ⟨rfl,oo,rfl,(fun _=>rfl),trivial⟩];rfl
theorem M0g(M:Nat)(br:List Int)(o:M<=1048576)(h:br.length<=1048576):OJ br (M:Int)=some (AH M br):=by
 have b:=H5 (n:=br.length) (by omega) (fun i=>!m0 (br.getD i 0) 0 ((M:Int)-1)||(decide (0<i)&&decide (br.getD i 0<=br.getD (i-1) 0))) (some false) (e:=some true) (F:=ZH br (M:Int)) (fun g i hi=>by
  have f:((i:Int)).toNat=i:=rfl;have d:((i:Int)-1).toNat=i-1:=by omega
  refine(if_pos (decide_eq_true (by omega))).trans ?_;rw[R7,vS,f,d];refine(gP ⟨oo,oo,rfl,(fun a=>oo),(fun a=>⟨by have:=of_decide_eq_true a.1; omega,by omega⟩),(fun _=>oo),trivial⟩).trans ?_;have l:decide ((0:Int) < (i:Int))=decide (0<i):=by
   rw[decide_eq_decide]; omega
  rw[l];by_cases a:(!m0 (br.getD i 0) 0 ((M:Int)-1)||(decide (0<i)&&decide (br.getD i 0<=br.getD (i-1) 0)))=true
  ·rw[if_pos a,if_pos a]
  ·rw[if_neg a,if_neg a];exact gP ⟨oo,trivial⟩) (fun g=>if_neg (by simp))
 refine b.trans ?_;have e:AH M br=!((List.range br.length).any fun i=>!m0 (br.getD i 0) 0 ((M:Int)-1)||(decide (0<i)&&decide (br.getD i 0<=br.getD (i-1) 0))):=by
  unfold AH Dr;rw[Bool.eq_iff_iff];simp only[ba,Bool.not_eq_true',<- Bool.not_eq_true,List.any_eq_true,List.all_eq_true,List.mem_range,Bool.or_eq_true];constructor
  ·rintro⟨k,j⟩ ⟨i,hi,a⟩;rcases a with a | a
   ·exact a (k _ (F0 hi))
   ·exact j ⟨i,hi,a⟩
  ·intro c;refine⟨fun x m=>?_,fun⟨i,hi,a⟩=>c ⟨i,hi,.inr a⟩⟩;obtain⟨i,hi,rfl⟩:=List.getElem_of_mem m;by_cases a:m0 br[i] 0 ((M:Int)-1)=true
   ·exact a
   ·refine(c ⟨i,hi,.inl ?_⟩).elim;rw[gq,List.getElem?_eq_getElem hi];exact a
 rw[e];cases(List.range br.length).any fun i=>!m0 (br.getD i 0) 0 ((M:Int)-1)||(decide (0<i)&&decide (br.getD i 0<=br.getD (i-1) 0)) <;> rfl
theorem WL{a:Type}(g:a->Nat->a)(l:List Nat)(s:a):fN (fun i s=>g s (l.getD i 0)) l.length s=l.foldl g s:=by
 have b:∀n,n<=l.length->fN (fun i s=>g s (l.getD i 0)) n s=(l.take n).foldl g s:=by
  intro n
  induction n with
  | zero=>intro _; rfl
  | succ n c =>
    intro d;have e:l.take (n+1)=l.take n++[l.getD n 0]:=by
     rw[List.take_add_one,gq,List.getElem?_eq_getElem (by omega)];rfl
    rw[e,List.foldl_append,<- c (by omega)];rfl
 have:=b l.length (Nat.le_refl _)
 rwa [List.take_length] at this
theorem D0i(M:Nat):∀m,m<=M->(fN (fun i (s:List Bool)=>s.set i true) m (List.replicate M false)).length=M/\∀k,k<m->(fN (fun i (s:List Bool)=>s.set i true) m (List.replicate M false)).getD k false=true:=by
 intro m
 induction m with
 | zero=>exact fun _=>⟨List.length_replicate,fun k a=>by omega⟩
 | succ m b =>
   intro c;obtain⟨e,d⟩:=b (by omega);refine⟨by show(List.set _ _ _).length=M; grind,fun k a=>?_⟩;show(List.set _ _ _).getD k false=true;rw[Jv _ (by omega)]
   grind
theorem E0K(br:List Int)(s:List Bool):∀m,(∀j,j<m->(br.getD j 0).toNat<s.length)->(fN (fun i (s:List Bool)=>s.set (br.getD i 0).toNat false) m s).length=s.length/\∀k,(fN (fun i (s:List Bool)=>s.set (br.getD i 0).toNat false) m s).getD k false=(s.getD k false&&!(List.range m).any fun j=>(br.getD j 0).toNat==k):=by
 intro m
 induction m with
 | zero=>exact fun _=>⟨rfl,fun k=>by show s.getD k false=_; simp⟩
 | succ m b =>
   intro a;obtain⟨e,c⟩:=b (fun j d=>a j (by omega));refine⟨by show(List.set _ _ _).length=_; grind,fun k=>?_⟩;show(List.set _ _ _).getD k false=_
   grind
def H6(p:Nat->Bool)(M:Nat):List Int:=((List.range M).filter p).map fun i:Nat=>(i:Int)
theorem FK(p:Nat->Bool):∀m,fN (fun i (s:List Int)=>if p i=true then s++[(i:Int)] else s) m []=H6 p m
 | 0=>rfl
 | m+1=>by
   show(if p m=true then fN _ m []++[(m:Int)] else fN _ m [])=_;rw[FK p m];unfold H6;rw[List.range_succ,List.filter_append,List.map_append]
   grind
theorem FL(p:Nat->Bool)(M:Nat):(H6 p M).length<=M/\(H6 p M).length=((List.range M).filter p).length:=by
 unfold H6
 grind
theorem WM(p:Nat->Bool)(M i:Nat):(H6 p M).getD i 0=((((List.range M).filter p).getD i 0:Nat):Int):=by
 grind[H6,List.range]
theorem Nh{p:Nat->Bool}{M i:Nat}(h:i < ((List.range M).filter p).length):((List.range M).filter p).getD i 0<M:=by
 grind[F0]
def W9(o:Option (List Nat)):List Int×Bool:=match o with
 | none=>([],false)
 | some l=>(l.map (fun v:Nat=>(v:Int)),true)
section
variable {b:j7}
theorem r67(t:p7 b=true){br:List Int}(a:AH (lV b).length br=true)(w:br.length<=1048576):LP (o3 b) br=some (o3 b,D4 (lV b).length br):=by
 have v:=P6 t;have a:=a;unfold AH at a;rw[ba] at a;have c:∀j,j<br.length->0<=br.getD j 0/\br.getD j 0 < ((lV b).length:Int):=fun j m=>by
  grind[y9,Jg]
 obtain⟨f,u⟩:=D0i (lV b).length (lV b).length (Nat.le_refl _);obtain⟨o,q⟩:=E0K br (fN (fun i (s:List Bool)=>s.set i true) (lV b).length (List.replicate (lV b).length false)) br.length (fun j m=>by
  have:=c j m;omega)
 have h:fN (fun i (s:List Bool)=>s.set (br.getD i 0).toNat false) br.length (fN (fun i (s:List Bool)=>s.set i true) (lV b).length (List.replicate (lV b).length false))=D4 (lV b).length br:=by
  refine Jw false (by rw[o,f]; exact(Fz _ _).symm) (fun k d=>?_);have d:k < (lV b).length:=by rw[o,f] at d; exact d
  rw[q,u k d,Bool.true_and];refine Eq.trans ?_ (MD (fun k=>!C9 br (k:Int)) false _ k d).symm;congr 1;unfold C9;rw[Bool.eq_iff_iff,List.any_eq_true,List.any_eq_true];constructor
  ·grind
  ·grind
 unfold LP;have r:((o3 b).2.2.1.length:Int)=((lV b).length:Int):=rfl;rw[r,Int.toNat_natCast];refine(gP ⟨⟨by omega,rfl,by omega,by omega⟩,trivial⟩).trans ?_;rw[lE,List.length_replicate];refine(lF (n:=(lV b).length) (by omega) (fun i (s:List Bool)=>((i:Int),s)) (fun i s=>s.set i true) (fun _ s=>s.length=(lV b).length) (J:=fun s=>LO br (o3 b) s) (F:=G0g br (o3 b) ((lV b).length:Int)) (fun g i s hi e=>?_) (fun i s _ e=>by grind) (fun g s _=>if_neg (by simp)) (List.replicate (lV b).length false) List.length_replicate).trans ?_
 ·have l:((i:Int)).toNat=i:=rfl;refine(if_pos (decide_eq_true (by omega))).trans ?_;refine(gP ⟨oo,by omega,trivial⟩).trans ?_;exact gP ⟨oo,trivial⟩
 ·show LO br (o3 b) _=_;rw[LO];refine(lF (n:=br.length) (by omega) (fun i (s:List Bool)=>((i:Int),s)) (fun i s=>s.set (br.getD i 0).toNat false) (fun _ s=>s.length=(lV b).length) (J:=fun s=>some (o3 b,s)) (F:=G0f br (o3 b)) (fun g i s hi e=>?_) (fun i s _ e=>by grind) (fun g s _=>if_neg (by simp)) _ f).trans ?_
  ·have l:((i:Int)).toNat=i:=rfl;have:=c i hi;refine(if_pos (decide_eq_true (by omega))).trans ?_;refine(gP ⟨oo,trivial⟩).trans ?_;rw[l];refine(gP ⟨oo,by omega,trivial⟩).trans ?_;exact gP ⟨oo,trivial⟩
  grind
theorem K0G(d:p7 b=true){lv:List Bool}(e:lv.length=(lV b).length):PL (o3 b,lv)=some (H6 (fun i=>lv.getD i false) (lV b).length):=by
 have f:=P6 d;refine(lF (n:=(lV b).length) (by omega) (fun i (s:List Int)=>(s,(i:Int))) (fun i s=>if lv.getD i false=true then s++[(i:Int)] else s) (fun i s=>s.length<=i) (J:=fun s=>some s) (F:=j0W (o3 b,lv)) (fun g i s hi c=>?_) (fun i s _ c=>?_) (fun g s _=>if_neg (by simp[o3])) [] (Nat.le_refl _)).trans (congrArg some (FK _ _))
 ·have j:((i:Int)).toNat=i:=rfl;have a:ix (i:Int) (o3 b).2.2.1.length:=⟨by omega,by show(i:Int) < ((lV b).length:Int); omega⟩;refine(if_pos (decide_eq_true a.2)).trans ((gP ⟨a,trivial⟩).trans ?_);rw[lE];refine(gP ⟨⟨by omega,by grind⟩,(fun _=>rfl),trivial⟩).trans ?_;show(if(lv.getD i false&&true)=true then _ else _)=_;rw[Bool.and_true];by_cases h:lv.getD i false=true
  ·rw[if_pos h,if_pos h];refine(gP ⟨⟨by grind,by grind⟩,trivial⟩).trans ?_;exact gP ⟨oo,trivial⟩
  ·rw[if_neg h,if_neg h];exact gP ⟨oo,trivial⟩
 grind
theorem K0H(c:p7 b=true){lv:List Bool}(j:lv.length=(lV b).length)(a:Nat):PI (o3 b,lv) (a:Int)=some (H6 (fun i=>lv.getD i false&&o6 b i==a) (lV b).length):=by
 have l:=P6 c;refine(lF (n:=(lV b).length) (by omega) (fun i (s:List Int)=>(s,(i:Int))) (fun i s=>if(lv.getD i false&&o6 b i==a)=true then s++[(i:Int)] else s) (fun i s=>s.length<=i) (J:=fun s=>some s) (F:=j0S (o3 b,lv) (a:Int)) (fun g i s hi e=>?_) (fun i s _ e=>?_) (fun g s _=>if_neg (by simp[o3])) [] (Nat.le_refl _)).trans (congrArg some (FK _ _))
 ·have m:((i:Int)).toNat=i:=rfl;have d:ix (i:Int) (o3 b).2.2.1.length:=⟨by omega,by show(i:Int) < ((lV b).length:Int); omega⟩;refine(if_pos (decide_eq_true d.2)).trans ((gP ⟨d,trivial⟩).trans ?_);rw[lE];refine(gP ⟨⟨by omega,by show(i:Int) < (lv.length:Int); omega⟩,(fun _=>rfl),trivial⟩).trans ?_;obtain⟨k,_⟩:=M8 b c hi;have f:(((lV b).getD i (b7 y80)).1==(a:Int))=(o6 b i==a):=by
   rw[k,Bool.eq_iff_iff,beq_iff_eq,beq_iff_eq]; omega
  show(if(lv.getD i false&&(((lV b).getD i (b7 y80)).1==(a:Int)))=true then _ else _)=_;rw[f];by_cases h:(lv.getD i false&&o6 b i==a)=true
  ·rw[if_pos h,if_pos h];refine(gP ⟨⟨by grind,by grind⟩,trivial⟩).trans ?_;exact gP ⟨oo,trivial⟩
  ·rw[if_neg h,if_neg h];exact gP ⟨oo,trivial⟩
 grind
theorem N0Z(d:p7 b=true){lv:List Bool}(c:lv.length=(lV b).length)(a:Nat):GQ (o3 b,lv) (a:Int)=some (H6 (fun i=>lv.getD i false&&o6 b i==a) (lV b).length):=by
 unfold GQ;rw[K0H d c,vS,gP ⟨rfl,trivial⟩,lE]
theorem O0a(o:List Int)(h:o.length<=9223372036854775807):PK o 0=some (match(List.range o.length).find? (fun v=>(0:Int)==o.getD v 0) with | some v=>(v:Int) | none => -1):=by
 have a:=Jz h (fun v=>(0:Int)==o.getD v 0) (fun v=>some (v:Int)) (e:=some (-1)) (F:=B0n 0 o) 0 (Nat.zero_le _) (fun g i _ hi=>by
  have c:((i:Int)).toNat=i:=rfl;refine(if_pos (decide_eq_true (by omega))).trans ((gP ⟨oo,trivial⟩).trans ?_);rw[c];by_cases b:((0:Int)==o.getD i 0)=true
  ·simp_all
  ·rw[if_neg b,if_neg b];exact gP ⟨oo,trivial⟩) (fun g=>if_neg (by simp))
 rw[Nat.sub_zero,<- List.range_eq_range'] at a;refine Eq.trans a ?_
 grind
end
section
variable {b:j7}
theorem u0y{o:List Int}{i N:Nat}{x:Int}(h:o.length=N):(o.set i x).length=N:=by grind
theorem K0y(d:p7 b=true){lv:List Bool}{p:Nat->Bool}:lp (UG (o3 b,lv) (H6 p (lV b).length)) (0,List.replicate (j6 b) 0)=LQ (o3 b,lv) (((List.range (lV b).length).filter p).foldl (FE (o8 b)) (List.replicate (j6 b) 0)):=by
 have y:=P6 d;obtain⟨E,m⟩:=FL p (lV b).length;rw[<- WL,<- m];refine lF (n:=(H6 p (lV b).length).length) (by omega) (fun i (s:List Int)=>((i:Int),s)) (fun i o=>FE (o8 b) o (((List.range (lV b).length).filter p).getD i 0)) (fun i o=>o.length=j6 b/\∀v,0<=o.getD v 0/\o.getD v 0<=(i:Int)) (J:=fun s=>LQ (o3 b,lv) s) (F:=UG (o3 b,lv) (H6 p (lV b).length)) (fun g i o hi c=>?_) (fun i o hi c=>?_) (fun g s _=>if_neg (by simp)) _ ⟨List.length_replicate,fun v=>?_⟩
 ·have l:((i:Int)).toNat=i:=rfl;obtain⟨h,e⟩:=c;have a:=Nh (p:=p) (M:=(lV b).length) (i:=i) (by omega);refine(if_pos (decide_eq_true (by omega))).trans ?_;refine(gP ⟨oo,by omega,trivial⟩).trans ?_;rw[l,WM];generalize ((List.range (lV b).length).filter p).getD i 0=k at a;have x:Int.toNat ((k:Nat):Int)=k:=rfl;obtain⟨w,f,r,u⟩:=M8 b d a;have t:ix ((k:Nat):Int) (o3 b).2.2.1.length:=⟨by omega,by show((k:Nat):Int) < ((lV b).length:Int); omega⟩;have z:=e (o8 b k);have q:((o3 b).2.2.1.getD (Int.toNat ((k:Nat):Int)) (b7 y80)).2.1=(o8 b k:Int):=f;have j:Int.toNat ((o8 b k:Nat):Int)=o8 b k:=rfl;rw[q,j];refine(gP ⟨t,oo,by omega,oo,oo,by omega,trivial⟩).trans ?_;rw[lE];exact gP ⟨oo,trivial⟩
 ·obtain⟨h,e⟩:=c;have a:=Nh (p:=p) (M:=(lV b).length) (i:=i) (by omega);obtain⟨w,f,r,u⟩:=M8 b d a;refine⟨u0y h,fun v=>?_⟩
  grind[FE,MX,o8,List.range,lV]
 grind
theorem K0x(f:p7 b=true){lv:List Bool}{p:Nat->Bool}{n:Int}{l:List Int}{v:Int}{a:List Int×Int×List Int->Option (List Int×Bool)}{o:List Int}{A:Int}(H:0<=A)(q:A<=1000000000000)(ol:o.length=j6 b)(r:∀w,w<j6 b -> -A<=o.getD w 0/\o.getD w 0<=A):lp (PN (o3 b,lv) (H6 p (lV b).length) n l v a) (0,o)=PM n a (l++[v],((List.range (lV b).length).filter p).foldl (Hv (o8 b)) o):=by
 have G:=P6 f;obtain⟨z,u⟩:=FL p (lV b).length;rw[<- WL,<- u];refine lF (n:=(H6 p (lV b).length).length) (by omega) (fun i (s:List Int)=>((i:Int),s)) (fun i o=>Hv (o8 b) o (((List.range (lV b).length).filter p).getD i 0)) (fun i o=>o.length=j6 b/\∀w,w<j6 b -> -A-(i:Int)<=o.getD w 0/\o.getD w 0<=A) (J:=fun s=>PM n a (l++[v],s)) (F:=PN (o3 b,lv) (H6 p (lV b).length) n l v a) (fun g i o hi d=>?_) (fun i o hi d=>?_) (fun g s _=>if_neg (by simp)) _ ⟨ol,fun w P=>by grind⟩
 ·have h:((i:Int)).toNat=i:=rfl;obtain⟨ol,e⟩:=d;have c:=Nh (p:=p) (M:=(lV b).length) (i:=i) (by omega);refine(if_pos (decide_eq_true (by omega))).trans ?_;refine(gP ⟨oo,by omega,trivial⟩).trans ?_;rw[h,WM];generalize ((List.range (lV b).length).filter p).getD i 0=k at c;obtain⟨E,j,Q,x⟩:=M8 b f c;have m:ix ((k:Nat):Int) (o3 b).2.2.1.length:=⟨by omega,by show((k:Nat):Int) < ((lV b).length:Int); omega⟩;have T:=e (o8 b k) x;have y:((o3 b).2.2.1.getD (Int.toNat ((k:Nat):Int)) (b7 y80)).2.1=(o8 b k:Int):=j;have t:Int.toNat ((o8 b k:Nat):Int)=o8 b k:=rfl;rw[y,t];refine(gP ⟨m,oo,by omega,oo,oo,by omega,trivial⟩).trans ?_;rw[lE];exact gP ⟨oo,trivial⟩
 ·obtain⟨ol,e⟩:=d;have c:=Nh (p:=p) (M:=(lV b).length) (i:=i) (by omega)
  grind[Hv]
def O9(b:j7)(lv:List Bool)(out:List Nat)(k:Nat):Option (List Nat):=AD (lV b).length (j6 b) (o6 b) (o8 b) (fun i=>lv.getD i false) k out
theorem WN(M N:Nat)(fr to:Nat->Nat)(lv:Nat->Bool)(k:Nat)(a:List Nat):AD M N fr to lv (k+1) a=match M6 M N fr to lv a with | none=>none | some v=>AD M N fr to lv k (a++[v]):=rfl
theorem r68(d:p7 b=true){lv:List Bool}(f:lv.length=(lV b).length):LR (o3 b,lv)=some (W9 (O9 b lv [] (j6 b))):=by
 have E:=P6 d;have z:=AG b d;have m:∀i,i < (lV b).length->o8 b i<j6 b:=fun i hi=>(M8 b d hi).2.2.2;unfold LR;rw[WH b d,vS,gP ⟨rfl,⟨by omega,rfl,by omega,by omega⟩,trivial⟩,lE,K0G d f,vS,gP ⟨rfl,trivial⟩,lE,Int.toNat_natCast,K0y d];have r:((List.range (lV b).length).filter fun i=>lv.getD i false).foldl (FE (o8 b)) (List.replicate (j6 b) 0)=CG (lV b).length (j6 b) (o6 b) (o8 b) (fun i=>lv.getD i false) []:=rfl;rw[r];have j:(CG (lV b).length (j6 b) (o6 b) (o8 b) (fun i=>lv.getD i false) []).length=j6 b:=(B0N (fr:=o6 b) m).len;generalize hv6:CG (lV b).length (j6 b) (o6 b) (o8 b) (fun i=>lv.getD i false) []=v6 at j;rw[LQ];have t:=Ni (n:=j6 b) (by omega) (fun i (a:List Nat)=>(a.map (fun v:Nat=>(v:Int)),(i:Int),CG (lV b).length (j6 b) (o6 b) (o8 b) (fun i=>lv.getD i false) a))
  (fun _ a=>(M6 (lV b).length (j6 b) (o6 b) (o8 b) (fun i=>lv.getD i false) a).map fun v=>a++[v]) (fun _ _=>some ([],false))
  (fun i a=>a.length=i/\MY (lV b).length (j6 b) (o6 b) (o8 b) (fun i=>lv.getD i false) a (CG (lV b).length (j6 b) (o6 b) (o8 b) (fun i=>lv.getD i false) a))
  (J:=fun a=>some (a.map (fun v:Nat=>(v:Int)),true)) (F:=G0d (o3 b,lv) v6)
  (fun g i a hi h=>by
    obtain⟨u,c⟩:=h;have x:((i:Int)).toNat=i:=rfl;refine(if_pos (decide_eq_true (by omega))).trans ?_;rw[O0a _ (by rw[c.len]; omega),v0b c,vS];refine(gP ⟨rfl,trivial⟩).trans ?_;rw[lE];cases hn:M6 (lV b).length (j6 b) (o6 b) (o8 b) (fun i=>lv.getD i false) a with
    | none=>rfl
    | some v =>
      obtain⟨q,P⟩:=MZ hn;have ev:((v:Int)).toNat=v:=rfl;dsimp only;refine(if_neg (by simp)).trans ?_;refine(gP ⟨⟨by omega,by rw[c.len]; omega⟩,by rw[c.len]; omega,trivial⟩).trans ?_;refine(gP ⟨⟨by simp only[List.length_singleton,List.length_map]; omega,by simp only[List.length_singleton,List.length_map]; omega⟩,trivial⟩).trans ?_;show gd ((GQ (o3 b,lv) (v:Int)).isSome=true/\True) (lt (vl (GQ (o3 b,lv) (v:Int))) fun k=>lp (PN (o3 b,lv) k (i:Int) (a.map fun v:Nat=>(v:Int)) (v:Int) g) (0,(CG (lV b).length (j6 b) (o6 b) (o8 b) (fun i=>lv.getD i false) a).set v (-1)))=g ((a++[v]).map (fun v:Nat=>(v:Int)),(((i+1:Nat)):Int),CG (lV b).length (j6 b) (o6 b) (o8 b) (fun i=>lv.getD i false) (a++[v]));rw[N0Z d f,vS,gP ⟨rfl,trivial⟩,lE];have s:(a.length:Int)*((lV b).length:Int)<=1000000*6000:=Int.mul_le_mul (by omega) (by omega) (by omega) (by decide);rw[K0x d (A:=6000000001) (by decide) (by decide) (u0y c.len) (fun w o=>by
       rw[MX _ (by rw[c.len]; exact q)];have G:=c.lo w o;have H:=c.hi w o;split <;> omega)]
      rw[m0J,List.map_append];exact gP ⟨oo,trivial⟩)
  (fun i a l hi h y=>by
    obtain⟨u,c⟩:=h;cases hn:M6 (lV b).length (j6 b) (o6 b) (o8 b) (fun i=>lv.getD i false) a with
    | none=>grind
    | some v =>
      grind[MZ,m0J,v0a])
  (fun g a h=>by
    refine(if_neg ?_).trans rfl
    grind)
  (fun i a=>some (W9 (O9 b lv a (j6 b-i)))) (fun a _=>by
    rw[Nat.sub_self]; rfl)
  (fun i a hi h=>by
    have e:j6 b-i=(j6 b-(i+1))+1:=by omega
    show some (W9 (AD _ _ _ _ _ (j6 b-i) a))=_;rw[e,WN];cases M6 (lV b).length (j6 b) (o6 b) (o8 b) (fun i=>lv.getD i false) a <;> rfl)
  0 (Nat.zero_le _) [] ⟨rfl,B0N m⟩
 grind
end
section
variable {b:j7}
theorem N0Y(s:p7 b=true){lv:List Bool}(W:lv.length=(lV b).length):KB (j6 b:Int) (lV b) lv=some (W9 (O9 b lv [] (j6 b))):=by
 have hM:=P6 s;have hN:=AG b s;have y:∀i,i < (lV b).length->o8 b i<j6 b:=fun i hi=>(M8 b s hi).2.2.2;have l:((j6 b:Int)).toNat=j6 b:=rfl;unfold KB;rw[l];refine(gP ⟨⟨by omega,rfl,by omega,by omega⟩,trivial⟩).trans ?_;exact Ni (n:=j6 b) (by omega) (fun _ (a:List Nat)=>(O0 (j6 b) a,a.map (fun v:Nat=>(v:Int))))
  (fun _ a=>(M6 (lV b).length (j6 b) (o6 b) (o8 b) (fun i=>lv.getD i false) a).map fun v=>a++[v]) (fun _ _=>some ([],false))
  (fun i a=>a.length=i/\∀v∈a,v<j6 b)
  (J:=fun a=>some (a.map (fun v:Nat=>(v:Int)),true)) (F:=ZF (lV b) lv (j6 b:Int))
  (fun g i a hi j=>by
    obtain⟨z,r⟩:=j;have t:=fun w=>Na r w;refine(if_pos (decide_eq_true (by rw[List.length_map]; omega))).trans ?_;rw[l];refine(gP ⟨⟨by omega,rfl,by omega,by omega⟩,trivial⟩).trans ?_;refine(lF (n:=(lV b).length) (by omega) (fun k (w:List Bool)=>((k:Int),w)) (FF (o6 b) (o8 b) (fun i=>lv.getD i false) a) (fun _ w=>w.length=j6 b) (J:=fun w=>KA (O0 (j6 b) a) (a.map fun v:Nat=>(v:Int)) (j6 b:Int) g w) (F:=ZE (lV b) lv (O0 (j6 b) a) (a.map fun v:Nat=>(v:Int)) (j6 b:Int) g) (fun Y k w Q d=>?_) (fun k w _ d=>?_) (fun Y w _=>if_neg (by simp)) (List.replicate (j6 b) false) List.length_replicate).trans ?_
    ·have o:((k:Int)).toNat=k:=rfl;obtain⟨H,P,f3,f4⟩:=M8 b s Q;have E:Int.toNat ((o6 b k:Nat):Int)=o6 b k:=rfl;have e5:Int.toNat ((o8 b k:Nat):Int)=o8 b k:=rfl;have V:=(t (o6 b k)).1;refine(if_pos (decide_eq_true (by omega))).trans ?_;rw[o,H,P,E,e5,(t (o6 b k)).2];refine(gP ⟨oo,(fun _=>oo),(fun _=>oo),(fun _=>by omega),trivial⟩).trans ?_;unfold FF;by_cases c:(lv.getD k false&&!a.contains (o6 b k))=true
     ·rw[if_pos c,if_pos c];refine(gP ⟨oo,oo,by omega,trivial⟩).trans ?_;exact gP ⟨oo,trivial⟩
     ·rw[if_neg c,if_neg c];exact gP ⟨oo,trivial⟩
    ·unfold FF;split
     ·rw[List.length_set]; exact d
     ·exact d
    ·show KA _ _ _ g _=_;rw[KA,<- t0g (lv:=fun i=>lv.getD i false) (fr:=o6 b) y r];have G:=(p0m (fr:=o6 b) (lv:=fun i=>lv.getD i false) y a 0 _ (Nat.le_refl _)).1;generalize fN (FF (o6 b) (o8 b) (fun i=>lv.getD i false) a) (lV b).length (List.replicate (j6 b) false)=w at G;have V:=(t 0).1;have m:=Jz (n:=j6 b) (by omega) (fun v=>!((O0 (j6 b) a).getD v false||w.getD v false)) (fun v=>Iu (O0 (j6 b) a) (a.map fun v:Nat=>(v:Int)) (j6 b:Int) g (v:Int)) (e:=some ([],false)) (F:=ZD (O0 (j6 b) a) (a.map fun v:Nat=>(v:Int)) (j6 b:Int) w g) 0 (Nat.zero_le _) (fun X v _ u=>by
      have o:((v:Int)).toNat=v:=rfl;have f:decide ((v:Int) < (j6 b:Int))=true:=decide_eq_true (by omega);refine(gP ⟨(fun _=>oo),(fun _=>by omega),(fun _=>oo),(fun _=>by omega),trivial⟩).trans ?_;rw[o,f,Bool.true_and];by_cases c:((O0 (j6 b) a).getD v false||w.getD v false)=true
      ·rw[if_pos c,if_neg (by rw[c]; decide)];exact gP ⟨oo,trivial⟩
      ·rw[if_neg c,if_pos (by rw[Bool.eq_false_iff.2 c]; rfl)]) (fun X=>by
      have f:decide ((j6 b:Int) < (j6 b:Int))=false:=decide_eq_false (by omega);refine(gP ⟨(fun h=>by rw[f] at h; cases h.1),(fun h=>by rw[f] at h; cases h.1),(fun h=>by rw[f] at h; cases h.2.1),(fun h=>by rw[f] at h; cases h.2.1),trivial⟩).trans ?_;rw[f,Bool.false_and];refine(if_neg (by decide)).trans ?_;rw[Iu];exact if_pos (beq_self_eq_true _))
     rw[Nat.sub_zero,<- List.range_eq_range'] at m;refine Eq.trans m ?_;cases hn:(List.range (j6 b)).find? fun v=>!((O0 (j6 b) a).getD v false||w.getD v false) with
     | none=>rfl
     | some v =>
       have u:=List.mem_range.1 (List.mem_of_find?_eq_some hn);have o:((v:Int)).toNat=v:=rfl;show Iu (O0 (j6 b) a) (a.map fun v:Nat=>(v:Int)) (j6 b:Int) g (v:Int)=g (O0 (j6 b) (a++[v]),(a++[v]).map fun v:Nat=>(v:Int));rw[Iu,m0Y,List.map_append];refine(if_neg (by rw[beq_iff_eq]; omega)).trans ?_;refine(gP ⟨oo,by omega,trivial⟩).trans ?_;exact gP ⟨⟨by simp only[List.length_singleton,List.length_map]; omega,by simp only[List.length_singleton,List.length_map]; omega⟩,trivial⟩)
  (fun i a x hi j q=>by
    obtain⟨z,r⟩:=j;cases hn:M6 (lV b).length (j6 b) (o6 b) (o8 b) (fun i=>lv.getD i false) a with
    | none=>rw[hn] at q; cases q
    | some v =>
      rw[hn] at q;cases q;obtain⟨T,n2⟩:=MZ hn;refine⟨by simp[z],fun w d=>?_⟩;rcases List.mem_append.1 d with d | d
      ·exact r w d
      ·cases List.mem_singleton.1 d; exact T)
  (fun g a j=>by
    refine(if_neg ?_).trans rfl;simp[j.1])
  (fun i a=>some (W9 (O9 b lv a (j6 b-i)))) (fun a _=>by
    rw[Nat.sub_self]; rfl)
  (fun i a hi j=>by
    have e:j6 b-i=(j6 b-(i+1))+1:=by omega
    show some (W9 (AD _ _ _ _ _ (j6 b-i) a))=_;rw[e,WN];cases M6 (lV b).length (j6 b) (o6 b) (o8 b) (fun i=>lv.getD i false) a <;> rfl)
  0 (Nat.zero_le _) [] ⟨rfl,fun v u=>nomatch u⟩
theorem QW(M:Nat)(br:List Int):(D4 M br).length=M:=Fz _ _
end
def DG(b:j7)(br:List Int):Int:=if p7 b=true then(if AH (lV b).length br=true then 0 else 2) else 1
theorem r71(b:j7)(c:wf l9 b)(d:cnt l9 b<=1048576)(br:List Int)(a:br.length<=1048576):Fc b br=some (DG b br):=by
 unfold Fc DG;rw[MK b c d,vS,gP ⟨rfl,trivial⟩];cases hb:p7 b with
 | false=>rfl
 | true =>
   have e:=P6 hb;refine(if_neg (by simp)).trans ?_;rw[MO b c hb,vS,M0g _ br (by omega) a,gP ⟨rfl,rfl,trivial⟩,lE,M0g _ br (by omega) a,vS];cases AH (lV b).length br <;> rfl
theorem z0K{b:j7}{br:List Int}(h:DG b br=0):p7 b=true/\AH (lV b).length br=true:=by
 unfold DG at h;split at h
 ·rename_i a;split at h
  ·rename_i c; exact⟨a,c⟩
  ·cases h
 ·cases h
def WO(b:j7)(br:List Int):List Int×Int:=if DG b br=0 then(if(W9 (O9 b (D4 (lV b).length br) [] (j6 b))).2=true then((W9 (O9 b (D4 (lV b).length br) [] (j6 b))).1,0) else([],7)) else([],DG b br)
theorem r72(b:j7)(c:wf l9 b)(e:cnt l9 b<=1048576)(br:List Int)(d:br.length<=1048576):KS b br=some (WO b br):=by
 unfold KS WO;rw[r71 b c e br d,vS,gP ⟨rfl,trivial⟩,lE];by_cases h:DG b br=0
 ·obtain⟨a,g⟩:=z0K h;have f:=P6 a;rw[h];refine(if_neg (by decide)).trans ?_;rw[MO b c a,vS,gP ⟨rfl,trivial⟩,lE,WI b c a,vS,WK _ _ (by omega) d,vS,N0Y a (QW _ _),vS];refine(gP ⟨rfl,rfl,rfl,trivial⟩).trans ?_;rw[lE,if_pos rfl];cases h2:(W9 (O9 b (D4 (lV b).length br) [] (j6 b))).2
  ·refine(if_pos (by simp[h2])).trans ?_;rfl
  ·refine(if_neg (by simp[h2])).trans ?_;rfl
 ·rw[if_neg h];exact if_pos (by simp[h])
theorem E0J{M:List l7}(f:M.length<=6000){l:List Int}{s:l5}(h:Sd s)(j:l.length<=6000) :
  (∃r,PE M (s.1,s.2.1,s.2.2,l)=some r/\(Sd r.2/\r.1.length<=6001))/\∃r,PF M (s.1,s.2.1,s.2.2,l)=some r/\(Sd r.2/\r.1.length<=6001):=by
 obtain⟨v,m,e,a,-,-,-⟩:=z8 (n:=12) h (by omega);obtain⟨q,g,d,c,qa,qb,-⟩:=z8 (n:=2) a (by omega);have qb:=qb (by omega);have b:c9 ((M.length:Int)*q):=by
  have k:(M.length:Int)*q<=6000*1:=Int.mul_le_mul (by omega) (by omega) qa (by omega);have i:0<=(M.length:Int)*q:=Int.mul_nonneg (by omega) qa;exact oo
 constructor
 ·unfold PE;simp only[e,vS,Option.isSome_some];refine k6 ⟨trivial,trivial⟩ (x6 ?_);dsimp only;split
  ·simp only[d,vS,Option.isSome_some];refine k6 ⟨trivial,b,⟨by rw[List.length_singleton]; omega,by rw[List.length_singleton]; omega⟩,trivial⟩ (x6 ?_);exact⟨_,rfl,c,by simp only[List.length_append,List.length_singleton]; omega⟩
  ·exact⟨_,rfl,a,by simp only; omega⟩
 ·unfold PF;simp only[e,vS,Option.isSome_some];refine k6 ⟨trivial,trivial⟩ (x6 ?_);dsimp only;split
  ·simp only[d,vS,Option.isSome_some];refine k6 ⟨trivial,b,⟨by rw[List.length_singleton]; omega,by rw[List.length_singleton]; omega⟩,trivial⟩ (x6 ?_);exact⟨_,rfl,c,by simp only[List.length_append,List.length_singleton]; omega⟩
  ·exact⟨_,rfl,a,by simp only; omega⟩
theorem I0G{s:l5}(h:Sd s){b:j7}(y:wf l9 b)(z:cnt l9 b<=20000):∃r,IJ s b=some r/\(Sd r.2/\r.1.length<=6001):=by
 unfold IJ;simp only[MK b y (Nat.le_trans z (by decide)),vS,Option.isSome_some];cases hb:p7 b with
 | false =>
   refine k6 ⟨trivial,trivial⟩ ?_;rw[if_pos (by decide)];refine k6 trivial ?_;rw[if_pos (by decide)];exact⟨_,rfl,h,by simp⟩
 | true =>
   have H:=P6 hb;obtain⟨v,X,Q,a,-,-,-⟩:=z8 (n:=3) h (by omega);obtain⟨u,W,P,m,a1,o,-⟩:=z8 (n:=8) a (by omega);have o:=o (by omega);obtain⟨Y,T,G,k,a2,q,-⟩:=z8 (n:=1+u) m (by omega);have q:=q (by omega);refine k6 ⟨trivial,trivial⟩ ?_;rw[if_neg (by decide)];simp only[Q,vS,Option.isSome_some];refine k6 ⟨⟨trivial,trivial⟩,trivial⟩ ?_;split
   ·exact x6 ⟨_,rfl,a,by simp⟩
   ·simp only[MO b y hb,vS,Option.isSome_some];refine k6 ⟨trivial,trivial⟩ (x6 ?_);dsimp only;simp only[P,vS,Option.isSome_some];refine k6 ⟨trivial,oo,trivial⟩ (x6 ?_);dsimp only;simp only[G,vS,Option.isSome_some];refine k6 ⟨trivial,trivial⟩ (x6 ?_);dsimp only;refine K4 (fun x=>(7000-x.1).toNat) (fun x=>Sd (x.2.1,x.2.2.1,x.2.2.2.1)/\0<=x.1/\x.1<=6100/\(x.2.2.2.2.length:Int)<=x.1/\x.2.2.2.2.length<=6000) ?_ ⟨k,by simp only; omega,by simp only; omega,by simp; omega,by simp⟩ (by simp only; omega);rintro g ⟨i,c,j,e,l⟩ ⟨d,i2,i3,i4,i5⟩ E;simp only at d i2 i3 i4 i5;unfold G0q;dsimp only;split
    ·rename_i t;have t:=of_decide_eq_true t;obtain⟨V,s3,F,f,a3,w,-⟩:=z8 (n:=1+u) d (by omega);have w:=w (by omega);refine k6 ⟨⟨by rw[List.length_singleton]; omega,by rw[List.length_singleton]; omega⟩,trivial⟩ ?_;simp only[F,vS,Option.isSome_some];refine k6 ⟨trivial,oo,oo,trivial⟩ (x6 ?_);exact E _ ⟨f,by simp only; omega,by simp only; omega,by simp only[List.length_append,List.length_singleton]; omega,by simp only[List.length_append,List.length_singleton]; omega⟩ (by simp only; omega)
    ·exact(E0J H (s:=(c,j,e)) d i5).2
theorem wf9{v:j7×l5}(h:Hz (Qm v)):wf l9 v.1:=⟨h.1,⟨h.2.1,h.2.2.1,h.2.2.2.1⟩,h.2.2.2.2.1⟩
section
variable [Alw]
end
section
variable {b:j7}
end
theorem r41{b:j7}(c:p7 b=true)(a:Int):Cw (o3 b) a=some (m0 a 0 ((j6 b:Int)-1)):=by
 have d:=AG b c;unfold Cw;rw[WH b c,vS];refine(gP ⟨rfl,oo,rfl,trivial⟩).trans ?_;rw[Y5,vS]
section
variable {b:j7}
theorem y0w(c:p7 b=true){lv:List Bool}(j:lv.length=(lV b).length)(a:Nat):PQ (o3 b,lv) (a:Int)=some (H6 (fun i=>lv.getD i false&&o8 b i==a) (lV b).length):=by
 have l:=P6 c;refine(lF (n:=(lV b).length) (by omega) (fun i (s:List Int)=>(s,(i:Int))) (fun i s=>if(lv.getD i false&&o8 b i==a)=true then s++[(i:Int)] else s) (fun i s=>s.length<=i) (J:=fun s=>some s) (F:=j0U (o3 b,lv) (a:Int)) (fun g i s hi e=>?_) (fun i s _ e=>?_) (fun g s _=>if_neg (by simp[o3])) [] (Nat.le_refl _)).trans (congrArg some (FK _ _))
 ·have m:((i:Int)).toNat=i:=rfl;have d:ix (i:Int) (o3 b).2.2.1.length:=⟨by omega,by show(i:Int) < ((lV b).length:Int); omega⟩;refine(if_pos (decide_eq_true d.2)).trans ((gP ⟨d,trivial⟩).trans ?_);rw[lE];refine(gP ⟨⟨by omega,by show(i:Int) < (lv.length:Int); omega⟩,(fun _=>rfl),trivial⟩).trans ?_;obtain⟨_,k,_⟩:=M8 b c hi;have f:(((lV b).getD i (b7 y80)).2.1==(a:Int))=(o8 b i==a):=by
   rw[k,Bool.eq_iff_iff,beq_iff_eq,beq_iff_eq]; omega
  show(if(lv.getD i false&&(((lV b).getD i (b7 y80)).2.1==(a:Int)))=true then _ else _)=_;rw[f];by_cases h:(lv.getD i false&&o8 b i==a)=true
  ·rw[if_pos h,if_pos h];refine(gP ⟨⟨by simp only[List.length_singleton]; omega,by simp only[List.length_singleton]; omega⟩,trivial⟩).trans ?_;exact gP ⟨oo,trivial⟩
  ·rw[if_neg h,if_neg h];exact gP ⟨oo,trivial⟩
 ·show(if(lv.getD i false&&o8 b i==a)=true then s++[(i:Int)] else s).length<=i+1;split
  ·rw[List.length_append,List.length_singleton]; omega
  ·omega
theorem r98(d:p7 b=true){lv:List Bool}(c:lv.length=(lV b).length)(a:Nat):LV (o3 b,lv) (a:Int)=some (H6 (fun i=>lv.getD i false&&o8 b i==a) (lV b).length):=by
 unfold LV;rw[y0w d c,vS,gP ⟨rfl,trivial⟩,lE]
end
theorem HA{e:Ty}:wf (.sl e) []:=⟨Nat.zero_le _,fun _ h=>nomatch h⟩
theorem QX:∀(N:Nat) (l:List Nat),l.Nodup->(∀v∈l,v<N)->l.length<=N
 | 0,l,_,h=>by
   cases l with
   | nil=>exact Nat.le_refl _
   | cons a r=>exact(Nat.not_lt_zero _ (h a (by simp))).elim
 | N+1,l,hd,h=>by
   by_cases c:N∈l
   ·have f:=QX N (l.erase N) (hd.erase N) (fun v b=>by
     have d:=(hd.mem_erase_iff).1 b;have:=h v d.2;have:=d.1;omega)
    have:=List.length_erase_of_mem c;have:0<l.length:=List.length_pos_of_mem c;omega
   ·have:=QX N l hd (fun v b=>by
     have f:=h v b;have:v≠N:=fun e=>c (e ▸ b);omega)
    omega
theorem y0F{l:List Nat}(h:l.Nodup){p q:Nat}(b:p<q)(a:q<l.length):l.getD p 0≠l.getD q 0:=by
 have:=List.pairwise_iff_getElem.1 h p q (by omega) a b;rw[gq,List.getElem?_eq_getElem (by omega),gq,List.getElem?_eq_getElem a];exact this
theorem D0O{l:List Nat}{v:Nat}(h:v∈l):∃p,p<l.length/\l.getD p 0=v:=by
 obtain⟨p,a,e⟩:=List.getElem_of_mem h;exact⟨p,a,by rw[gq,List.getElem?_eq_getElem a]; exact e⟩
structure OGood(M N:Nat)(fr to:Nat->Nat)(lv:Nat->Bool)(out:List Nat):Prop where
 nd:out.Nodup
 lt:∀v∈out,v<N
 bef:∀i,i<M->lv i=true->∀q,q<out.length->out.getD q 0=to i->∃p,p<q/\out.getD p 0=fr i
theorem WQ{l:List Nat}{v q:Nat}(h:q<l.length):(l++[v]).getD q 0=l.getD q 0:=by
 rw[gq,gq,List.getElem?_append_left h]
theorem v0Q{l:List Nat}{v:Nat}:(l++[v]).getD l.length 0=v:=by
 rw[gq,List.getElem?_append_right (Nat.le_refl _),Nat.sub_self];rfl
theorem OGood.snoc{M N:Nat}{fr to:Nat->Nat}{lv:Nat->Bool}{d:List Nat}(h:OGood M N fr to lv d){v:Nat}(u:v<N)(n:v ∉ d)(k:W7 M fr to lv d v=0):OGood M N fr to lv (d++[v]):=by
 refine⟨?_,fun w f=>?_,fun i hi l q s e=>?_⟩
 ·rw[List.nodup_append];exact⟨h.nd,by simp,fun a o b r=>fun e=>n (by rw[<- List.mem_singleton.1 r,<- e]; exact o)⟩
 ·rcases List.mem_append.1 f with f | f
  ·exact h.lt w f
  ·rw[List.mem_singleton.1 f]; exact u
 ·rw[List.length_append,List.length_singleton] at s;by_cases c:q<d.length
  ·rw[WQ c] at e;obtain⟨p,g,j⟩:=h.bef i hi l q c e;exact⟨p,g,by rw[WQ (by omega)]; exact j⟩
  ·have c:q=d.length:=by omega
   subst c;rw[v0Q] at e;unfold W7 at k;rw[List.countP_eq_zero] at k;have t:=k i (List.mem_range.2 hi);have m:fr i∈d:=by simpa [l,e] using t
   obtain⟨p,g,j⟩:=D0O m;exact⟨p,g,by rw[WQ g]; exact j⟩
theorem y0A{M N:Nat}{fr to:Nat->Nat}{lv:Nat->Bool}:∀(k:Nat) (out l:List Nat),OGood M N fr to lv out->AD M N fr to lv k out=some l->OGood M N fr to lv l/\l.length=out.length+k:=by
 intro k
 induction k with
 | zero=>intro out l h e; cases e; exact⟨h,rfl⟩
 | succ k a =>
   intro out l h e;rw[WN] at e;cases hn:M6 M N fr to lv out with
   | none=>rw[hn] at e; cases e
   | some v =>
     rw[hn] at e;obtain⟨b,d⟩:=MZ hn;have g:W7 M fr to lv out v=0:=by
      unfold M6 at hn;have:=List.find?_some hn;simp only[ba,beq_iff_eq] at this;exact this.2
     obtain⟨f,c⟩:=a (out++[v]) l (h.snoc b d g) e;exact⟨f,by rw[c,List.length_append,List.length_singleton]; omega⟩
theorem r0e(l:List Nat)(i:Nat):(l.map (fun v:Nat=>(v:Int))).getD i 0=(l.getD i 0:Int):=by
 rw[gq,gq,List.getElem?_map];cases l[i]? <;> rfl
section
variable {b:j7}
def D5(b:j7)(c:p5)(k:Nat)(sp:Sp):Sp×Sp:=vl (Dj (o3 b) c (k:Int) sp)
theorem QY{k:Nat}(a:k < (lV b).length):m0 (k:Int) 0 (((lV b).length:Int)-1)=true:=y9.2 oo
theorem QZ(i:wf l9 b)(e:cnt l9 b<=1048576)(g:p7 b=true){c:p5}(a:wf r5 c)(j:G8 c=true){k:Nat}(d:k < (lV b).length):∃dv lv,SpanV b c (k:Int) dv lv/\∀sp,B4 sp=true->D5 b c k sp=AE dv lv sp/\Dj (o3 b) c (k:Int) sp=some (D5 b c k sp):=by
 obtain⟨dv,lv,h⟩:=H0G i e g a j (QY d);refine⟨dv,lv,h,fun sp f=>?_⟩;have:=h.spans (QY d) f;unfold D5;rw[this];exact⟨rfl,rfl⟩
theorem Ra(j:wf l9 b)(g:cnt l9 b<=1048576)(i:p7 b=true){c:p5}(a:wf r5 c)(l:G8 c=true){k:Nat}(f:k < (lV b).length){sp:Sp}(d:B4 sp=true):0<=(D5 b c k sp).1.1/\(D5 b c k sp).1.1<=(D5 b c k sp).1.2/\(D5 b c k sp).1.2<=5000000/\B4 (D5 b c k sp).2=true:=by
 obtain⟨n,m,h,e⟩:=QZ j g i a l f;rw[(e sp d).1];exact h.ok d
theorem D0s(i:wf l9 b)(n:cnt l9 b<=1048576)(g:p7 b=true)(l:Jx b){c:p5}(d:wf r5 c)(j:G8 c=true){k:Nat}(f:k < (lV b).length){s a:Sp}(r:B4 s=true)(m:B4 a=true)(hi:S6 s a):S6 (D5 b c k s).1 (D5 b c k a).1/\S6 (D5 b c k s).2 (D5 b c k a).2:=by
 obtain⟨u,q,h,e⟩:=QZ i n g d j f;obtain⟨t,o⟩:=h.mono i g l j (QY f)
 grind[SpanV.ins]
theorem m0t{s t:Sp}(a:B4 s=true)(b:B4 t=true):B4 (K3 s t)=true:=by
 grind[B4,D0,K3]
def BU(x:q9):Bool:=D0 x.1
abbrev J9(b:j7)(br:List Int):Nat->Bool:=fun i=>(D4 (lV b).length br).getD i false
def V0(b:j7)(c:p5)(br:List Int)(ss:List O1)(T:Nat->Option q9)(v:Nat):Option q9:=Z1 (lV b).length (o6 b) (o8 b) (J9 b br) (D5 b c) (L3 ss) T v
def BV(b:j7)(c:p5)(br:List Int)(ss:List O1)(out:List Nat):Option (Nat->Option q9):=BR (lV b).length (o6 b) (o8 b) (J9 b br) (D5 b c) (L3 ss) BU out fun _=>none
structure OrdOk(b:j7)(br:List Int)(out:List Nat):Prop where
 nd:out.Nodup
 ahead:Nb (lV b).length (o6 b) (o8 b) (J9 b br) [] out
 all:∀v,v<j6 b->v∈out
 lt:∀v∈out,v<j6 b
theorem z0R{M:Nat}{fr to:Nat->Nat}{lv:Nat->Bool}{N:Nat}{a:List Nat}(h:OGood M N fr to lv a):Nb M fr to lv [] a:=by
 have f:∀(r d:List Nat),a=d++r->Nb M fr to lv d r:=by
  intro r
  induction r with
  | nil=>intro d _; trivial
  | cons v r j =>
    intro d e;refine⟨fun k i n g=>?_,j (d++[v]) (by rw[e,List.append_assoc]; rfl)⟩;have m:a.getD d.length 0=v:=by rw[e,gq,List.getElem?_append_right (Nat.le_refl _),Nat.sub_self]; rfl
    have c:d.length<a.length:=by rw[e,List.length_append,List.length_cons]; omega
    obtain⟨p,b,l⟩:=h.bef k i n d.length c (by rw[m,g]);rw[<- l,e,gq,List.getElem?_append_left b,List.getElem?_eq_getElem b];exact List.getElem_mem b
 exact f a [] rfl
theorem H0W(_:p7 b=true){br:List Int}{a:List Nat}(h:O9 b (D4 (lV b).length br) [] (j6 b)=some a):OrdOk b br a:=by
 have g:OGood (lV b).length (j6 b) (o6 b) (o8 b) (J9 b br) []:=⟨List.nodup_nil,fun _ h=>(by cases h),fun i _ _ q j=>(Nat.not_lt_zero _ j).elim⟩;obtain⟨c,k⟩:=y0A (j6 b) [] a g h;rw[List.length_nil,Nat.zero_add] at k;refine⟨c.nd,z0R c,fun v l=>?_,c.lt⟩;by_cases f:v∈a
 ·exact f
 ·have:=QX (j6 b) (v :: a) (List.nodup_cons.2 ⟨f,c.nd⟩) (fun w d=>by
   rcases List.mem_cons.1 d with e | d
   ·omega
   ·exact c.lt w d)
  rw[List.length_cons] at this;omega
theorem x0R{ss:List O1}(h:∀s∈ss,D0 s.2.1=true/\B4 s.2.2=true)(v:Nat)(x:q9)(a:L3 ss v=some x):D0 x.1=true/\B4 x.2=true:=by
 grind[Nc]
theorem u0H(u:wf l9 b)(r:cnt l9 b<=1048576)(t:p7 b=true)(z:Jx b){c:p5}(l:wf r5 c)(w:G8 c=true){br:List Int}{ss:List O1}(hi:DD ss)(i:∀s∈ss,D0 s.2.1=true/\B4 s.2.2=true){g:List Nat}{T:Nat->Option q9}(h:BV b c br ss g=some T):∃Q,BV b c br (ss.drop 1) g=some Q/\∀v,insO (Q v) (T v):=by
 refine p0X (fun s=>B4 s=true) (fun x=>(-1000000000<=x.1.1/\x.1.1<=x.1.2)/\B4 x.2=true) (fun x f=>f.2) (fun k s G d _ E m hi=>D0s u r t z l w d E m hi) (x0S hi) (fun x y f F d hi=>?_) (fun v x f=>?_) (fun v x f=>?_) (fun x y f F=>?_) (fun k x d _ f=>?_) g (fun _=>none) (fun _=>none) T (fun _=>insO.none _) (fun _ _ e=>by cases e) (fun _ _ e=>by cases e) h
 ·have d:D0 y.1=true:=d;show D0 x.1=true;unfold D0 at d ⊢;simp only[ba,dq] at d ⊢;have H:=y9.1 d.1.2;have:=hi.1;have:=hi.2
  grind[y9]
 ·obtain⟨s,n,_,q⟩:=Nc f;have a:=i s (List.mem_of_mem_drop n);rw[<- q];refine⟨?_,a.2⟩;have j:=a.1;unfold D0 at j;simp only[ba,dq] at j
  grind[y9]
 ·obtain⟨s,n,_,q⟩:=Nc f;have a:=i s n;rw[<- q];refine⟨?_,a.2⟩;have j:=a.1;unfold D0 at j;simp only[ba,dq] at j
  grind[y9]
 ·grind[m0t,K3]
 ·have o:=Ra u r t l w d f.2
  grind[M7]
end
theorem s0o{a:Type}(p:Nat->Bool)(g:Nat->a->a)(M:Nat)(s:a):fN (fun i s=>g (((List.range M).filter p).getD i 0) s) ((List.range M).filter p).length s=fN (fun k s=>if p k=true then g k s else s) M s:=by
 rw[WL (fun s k=>g k s)]
 induction M with
 | zero=>rfl
 | succ M b =>
   rw[List.range_succ,List.filter_append,List.foldl_append,b];show _=if p M=true then g M (fN (fun k s=>if p k=true then g k s else s) M s) else fN (fun k s=>if p k=true then g k s else s) M s
   by_cases c:p M=true
   ·rw[if_pos c,List.filter_cons_of_pos c]; rfl
   ·rw[if_neg c,List.filter_cons_of_neg c]; rfl
theorem k0r(a b:Sp):K3 a b=K3 b a:=by
 unfold K3;rw[Int.min_comm,Int.max_comm]
section
variable {M:Nat} {fr to:Nat->Nat} {lv:Nat->Bool} {sp:Nat->Sp->Sp×Sp} {src:Nat->Option q9}
theorem y0y(P Q:q9->Prop)(f:∀v x,src v=some x->Q x)(g:∀x y,Q x->Q y->Q (K3 x.1 y.1,K3 x.2 y.2))(i:∀k x,k<M->lv k=true->P x->Q (M7 x.1 (sp k x.2).1,(sp k x.2).2)){T:Nat->Option q9}(h:∀v x,T v=some x->P x)(v:Nat):∀m,m<=M->∀x,fN (Bp fr to lv sp T v) m (src v)=some x->Q x:=by
 intro m l;refine Wy (fun o:Option q9=>∀x,o=some x->Q x) m _ (f v) fun k o j b=>?_;unfold Bp;split
 ·rename_i c;simp only[ba,beq_iff_eq] at c;cases e:T (fr k) with
  | none=>exact b
  | some y =>
    intro x a;have d:=i k y (by omega) c.1 (h _ _ e);cases o with
    | none =>
      have a:some (M7 y.1 (sp k y.2).1,(sp k y.2).2)=some x:=a;cases a;exact d
    | some z =>
      have a:some (K3 z.1 (M7 y.1 (sp k y.2).1),K3 z.2 (sp k y.2).2)=some x:=a;cases a;exact g _ _ (b z rfl) d
 ·exact b
end
section
variable {b:j7}
def F0x(x:q9):Prop:=(-1000000000<=x.1.1/\x.1.1<=x.1.2/\x.1.2<=1005000000)/\B4 x.2=true
theorem Rb{s:Sp}:D0 s=true ↔ -1000000000<=s.1/\s.1<=s.2/\s.2<=1000000000:=by
 unfold D0;simp only[ba,dq,y9];omega
theorem y0H(n:wf l9 b)(j:cnt l9 b<=1048576)(l:p7 b=true){c:p5}(f:wf r5 c)(r:G8 c=true){br:List Int}{ss:List O1}(d:∀s∈ss,D0 s.2.1=true/\B4 s.2.2=true){T:Nat->Option q9}(q:∀v x,T v=some x->D0 x.1=true/\B4 x.2=true)(v:Nat):∀m,m<=(lV b).length->∀x,fN (Bp (o6 b) (o8 b) (J9 b br) (D5 b c) T v) m (L3 ss v)=some x->F0x x :=
 y0y (fun x=>D0 x.1=true/\B4 x.2=true) F0x (fun v x a=>by
  have h:=x0R d v x a;have e:=Rb.1 h.1;exact⟨⟨e.1,e.2.1,by omega⟩,h.2⟩) (fun x y a g=>by
  refine⟨?_,m0t a.2 g.2⟩;have:=a.1;have:=g.1;unfold K3;simp only;omega) (fun k x i _ a=>by
  have o:=Ra n j l f r i a.2;refine⟨?_,o.2.2.2⟩;have e:=Rb.1 a.1;unfold M7;simp only;omega) q v
structure WR(N:Nat)(t:Hw):Prop where
 l1:t.1.length=N
 l2:t.2.1.length=N
 l3:t.2.2.length=N
 vals:∀v,v<N->D0 (t.2.1.getD v (0,0))=true/\B4 (t.2.2.getD v (0,0))=true/\(t.1.getD v false=false->t.2.1.getD v (0,0)=(0,0)/\t.2.2.getD v (0,0)=(0,0))
theorem q0P{N:Nat}{T:Nat->Option q9}(h:∀v,v<N->∀x,T v=some x->D0 x.1=true/\B4 x.2=true):WR N (w5 N T):=by
 refine⟨FG.1,FG.2.1,FG.2.2,fun v a=>?_⟩;unfold w5;simp only;rw[CH _ N _ a,CH _ N _ a,CH _ N _ a];cases e:T v with
 | none=>exact⟨rfl,rfl,fun _=>⟨rfl,rfl⟩⟩
 | some x=>exact⟨(h v a x e).1,(h v a x e).2,fun b=>(by cases b)⟩
def v0H(N:Nat)(a d:Hw):Prop:=∀v,v<N->a.1.getD v false=true->d.1.getD v false=true/\(d.2.1.getD v (0,0)).1<=(a.2.1.getD v (0,0)).1/\(a.2.1.getD v (0,0)).2<=(d.2.1.getD v (0,0)).2
theorem E0s{N:Nat}{Q T:Nat->Option q9}(h:∀v,insO (Q v) (T v)):v0H N (w5 N Q) (w5 N T):=by
 intro v b a;unfold w5 at a ⊢;simp only at a ⊢;rw[CH _ N _ b] at a;rw[CH _ N _ b,CH _ N _ b,CH _ N _ b];cases e:Q v with
 | none=>rw[e] at a; cases a
 | some x =>
   obtain⟨y,d,c,_⟩:=h v x e;rw[d];exact⟨rfl,c.1,c.2⟩
end
theorem E0f{d:List Nat}{v:Nat}(h:v ∉ d)(r:List Nat):(d++v :: r).idxOf v=d.length:=by
 rw[List.idxOf_append,if_neg h,List.idxOf_cons_self];omega
theorem I0p{d:List Nat}{v:Nat}(h:v∈d)(r:List Nat):(d++r).idxOf v<d.length:=by
 rw[List.idxOf_append,if_pos h];exact List.idxOf_lt_length_of_mem h
theorem n0M{M:Nat}{fr to:Nat->Nat}{lv:Nat->Bool}{k:Nat}(a:k<M)(c:lv k=true):∀(r d:List Nat),(d++r).Nodup->Nb M fr to lv d r->to k∈r->fr k∈d++r/\(d++r).idxOf (fr k) < (d++r).idxOf (to k)
 | [],_,_,_,h=>by cases h
 | v :: r,d,hd,ha,h=>by
   by_cases e:to k=v
   ·have b:=ha.1 k a c e;have g:v ∉ d:=fun f=>(List.nodup_append.1 hd).2.2 v f v List.mem_cons_self rfl;rw[e,E0f g];exact⟨List.mem_append_left _ b,I0p b _⟩
   ·have:=n0M a c r (d++[v]) (by rw[List.append_assoc]; exact hd) ha.2 (List.mem_of_ne_of_mem e h)
    rwa [List.append_assoc] at this
theorem OrdOk.pos{b:j7}{br:List Int}{a:List Nat}(h:OrdOk b br a){k:Nat}(e:k < (lV b).length)(d:J9 b br k=true)(c:o8 b k<j6 b):a.idxOf (o6 b k)<a.idxOf (o8 b k)/\o6 b k<j6 b:=by
 have:=n0M e d a [] h.nd h.ahead (h.all _ c);exact⟨this.2,h.lt _ this.1⟩
theorem OrdOk.idx{b:j7}{br:List Int}{a:List Nat}(h:OrdOk b br a){v:Nat}(c:v<j6 b):a.idxOf v<a.length:=List.idxOf_lt_length_of_mem (h.all v c)
theorem Nj(s:Int×Int):M4 s=some (D0 s)/\Dd s=some (D0 s):=by
 have e:∀x,Fg x=some (m0 x (-1000000000) 1000000000):=fun _=>rfl;refine⟨?_,?_⟩
 ·unfold M4;rw[e,e,vS,vS];exact gP ⟨rfl,fun _=>rfl,trivial⟩
 ·unfold Dd;rw[R7,R7,vS,vS];exact gP ⟨rfl,fun _=>rfl,trivial⟩
def FM(n:Int)(l:List m6)(i:Nat):Bool:=!m0 (l.getD i (b7 y53)).1 0 (n-1)||!D0 (l.getD i (b7 y53)).2.1||!B4 (l.getD i (b7 y53)).2.2||decide (0 < (i:Int))&&decide ((l.getD i (b7 y53)).1<=(l.getD ((i:Int)-1).toNat (b7 y53)).1)
def X0(b:j7):Int:=2*((p6 b.2.1).length:Int)
def AI(b:j7)(l:List m6):Bool:=!(List.range l.length).any (FM (X0 b) l)
theorem R0w(b:j7)(c:p7 b=true)(a:Int):Cw (o3 b) a=some (m0 a 0 (X0 b-1)):=by
 have e:X0 b=(j6 b:Int):=by
  unfold X0 j6;omega
 rw[e];exact r41 c a
theorem r66(b:j7)(c:p7 b=true)(l:List m6)(d:l.length<=9223372036854775807):LN (o3 b) l=some (AI b l):=by
 have a:=H5 (n:=l.length) d (FM (X0 b) l) (some false) (e:=some true) (F:=G0i (o3 b) l) (fun g i hi=>by
  have f:((i:Int)).toNat=i:=rfl;refine(if_pos (by simpa using hi)).trans ?_;rw[f,gP ⟨oo,trivial⟩,lE,R0w b c,vS,(Nj _).1,vS,(r56 _).1,vS,gP ⟨rfl,(fun _=>rfl),(fun _=>rfl),(fun h=>⟨by have:=of_decide_eq_true h.1; omega,by omega⟩),(fun h=>⟨by have:=of_decide_eq_true h.1; omega,by omega⟩),trivial⟩,gP ⟨oo,trivial⟩];rfl) (fun g=>aE)
 unfold LN AI;refine a.trans ?_;cases(List.range l.length).any (FM (X0 b) l) <;> rfl
theorem r44(b:j7)(k:wf l9 b)(j:p7 b=true)(l:List m6)(m:l.length<=9223372036854775807):KU b l=some (AI b l):=by
 have a:=R9 (U5 j).1;have d:(L9 b.2.1.1.length b.2.1.2.2.length (m5 b.2.1) (A6 b.2.1)).length<=78:=a.len;have e:X8 b=some (X0 b):=by
  unfold X8;rw[Dv b.2.1 k.2.1 a.fac.ni14 a.fac.np8 a.pin,vS,gP ⟨rfl,oo,trivial⟩,lE];rfl
 have o:0<=X0 b/\X0 b<=156:=by
  have:(p6 b.2.1).length<=78:=d;unfold X0;omega
 have c:=H5 (n:=l.length) m (FM (X0 b) l) (some false) (e:=some true) (F:=G0w l (X0 b)) (fun g i hi=>by
  have f:((i:Int)).toNat=i:=rfl;refine(if_pos (by simpa using hi)).trans ?_;rw[f,R7,vS,(Nj _).2,vS,(r56 _).2,vS,gP ⟨oo,oo,rfl,(fun h=>⟨by have:=of_decide_eq_true h.1; omega,by omega⟩),(fun h=>⟨by have:=of_decide_eq_true h.1; omega,by omega⟩),(fun _=>oo),(fun _=>oo),(fun _=>rfl),(fun _=>oo),(fun _=>rfl),trivial⟩,gP ⟨oo,trivial⟩];unfold FM;cases m0 (l.getD i (b7 y53)).1 0 (X0 b-1) <;> cases D0 (l.getD i (b7 y53)).2.1 <;> cases B4 (l.getD i (b7 y53)).2.2 <;> cases decide (0 < (i:Int)) <;> cases decide ((l.getD i (b7 y53)).1<=(l.getD ((i:Int)-1).toNat (b7 y53)).1) <;> rfl) (fun g=>aE)
 unfold KU;rw[e,vS,gP ⟨rfl,trivial⟩,lE];refine c.trans ?_;unfold AI;cases(List.range l.length).any (FM (X0 b) l) <;> rfl
def zs(s:Int×Int):Bool:=s.1==0&&(s.2==0&&true)
section
variable {b:j7}
theorem y0G:X0 b=(j6 b:Int):=by
 unfold X0 j6;omega
theorem k0b{n:Int}{l:List m6}{i:Nat}:FM n l i=false↔((0<=(l.getD i (b7 y53)).1/\(l.getD i (b7 y53)).1<n)/\D0 (l.getD i (b7 y53)).2.1=true/\B4 (l.getD i (b7 y53)).2.2=true)/\(0<i->(l.getD (i-1) (b7 y53)).1 < (l.getD i (b7 y53)).1):=by
 have e:((i:Int)-1).toNat=i-1:=by omega
 unfold FM;rw[e];simp only[Bool.or_eq_false_iff,Bool.not_eq_false',Bool.and_eq_false_iff,decide_eq_false_iff_not,y9];constructor
 ·rintro⟨⟨⟨a,c⟩,d⟩,f⟩;exact⟨⟨⟨a.1,by omega⟩,c,d⟩,fun b=>by rcases f with f | f <;> omega⟩
 ·rintro⟨⟨a,c,d⟩,f⟩;refine⟨⟨⟨⟨a.1,by omega⟩,c⟩,d⟩,?_⟩;by_cases b:0<i
  ·exact .inr (by have:=f b; omega)
  ·exact .inl (by omega)
theorem WS{l:List m6}:AI b l=true↔∀i,i<l.length->((0<=(l.getD i (b7 y53)).1/\(l.getD i (b7 y53)).1 < (j6 b:Int))/\D0 (l.getD i (b7 y53)).2.1=true/\B4 (l.getD i (b7 y53)).2.2=true)/\(0<i->(l.getD (i-1) (b7 y53)).1 < (l.getD i (b7 y53)).1):=by
 unfold AI;rw[BL,y0G];exact⟨fun h i hi=>k0b.1 (h i hi),fun h i hi=>k0b.2 (h i hi)⟩
theorem u0p{l:List m6}(h:AI b l=true):DD l/\∀s∈l,(0<=s.1/\s.1 < (j6 b:Int))/\D0 s.2.1=true/\B4 s.2.2=true:=by
 have f:=WS.1 h;constructor
 ·refine List.pairwise_iff_getElem.2 fun i j hi d a=>?_;have c:∀k,i<k->k<l.length->(l.getD i (b7 y53)).1 < (l.getD k (b7 y53)).1:=by
   intro k
   induction k with
   | zero=>intro o; omega
   | succ k g =>
     intro q n;have s:=(f (k+1) n).2 (by omega);rw[Nat.add_sub_cancel] at s;by_cases e:i=k
     ·subst e; exact s
     ·exact Int.lt_trans (g (by omega) (by omega)) s
  have:=c j a d
  rwa [gq,List.getElem?_eq_getElem hi,gq,List.getElem?_eq_getElem d] at this
 ·intro s m;obtain⟨i,hi,rfl⟩:=List.mem_iff_getElem.1 m;have:=(f i hi).1
  rwa [gq,List.getElem?_eq_getElem hi] at this
theorem u0q{l:List m6}(h:AI b l=true):AI b (l.drop 1)=true:=by
 have d:=WS.1 h;have e:∀i,(l.drop 1).getD i (b7 y53)=l.getD (i+1) (b7 y53):=fun i=>by
  rw[gq,gq,List.getElem?_drop,Nat.add_comm]
 refine WS.2 fun i hi=>?_;rw[List.length_drop] at hi;rw[e,e];have c:=d (i+1) (by omega);refine⟨c.1,fun f=>?_⟩;have a:=c.2 (by omega);rw[Nat.add_sub_cancel] at a;rw[show i-1+1=i by omega];exact a
theorem k0j{c:p5}{br:List Int}{ss:List O1}(a:p7 b=true){T U:Nat->Option q9}(h:∀v,v<j6 b->T v=U v)(v:Nat):V0 b c br ss T v=V0 b c br ss U v :=
 o0x fun _ d _ _=>h _ (M8 b a d).2.2.1
end
end Go.Proofs.YtdjgagoledoaaaaGreatDoor
end

/- What a table says at a place: the program's function and the reference's agree. -/
import Derived.Test.YtdjgagoledoaaaaGreatDoorWA
import Derived.Test.YtdjgagoledoaaaaGreatDoorF83c
import Derived.Test.YtdjgagoledoaaaaGreatDoorXF
import Derived.Test.YtdjgagoledoaaaaGreatDoorG83
set_option maxHeartbeats 0
section
namespace Go.Proofs.YtdjgagoledoaaaaGreatDoor
open Go Go.Proofs Go.Proofs.Xv Go.Proofs.Xl Go.Proofs.Xd
def J0(t:u6)(r q:Nat):Int:=t.2.2.getD (r*t.2.1.length+q) 0
def q9(t:u6)(r q:Nat)(w c d:Int):Int:=J0 t r q*w*c+J0 t r (q+1)*w*d
theorem HR{t:u6}(a:C8 t=true){r q:Nat}(f:r<t.1.length)(j:q<t.2.1.length){w c:Int}(b:0<=w)(e:w<=100000)(d:0<=c)(g:c<=100000) :
  (-100000000000<=J0 t r q*w/\J0 t r q*w<=100000000000) /\ -10000000000000000<=J0 t r q*w*c/\J0 t r q*w*c<=10000000000000000:=by
 obtain⟨_,_,_,_,m,_,_⟩:=FK a;have h:=p0I a (i:=r*t.2.1.length+q) (by have:=QZ f j; omega);have l:=J6 (A:=1000000) h.1 h.2 b e (by decide);have k:=J6 (A:=100000000000) (B:=100000) (x:=J0 t r q*w) (by grind[J0]) (by grind[J0]) d g (by decide)
 grind[J0]
def Sh(n q:Nat)(c d:Int)(M:List (Int×Int)):Prop:=(c=1/\d=0/\M=[((q:Int),1)])∨(q+1<n/\0<c/\0<d/\c+d<=100000/\M=[((q:Int),c),((q:Int)+1,d)])
theorem u0O{t:u6}(e:C8 t=true){r q:Nat}(f:r<t.1.length)(g:q<t.2.1.length){w c d:Int}{M:List (Int×Int)}(i:Sh t.2.1.length q c d M)(a:0<=w)(b:w<=100000) : -20000000000000000<=q9 t r q w c d/\q9 t r q w c d<=20000000000000000:=by
 unfold q9;rcases i with ⟨rfl,rfl,_⟩ | ⟨hq1,c0,d0,hcd,_⟩
 ·have h:=(HR e f g a b (c:=1) (by decide) (by decide)).2;rw[Int.mul_zero]; omega
 ·have h:=(HR e f g a b (c:=c) (by omega) (by omega)).2;have j:=(HR e f hq1 a b (c:=d) (by omega) (by omega)).2;omega
theorem WD{t:u6}(e:C8 t=true){r q:Nat}(d:r<t.1.length)(f:q<t.2.1.length){w c:Int}(o:0<=w)(l:w<=100000)(y:0<=c)(u:c<=100000){R:Int}(m:R=(r:Int)){v1:List BR×Int}{v11:Int}{v a:Int×Int->Option Int}{s:Int}(V : -100000000000000000<=s)(P:s<=100000000000000000){i:Nat}(hi:i<v1.1.length)(T:v1.1.length<=2)
  {Q:Int} (z:Q=(q:Int)) (h:v1.1.getD i (b7 R7)=(Q,c)):Jk t (R,w) v1 v11 v a (s,(i:Int))=a (s+J0 t r q*w*c,(i:Int)+1):=by
 subst m; subst z;obtain⟨_,H,_,G,F,_,g⟩:=FK e;have n:=QZ d f;have k:=HR e d f o l y u;have x:((i:Int)).toNat=i:=rfl;have E:(r:Int)*(t.2.1.length:Int)=((r*t.2.1.length:Nat):Int):=by simp
 have j:(((r*t.2.1.length:Nat):Int)+(q:Int)).toNat=r*t.2.1.length+q:=by omega
 rw[Jk,if_pos (by grind),x,gP ⟨oo,hi,trivial⟩,lE,h];unfold J0 at k ⊢;show gd (c9 ((r:Int)*(t.2.1.length:Int))/\c9 ((r:Int)*(t.2.1.length:Int)+(q:Int))/\ix ((r:Int)*(t.2.1.length:Int)+(q:Int)) t.2.2.length/\c9 (t.2.2.getD ((r:Int)*(t.2.1.length:Int)+(q:Int)).toNat 0*w)/\c9 (t.2.2.getD ((r:Int)*(t.2.1.length:Int)+(q:Int)).toNat 0*w*c)/\c9 (s+t.2.2.getD ((r:Int)*(t.2.1.length:Int)+(q:Int)).toNat 0*w*c)/\True) (lt (s+t.2.2.getD ((r:Int)*(t.2.1.length:Int)+(q:Int)).toNat 0*w*c) fun b=>gd _ (a (b,(i:Int)+1)))=_;rw[E,j,gP ⟨oo,oo,oo,oo,oo,oo,trivial⟩,lE,gP ⟨oo,trivial⟩]
theorem H0X{t:u6}{a:BR}{v1:List BR×Int}{v11:Nat}(d:v11<=2){b c:Int×Int->Option Int}{s:Int}:Jk t a v1 (v11:Int) b c (s,(v1.1.length:Int))=b (s,(v11:Int)+1):=by
 rw[Jk,if_neg (by simp),UM,gP ⟨oo,trivial⟩]
theorem N8{a ρ:Type}{F:(a->Option ρ)->a->Option ρ}{n:Nat}{s:a}:I9 F (n+1) s=F (I9 F n) s:=rfl
theorem HS:((0:Nat):Int)+1=((1:Nat):Int):=rfl
theorem HU:((1:Nat):Int)+1=((2:Nat):Int):=rfl
theorem WG{t:u6}(e:C8 t=true){r q:Nat}(f:r<t.1.length)(h:q<t.2.1.length){w c d:Int}{M:List (Int×Int)}(l:Sh t.2.1.length q c d M)(a:0<=w)(b:w<=100000){R T:Int}(g:R=(r:Int)){v11:Nat}(k:v11<=2){j:Int×Int->Option Int}{s:Int}(u : -50000000000000000<=s)(o:s<=50000000000000000) :
  lp (Jk t (R,w) (M,T) (v11:Int) j) (s,0)=j (s+q9 t r q w c d,(v11:Int)+1):=by
 unfold q9;rcases l with ⟨rfl,rfl,rfl⟩ | ⟨hq1,c0,d0,hcd,rfl⟩
 ·refine FT 2 (by decide) fun n=>?_;rw[N8];refine(WD (v1:=([((q:Int),1)],T)) (i:=0) (s:=s) (c:=1) e f h a b (by decide) (by decide) g (by omega) (by omega) (Nat.le_refl 1) (Nat.le_succ 1) rfl rfl).trans ?_;rw[Int.mul_zero,Int.add_zero,N8,HS];exact H0X (v1:=([((q:Int),1)],T)) k
 ·have m:=(HR e f h a b (c:=c) (by omega) (by omega)).2;refine FT 3 (by decide) fun n=>?_;rw[N8];refine(WD (v1:=([((q:Int),c),((q:Int)+1,d)],T)) (i:=0) (s:=s) (c:=c) e f h a b (by omega) (by omega) g (by omega) (by omega) (Nat.le_succ 1) (Nat.le_refl 2) rfl rfl).trans ?_;rw[N8,HS];refine(WD (v1:=([((q:Int),c),((q:Int)+1,d)],T)) (i:=1) (s:=s+J0 t r q*w*c) (c:=d) (q:=q+1) e f hq1 a b (by omega) (by omega) g (by omega) (by omega) (Nat.le_refl 2) (Nat.le_refl 2) (Int.natCast_succ q).symm rfl).trans ?_;rw[<- Int.add_assoc,N8,HU];exact H0X (v1:=([((q:Int),c),((q:Int)+1,d)],T)) k
theorem B0F{t:u6}(i:C8 t=true){p u r q k:Nat}(b:r=p+u)(g:r<t.1.length)(j:q<t.2.1.length){w c W:Int}(f:0<=w)(o:w<=100000)(h:0<=c)(G:c<=100000)(Q:W=w*c){e v1:Int×Int×Int}(H:e.1=(p:Int)){q0:Nat}(y:v1.1=(q0:Int))(z:q=q0+k)(E:k<=1)(hu:u<=1){d:Int×Int->Option Int}{s:Int}(s0 : -100000000000000000<=s)(s1:s<=100000000000000000) :
  Ds (k:Int) s t e (u:Int) v1 d W=d (s+J0 t r q*w*c,(k:Int)+1):=by
 obtain⟨_,Y,_,V,T,_,l⟩:=FK i;have x:=QZ g j;have n:=HR i g j f o h G;subst b; subst z;have P:((p:Int)+(u:Int))*(t.2.1.length:Int)=(((p+u)*t.2.1.length:Nat):Int):=by simp
 have m:((((p+u)*t.2.1.length:Nat):Int)+(q0:Int)+(k:Int)).toNat=(p+u)*t.2.1.length+(q0+k):=by omega
 have a:W*J0 t (p+u) (q0+k)=J0 t (p+u) (q0+k)*w*c:=by grind
 rw[Ds];by_cases X:0<W
 ·unfold J0 at n a ⊢;rw[if_pos (by grind),H,y,P,m,a,gP ⟨oo,oo,oo,oo,oo,oo,oo,trivial⟩,lE,IU,gP ⟨oo,trivial⟩]
 ·have F:W=0:=by
   have:0<=w*c:=Int.mul_nonneg f h;omega
  have v:J0 t (p+u) (q0+k)*w*c=0:=by grind
  rw[if_neg (by grind),IU,gP ⟨oo,trivial⟩,v,Int.add_zero]
theorem WH{t:u6}{u k:Nat}{d v1:Int×Int×Int}(c:k<=1){a:Int×Int->Option Int}{s W:Int}(b:W=0):Ds (k:Int) s t d (u:Int) v1 a W=a (s,(k:Int)+1):=by
 subst b;rw[Ds,if_neg (by simp),IU,gP ⟨oo,trivial⟩]
theorem B0U{w c:Int}(e:0<=w)(a:w<=100000)(d:0<=c)(b:c<=100000):c9 (w*c)/\True:=by
 have:=J6 (A:=100000) (B:=100000) (x:=w) (y:=c) (by omega) a d b (by decide);exact⟨oo,trivial⟩
theorem Rc{t:u6}{u k:Nat}(o:k<=1){a v1:Int×Int×Int}{l b:Int×Int->Option Int}{s w e:Int}(q:(if(u:Int)=1 then a.2.2 else a.2.1)=w)(c:(if k=0 then v1.2.1 else v1.2.2)=e)(f:0<=w)(h:w<=100000)(i:0<=e)(j:e<=100000) :
  GQ t a (u:Int) v1 l b (s,(k:Int))=Ds (k:Int) s t a (u:Int) v1 b (w*e):=by
 have m:∀W,W=w->La (k:Int) s t a (u:Int) v1 b W=Ds (k:Int) s t a (u:Int) v1 b (w*e):=by
  intro W n;subst n;rw[La];by_cases g:k=0
  ·subst g;have d:v1.2.1=e:=c;rw[if_pos (by rfl),d,gP (B0U f h i j)]
  ·rw[if_neg g] at c;rw[if_neg (by grind),c,gP (B0U f h i j)]
 grind[GQ]
theorem WI{t:u6}{u:Nat}(d:u<=1){b v1:Int×Int×Int}{a c:Int×Int->Option Int}{s:Int}:GQ t b (u:Int) v1 a c (s,((2:Nat):Int))=a (s,(u:Int)+1):=by
 rw[GQ,if_neg (by simp),TQ,gP ⟨oo,trivial⟩]
theorem B0E{t:u6}(l:C8 t=true){p u r q:Nat}(h:r=p+u)(v:u<=1)(o:r<t.1.length)(G:q<t.2.1.length){a b w c d:Int}{M:List (Int×Int)}(F:Sh t.2.1.length q c d M)(E:(if(u:Int)=1 then b else a)=w)(f:0<=w)(g:w<=100000){y:Int×Int->Option Int}{s:Int}(Q : -50000000000000000<=s)(P:s<=50000000000000000) :
  lp (GQ t ((p:Int),a,b) (u:Int) ((q:Int),c,d) y) (s,0)=y (s+q9 t r q w c d,(u:Int)+1):=by
 have j:0<=c/\c<=100000/\0<=d/\d<=100000:=by
  rcases F with ⟨rfl,rfl,_⟩ | ⟨_,_,_,_,_⟩ <;> omega
 obtain⟨i,m,x,z⟩:=j;have H:=(HR l o G f g i m).2;refine FT 3 (by decide) fun n=>?_;rw[N8];refine(Rc (k:=0) (e:=c) (by decide) E rfl f g i m).trans ?_;refine(B0F l h o G f g i m rfl rfl (q0:=q) rfl (k:=0) rfl (by decide) v (by omega) (by omega)).trans ?_;rw[N8,HS];refine(Rc (k:=1) (e:=d) (by decide) E rfl f g x z).trans ?_;unfold q9;rcases F with ⟨rfl,rfl,_⟩ | ⟨hq1,_,_,_,_⟩
 ·refine(WH (by decide) (Int.mul_zero w)).trans ?_;rw[N8,HU,WI v,Int.mul_zero,Int.add_zero]
 ·refine(B0F l h o hq1 f g x z rfl rfl (q0:=q) rfl (k:=1) rfl (by decide) v (by omega) (by omega)).trans ?_
  grind[N8,HU,WI,Int.add_assoc]
theorem H0A{t:u6}{p u q:Nat}(m:u<=1){a b c d:Int}(g:(if(u:Int)=1 then b else a)=0)(j:0<=c)(l:c<=100000)(h:0<=d)(i:d<=100000){f:Int×Int->Option Int}{s:Int} :
  lp (GQ t ((p:Int),a,b) (u:Int) ((q:Int),c,d) f) (s,0)=f (s,(u:Int)+1):=by
 refine FT 3 (by decide) fun n=>?_;rw[N8];refine(Rc (k:=0) (e:=c) (by decide) g rfl (by decide) (by decide) j l).trans ?_;refine(WH (by decide) (Int.zero_mul _)).trans ?_;rw[N8,HS];refine(Rc (k:=1) (e:=d) (by decide) g rfl (by decide) (by decide) h i).trans ?_;refine(WH (by decide) (Int.zero_mul _)).trans ?_
 grind[N8,HU,WI]
theorem HV{xs:List Int}(x:Int)(h:F8 xs=true):∃(p:Nat) (a b:Int) (L:List (Int×Int)),p<xs.length/\Sh xs.length p a b L/\Dr xs x=some ((p:Int),a,b)/\O9 xs x=some (L,a+b):=by
 obtain⟨p,a,b,d,e,f⟩:=M0W x h;rcases f with ⟨rfl,rfl,c⟩ | ⟨c,h4,h5,h6,h7⟩
 ·exact⟨p,1,0,_,d,.inl ⟨rfl,rfl,rfl⟩,e,c⟩
 ·exact⟨p,a,b,_,d,.inr ⟨c,h4,h5,h6,rfl⟩,e,h7⟩
theorem WJ{t:u6}(e:C8 t=true){p q:Nat}(h:p<t.1.length)(g:q<t.2.1.length){a b c d:Int}{L M:List (Int×Int)}(i:Sh t.1.length p a b L)(f:Sh t.2.1.length q c d M)(T U m:Int) :
  lp (Hi t (M,U) (L,T) m) (0,0)=Jj (L,T) (M,U) m (q9 t p q a c d+(if b=0 then 0 else q9 t (p+1) q b c d)):=by
 have k:∀n:Nat,((n:Int)).toNat=n:=fun _=>rfl;rcases i with ⟨rfl,rfl,rfl⟩ | ⟨hp1,a0,b0,hab,rfl⟩
 ·refine FT 2 (by decide) fun n=>?_;rw[N8,Hi,if_pos (by simp),gP ⟨⟨by decide,by simp⟩,by simp,trivial⟩,lE];refine(WG (v11:=0) e h g f (w:=1) (by decide) (by decide) rfl (by decide) (by decide) (by decide)).trans ?_;rw[N8,HS,Hi,if_neg (by simp),if_pos rfl,Int.zero_add,Int.add_zero]
 ·have j:=u0O e h g f (w:=a) (by omega) (by omega);refine FT 3 (by decide) fun n=>?_;rw[N8,Hi,if_pos (by simp),gP ⟨⟨by decide,by simp⟩,by simp,trivial⟩,lE];refine(WG (v11:=0) e h g f (w:=a) (by omega) (by omega) rfl (by decide) (by decide) (by decide)).trans ?_;rw[N8,HS,Hi,if_pos (by simp),gP ⟨⟨by decide,by simp⟩,by simp,trivial⟩,lE];refine(WG (v11:=1) e hp1 g f (w:=b) (by omega) (by omega) (Int.natCast_succ p).symm (by decide) (by omega) (by omega)).trans ?_;rw[N8,HU,Hi,if_neg (by simp),if_neg (by omega),Int.zero_add]
theorem H0B{t:u6}(g:C8 t=true){p q:Nat}(l:p<t.1.length)(j:q<t.2.1.length){a b c d:Int}{L M:List (Int×Int)}(y:Sh t.1.length p a b L)(e:Sh t.2.1.length q c d M)(m:Int) :
  lp (IV t ((p:Int),a,b) ((q:Int),c,d) m) (0,0)=OX ((p:Int),a,b) ((q:Int),c,d) m (q9 t p q a c d+(if b=0 then 0 else q9 t (p+1) q b c d)):=by
 have i:0<=a/\a<=100000/\0<=b/\b<=100000/\(b≠0->p+1<t.1.length):=by
  rcases y with ⟨rfl,rfl,_⟩ | ⟨_,_,_,_,_⟩ <;> omega
 obtain⟨k,o,E,F,h⟩:=i;have f:0<=c/\c<=100000/\0<=d/\d<=100000:=by
  rcases e with ⟨rfl,rfl,_⟩ | ⟨_,_,_,_,_⟩ <;> omega
 obtain⟨x,z,s,v⟩:=f;have G:=u0O g l j e k o;refine FT 3 (by decide) fun n=>?_;rw[N8,IV,if_pos (by simp)];refine(B0E (u:=0) (p:=p) (r:=p) (w:=a) g rfl (by decide) l j e rfl k o (by decide) (by decide)).trans ?_;rw[N8,HS,IV,if_pos (by simp)];by_cases hz:b=0
 ·subst hz;refine(H0A (u:=1) (by decide) rfl x z s v).trans ?_;rw[N8,HU,IV,if_neg (by simp),if_pos rfl,Int.zero_add,Int.add_zero]
 ·refine(B0E (u:=1) (p:=p) (r:=p+1) (w:=b) g rfl (by decide) (h hz) j e rfl E F (by omega) (by omega)).trans ?_;rw[N8,HU,IV,if_neg (by simp),if_neg hz,Int.zero_add]
theorem C0d{t:u6}(a:C8 t=true){r q:Nat}(b:r<t.1.length)(c:q<t.2.1.length) : -1000000<=J0 t r q/\J0 t r q<=1000000:=by
 obtain⟨_,_,_,_,d,_,_⟩:=FK a;exact p0I a (i:=r*t.2.1.length+q) (by have:=QZ b c; omega)
theorem WK{v w c:Int}(f : -1000000<=v)(d:v<=1000000)(b:0<=w)(e:0<=c) : -(1000000*(w*c))<=v*w*c/\v*w*c<=1000000*(w*c):=by
 have a:0<=w*c:=Int.mul_nonneg b e;rw[Int.mul_assoc];refine⟨?_,Int.mul_le_mul_of_nonneg_right d a⟩;have:=Int.mul_le_mul_of_nonneg_right f a;rw[Int.neg_mul] at this;exact this
theorem JR{t:u6}(g:C8 t=true){r q:Nat}(h:r<t.1.length)(j:q<t.2.1.length){w c d:Int}{M:List (Int×Int)}(i:Sh t.2.1.length q c d M)(b:0<=w) : -(1000000*(w*(c+d)))<=q9 t r q w c d/\q9 t r q w c d<=1000000*(w*(c+d)):=by
 unfold q9;have a:=C0d g h j;rcases i with ⟨rfl,rfl,_⟩ | ⟨hq1,c0,d0,hcd,_⟩
 ·have f:=WK a.1 a.2 b (c:=1) (by decide);rw[Int.mul_zero,Int.add_zero,Int.add_zero]; exact f
 ·have e:=C0d g h hq1;have f:=WK a.1 a.2 b (c:=c) (by omega);have k:=WK e.1 e.2 b (c:=d) (by omega);rw[Int.mul_add w,Int.mul_add 1000000];omega
theorem JS{t:u6}(f:C8 t=true)(s l m:Int):∃r,J5 t s l m=some r/\BM t s l m=some r /\ -1000000<=r/\r<=1000000:=by
 have h:F8 t.1=true/\F8 t.2.1=true:=by
  simp only[C8,ba] at f;exact⟨f.1.1.1,f.1.1.2⟩
 obtain⟨p,a,b,L,n,j,F,H⟩:=HV s h.1;obtain⟨q,c,d,M,i,g,E,P⟩:=HV l h.2;have k:0<=a/\0<=b/\1<=a+b/\a+b<=100000/\a<=100000/\b<=100000/\(b≠0->p+1<t.1.length):=by
  rcases j with ⟨rfl,rfl,_⟩ | ⟨_,_,_,_,_⟩ <;> omega
 have G:1<=c+d/\c+d<=100000:=by
  rcases g with ⟨rfl,rfl,_⟩ | ⟨_,_,_,_,_⟩ <;> omega
 have T:=J6 (A:=100000) (B:=100000) (x:=a+b) (y:=c+d) (by omega) (by omega) (by omega) (by omega) (by decide);have e:0 < (a+b)*(c+d):=Int.mul_pos (by omega) (by omega);have W:=JR f n i g (w:=a) (by omega);have Q : -(1000000*(b*(c+d)))<=(if b=0 then 0 else q9 t (p+1) q b c d)/\(if b=0 then 0 else q9 t (p+1) q b c d)<=1000000*(b*(c+d)):=by
  by_cases hz:b=0
  ·rw[if_pos hz,hz,Int.zero_mul]; decide
  ·rw[if_neg hz]; exact JR f (k.2.2.2.2.2.2 hz) i g (by omega)
 have V:1000000*((a+b)*(c+d))=1000000*(a*(c+d))+1000000*(b*(c+d)):=by rw[Int.add_mul,Int.mul_add 1000000]
 obtain⟨u,v⟩:=V8 (q9 t p q a c d+(if b=0 then 0 else q9 t (p+1) q b c d)) ((a+b)*(c+d)) m (by omega) (by omega) e;have o:=FU (a:=q9 t p q a c d+(if b=0 then 0 else q9 t (p+1) q b c d)) (K:=1000000) m e (by omega) (by omega);have z:c9 ((a+b)*(c+d)):=oo;have i2:c9 (a+b):=oo;have i3:c9 (c+d):=oo;refine⟨_,?_,?_,o⟩
 ·unfold J5;rw[H,gP ⟨rfl,trivial⟩,vS,lE,P,gP ⟨rfl,trivial⟩,vS,lE,WJ f n i j g,Jj,u,gP ⟨z,rfl,trivial⟩,vS,lE]
 ·unfold BM;rw[F,gP ⟨rfl,trivial⟩,vS,lE,E,gP ⟨rfl,trivial⟩,vS,lE,H0B f n i j g,OX,v,gP ⟨i2,i3,z,rfl,trivial⟩,vS,lE]
end Go.Proofs.YtdjgagoledoaaaaGreatDoor
end
section
namespace Go.Proofs.YtdjgagoledoaaaaGreatDoor
open Go Go.Proofs Go.Proofs.Sv Go.Proofs.Xv Go.Proofs.Xl Go.Proofs.Xd
section
variable {b:j7}
theorem HW(b:j7){n:Nat}(h:n<b.2.2.length):(m9 b).2.2.2.1.getD ((n:Int)).toNat 0=(z6 b n).getD 0 0/\ix (n:Int) (m9 b).2.2.2.1.length:=by
 have a:(m9 b).2.2.2.1.length=b.2.2.length:=FO _ _;exact⟨MY _ 0 _ n h,oo⟩
theorem HX(b:j7){n:Nat}(h:n<b.2.2.length):(m9 b).2.2.2.2.1.getD ((n:Int)).toNat []=Z1 b n/\ix (n:Int) (m9 b).2.2.2.2.1.length:=by
 have a:(m9 b).2.2.2.2.1.length=b.2.2.length:=FO _ _;exact⟨MY _ [] _ n h,oo⟩
theorem H0L(F:wf k8 b)(g:p8 b=true){n k:Nat}(H:n<b.2.2.length)(W:k < (x8 b.2.1 n).length){s m:Int}(e:0<=s)(G:s<=1000000)(Q:m=0∨m=1) :
  ∃r,W7 s ((Z1 b n).getD k 0) m=some r/\KZ b (n:Int) (k:Int) s m=some r/\0<=r:=by
 have d:=Br g H;obtain⟨T,i⟩:=d.delays;have c:=i (w6 b n k).toNat;have w:=d.sn;have o:=d.wf.snkIn k (by omega);obtain⟨f1,X,Y⟩:=Rb s ((A7 b n).getD (w6 b n k).toNat 0);have hs:=J6 (A:=1000000) (B:=1000000) (x:=s) (y:=s) (by omega) (by omega) (by omega) (by omega) (by decide);have q:=J6 (A:=301000000) (B:=301000000) (x:=(A7 b n).getD (w6 b n k).toNat 0) (y:=(A7 b n).getD (w6 b n k).toNat 0) (by omega) (by omega) (by omega) (by omega) (by decide);have h:0<=s*s:=Int.mul_nonneg e e;have v:0<=(A7 b n).getD (w6 b n k).toNat 0*(A7 b n).getD (w6 b n k).toNat 0:=Int.mul_nonneg c.1 c.1;obtain⟨r,z,V,u,P,l,_⟩:=K0r e G c.1 c.2 Q;refine⟨r,by grind[HK],?_,l⟩;have E:((n:Int)).toNat=n:=rfl;have j:((k:Int)).toNat=k:=rfl;have a:0<=(b.2.2.getD n (b7 l7)).2.2.2.getD k 0/\((b.2.2.getD n (b7 l7)).2.2.2.getD k 0).toNat < (A7 b n).length:=by rw[T]; exact o
 have t:k < (b.2.2.getD n (b7 l7)).2.2.2.length:=by
  show k < (m3 b n).2.2.2.length;omega
 unfold KZ;rw[L0F b F d,vS,E,j,gP ⟨rfl,oo,oo,⟨a.1,by omega⟩,a.2,trivial⟩,lE];show gd (c9 (1000000*s)/\c9 (1000000*s*s)/\c9 (4*(A7 b n).getD (w6 b n k).toNat 0)/\c9 (4*(A7 b n).getD (w6 b n k).toNat 0*(A7 b n).getD (w6 b n k).toNat 0)/\c9 (1000000*s*s+4*(A7 b n).getD (w6 b n k).toNat 0*(A7 b n).getD (w6 b n k).toNat 0)/\(Cw (1000000*s*s+4*(A7 b n).getD (w6 b n k).toNat 0*(A7 b n).getD (w6 b n k).toNat 0) m).isSome=true/\(W4 (vl (Cw (1000000*s*s+4*(A7 b n).getD (w6 b n k).toNat 0*(A7 b n).getD (w6 b n k).toNat 0) m)) 1000 m).isSome=true/\True) (lt (vl (W4 (vl (Cw (1000000*s*s+4*(A7 b n).getD (w6 b n k).toNat 0*(A7 b n).getD (w6 b n k).toNat 0) m)) 1000 m)) fun f=>some f)=_;rw[u,vS,P,vS,gP ⟨oo,oo,oo,oo,oo,rfl,rfl,trivial⟩,lE]
theorem Np(j:wf k8 b)(f:p8 b=true){q:Int}(o:m0 q 0 (((lV b).length:Int)-1)=true){s m:Int}(H:0<=s)(E:s<=1000000)(F:m=0∨m=1) :
  ∃r,F7 (m9 b) q s m=some r/\Be b ((lV b).getD q.toNat (b7 y80)) s m=some r/\r<=1000000:=by
 have o:=z8.1 o;have e:ix q (m9 b).2.2.1.length:=⟨o.1,by show q < ((lV b).length:Int); omega⟩;generalize hl:(lV b).getD q.toNat (b7 y80)=l;have d:(m9 b).2.2.1.getD q.toNat (b7 y80)=l:=hl;have c:l∈lV b:=by rw[<- hl]; exact H5 (by omega)
 rcases HP f c with ⟨a,n,h⟩ | ⟨n,k,h⟩
 ·obtain⟨t,x⟩:=CN h.slw h.trs;obtain⟨r,G,T,V,z⟩:=JS x s ((z6 b n).getD 0 0) m;obtain⟨i,g⟩:=HW b h.nlt;refine⟨r,?_,?_,z⟩
  ·unfold F7;refine(gP ⟨e,trivial⟩).trans ?_;rw[lE,d,Z2 h.pix h.net,vS,gP ⟨rfl,trivial⟩,lE];refine(if_pos (by rw[h.kind]; rfl)).trans ?_;rw[HQ h,vS,i,G,vS];refine(gP ⟨rfl,by decide,t,g,rfl,trivial⟩).trans ?_;rw[lE];have:min r 1000000=r:=by omega
   rw[this]
  ·unfold Be;refine(if_pos (by rw[h.kind]; rfl)).trans ?_;rw[L0I j f h,vS,gP ⟨rfl,trivial⟩,lE];show gd (_/\ix (l.2.1.tmod 2) a.2.2.2.2.2.length/\(BM (a.2.2.2.2.2.getD (l.2.1.tmod 2).toNat (b7 y70)) s ((z6 b n).getD 0 0) m).isSome=true/\True) (lt (vl (BM (a.2.2.2.2.2.getD (l.2.1.tmod 2).toNat (b7 y70)) s ((z6 b n).getD 0 0) m)) fun Q=>some Q)=_;rw[T,vS,gP ⟨by decide,t,rfl,trivial⟩,lE]
 ·obtain⟨r,u,w,W⟩:=H0L j f h.nlt h.klt H E F;obtain⟨i,g⟩:=HX b h.nlt;have P:=HL b n;have y:=h.klt;refine⟨min r 1000000,?_,?_,by omega⟩
  ·unfold F7;refine(gP ⟨e,trivial⟩).trans ?_;rw[lE,d,Z2 h.pix h.net,vS,gP ⟨rfl,trivial⟩,lE];refine(if_neg (by rw[h.kind]; decide)).trans ?_;rw[i,h.idx];have v:((k:Int)).toNat=k:=rfl;rw[v,u,vS];refine(gP ⟨g,oo,rfl,trivial⟩).trans ?_;rw[lE]
  ·unfold Be;refine(if_neg (by rw[h.kind]; decide)).trans ?_;rw[L0H j f h,vS,h.idx,w,vS,gP ⟨rfl,rfl,trivial⟩,lE,Int.min_comm]
def C0(c:p7)(k m:Int):Int:=if(k==1)=true then(if(m==0)=true then c.2.1 else c.2.2.1) else(if(m==0)=true then c.2.2.2.1 else c.2.2.2.2)
theorem Nq(c:p7)(k m:Int):Jl c k m=some (C0 c k m):=by
 grind[Jl,C0]
theorem M0X(c:p7)(k m:Int):GS c k m=some (C0 c k m):=by
 grind[GS,C0]
def F6(c:p7):Bool:=I4 c.1&&(decide (100<=c.2.1)&&decide (c.2.1<=c.2.2.1)&&decide (c.2.2.1<=5000))&&(decide (100<=c.2.2.2.1)&&decide (c.2.2.2.1<=c.2.2.2.2)&&decide (c.2.2.2.2<=5000))
theorem DN{c:p7}(h:F6 c=true)(k m:Int):0<=C0 c k m/\C0 c k m<=5000:=by
 grind[F6,C0]
theorem Rd(z:wf k8 b)(j:p8 b=true){c:p7}(hc:F6 c=true){q:Int}(G:m0 q 0 (((lV b).length:Int)-1)=true)(s m:Int) :
  ∃r,L6 (m9 b) c q s m=some r/\Bf b c ((lV b).getD q.toNat (b7 y80)) s m=some r /\ -6000000<=r/\r<=6000000:=by
 have G:=z8.1 G;have i:ix q (m9 b).2.2.1.length:=⟨G.1,by show q < ((lV b).length:Int); omega⟩;generalize hl:(lV b).getD q.toNat (b7 y80)=l;have g:(m9 b).2.2.1.getD q.toNat (b7 y80)=l:=hl;have e:l∈lV b:=by rw[<- hl]; exact H5 (by omega)
 have hf:=DN hc l.2.2.1 m;have d:∀p:Int,-1000000<=p->p<=1000000->AH c l m p=some (u4 (p*C0 c l.2.2.1 m) 1000 m)/\IW c l m p=some (u4 (p*C0 c l.2.2.1 m) 1000 m) /\ -6000000<=u4 (p*C0 c l.2.2.1 m) 1000 m/\u4 (p*C0 c l.2.2.1 m) 1000 m<=6000000:=fun p p0 p1=>by
  have hp:=J6 (A:=1000000) (B:=5000) (x:=p) (y:=C0 c l.2.2.1 m) (by omega) (by omega) (by omega) (by omega) (by decide);have u:=V8 (p*C0 c l.2.2.1 m) 1000 m (by omega) (by omega) (by decide);have T:=FU (a:=p*C0 c l.2.2.1 m) (b:=1000) (K:=6000000) m (by decide) (by omega) (by omega);have w:AG p (C0 c l.2.2.1 m) m=some (u4 (p*C0 c l.2.2.1 m) 1000 m):=by
   unfold AG;rw[u.1,vS,gP ⟨oo,rfl,trivial⟩,lE]
  refine⟨?_,?_,T⟩
  ·rw[AH,Nq,vS,w,vS,gP ⟨rfl,rfl,trivial⟩,lE]
  ·rw[IW,M0X,vS,u.2,vS,gP ⟨rfl,oo,rfl,trivial⟩,lE]
 rcases HP j e with ⟨a,n,h⟩ | ⟨n,k,h⟩
 ·obtain⟨P,W⟩:=CN h.del h.trs;obtain⟨r,l1,l2,Y,X⟩:=JS W s ((z6 b n).getD 0 0) m;obtain⟨t,o⟩:=HW b h.nlt;obtain⟨v,F,E⟩:=d r Y X;refine⟨_,?_,?_,E⟩
  ·unfold L6;refine(gP ⟨i,trivial⟩).trans ?_;rw[lE,g,Z2 h.pix h.net,vS,gP ⟨rfl,trivial⟩,lE];refine(if_pos (by rw[h.kind]; rfl)).trans ?_;rw[HQ h,vS,t,l1,vS];refine(gP ⟨rfl,by decide,P,o,rfl,trivial⟩).trans ?_;rw[lE];exact v
  ·unfold Bf;refine(if_pos (by rw[h.kind]; rfl)).trans ?_;rw[L0I z j h,vS,gP ⟨rfl,trivial⟩,lE];show gd (_/\ix (l.2.1.tmod 2) a.2.2.2.2.1.length/\(BM (a.2.2.2.2.1.getD (l.2.1.tmod 2).toNat (b7 y70)) s ((z6 b n).getD 0 0) m).isSome=true/\True) (lt (vl (BM (a.2.2.2.2.1.getD (l.2.1.tmod 2).toNat (b7 y70)) s ((z6 b n).getD 0 0) m)) fun v1=>IW c l m v1)=_;rw[l2,vS,gP ⟨by decide,P,rfl,trivial⟩,lE];exact F
 ·have Q:=Br j h.nlt;obtain⟨dl,V⟩:=Q.delays;have u:=V (w6 b n k).toNat;obtain⟨t,o⟩:=HX b h.nlt;have aB:=HL b n;have f:=h.klt;have aA:=u0G b n m;have H:((k:Int)).toNat=k:=rfl;have T:=FU (a:=(A7 b n).getD (w6 b n k).toNat 0) (b:=1000) (K:=301000) m (by decide) (by omega) (by omega);obtain⟨v,F,E⟩:=d (u4 ((A7 b n).getD (w6 b n k).toNat 0) 1000 m) (by omega) (by omega);refine⟨_,?_,?_,E⟩
  ·unfold L6;refine(gP ⟨i,trivial⟩).trans ?_;rw[lE,g,Z2 h.pix h.net,vS,gP ⟨rfl,trivial⟩,lE];refine(if_neg (by rw[h.kind]; decide)).trans ?_;rw[t,h.idx,H,HK f,(V8 _ 1000 m (by omega) (by omega) (by decide)).1,vS];refine(gP ⟨o,oo,rfl,trivial⟩).trans ?_;rw[lE];exact v
  ·unfold Bf;refine(if_neg (by rw[h.kind]; decide)).trans ?_;rw[L0H z j h,vS,M0Y b z Q,vS,h.idx,H,gP ⟨rfl,rfl,oo,by omega,trivial⟩,lE,u0H f];exact F
theorem L0M(s:Int):Fw s=some (m0 s 0 1000000):=by
 unfold Fw;rw[Y7,vS,gP ⟨rfl,trivial⟩]
end
theorem WL{b:j7}{q:Int}(h:m0 q 0 (((lV b).length:Int)-1)=true):ix q (lV b).length/\q.toNat < (lV b).length:=by
 have:=z8.1 h;exact⟨oo,by omega⟩
theorem r54(c:p7)(e:wf p5 c):Hm c=some (F6 c):=by
 have d:∀a b,Hl a b=some (decide (100<=a)&&decide (a<=b)&&decide (b<=5000)):=fun _ _=>rfl;unfold Hm F6;rw[We _ e.1,vS,d,vS,d,vS,gP ⟨rfl,(fun _=>rfl),(fun _=>rfl),trivial⟩]
def WM(c:p7)(i:Nat):Bool:=!m0 ([c.2.1,c.2.2.1,c.2.2.2.1,c.2.2.2.2].getD i 0) 100 5000
theorem r70(c:p7)(q:wf p5 c):LA c=some (F6 c):=by
 unfold LA;rw[lE];have b:=H2 (n:=4) (by decide) (WM c) (some false) (e:=Lz c ()) (F:=Pp [c.2.1,c.2.2.1,c.2.2.2.1,c.2.2.2.2] c) (fun g i hi=>by
  have l:((i:Int)).toNat=i:=rfl;have f:([c.2.1,c.2.2.1,c.2.2.2.1,c.2.2.2.2]:List Int).length=4:=rfl;refine(if_pos (decide_eq_true (by rw[f]; omega))).trans ?_;rw[l,S9,vS,gP ⟨⟨by omega,by rw[f]; omega⟩,hi,rfl,trivial⟩,gP ⟨oo,trivial⟩];rfl) (fun g=>by
  show Pp [c.2.1,c.2.2.1,c.2.2.2.1,c.2.2.2.2] c g (((4:Nat):Int))=_;rw[Pp];exact if_neg (by simp))
 refine b.trans ?_;have k:Lz c ()=some (I4 c.1&&decide (c.2.1<=c.2.2.1)&&decide (c.2.2.2.1<=c.2.2.2.2)):=by
  unfold Lz;rw[QQ _ q.1,vS,gP ⟨rfl,trivial⟩]
 rw[k];have m:(List.range 4).any (WM c)=(!m0 c.2.1 100 5000||(!m0 c.2.2.1 100 5000||(!m0 c.2.2.2.1 100 5000||(!m0 c.2.2.2.2 100 5000||false)))):=rfl;have o:(if(List.range 4).any (WM c)=true then false else(I4 c.1&&decide (c.2.1<=c.2.2.1)&&decide (c.2.2.2.1<=c.2.2.2.2)))=F6 c:=by
  rw[m,Bool.eq_iff_iff];unfold F6 m0;by_cases h:(!(decide (100<=c.2.1)&&decide (c.2.1<=5000))||(!(decide (100<=c.2.2.1)&&decide (c.2.2.1<=5000))||(!(decide (100<=c.2.2.2.1)&&decide (c.2.2.2.1<=5000))||(!(decide (100<=c.2.2.2.2)&&decide (c.2.2.2.2<=5000))||false))))=true
  ·rw[if_pos h];simp only[Bool.or_eq_true,Bool.not_eq_true',Bool.and_eq_false_iff,decide_eq_false_iff_not,Bool.false_eq_true,or_false] at h;simp only[ba,dq,Bool.false_eq_true,false_iff];rintro⟨⟨_,a⟩,d⟩;omega
  ·rw[if_neg h];simp only[Bool.or_eq_true,Bool.not_eq_true',Bool.and_eq_false_iff,decide_eq_false_iff_not,Bool.false_eq_true,or_false] at h;simp only[ba,dq];constructor
   ·rintro⟨⟨a,d⟩,j⟩;exact⟨⟨a,by omega⟩,by omega⟩
   ·rintro⟨⟨a,d⟩,j⟩;exact⟨⟨a,by omega⟩,by omega⟩
 rw[<- o];split <;> rfl
end Go.Proofs.YtdjgagoledoaaaaGreatDoor
end
section
namespace Go.Proofs.YtdjgagoledoaaaaGreatDoor
open Go Go.Proofs Go.Proofs.Xv Go.Proofs.Xl Go.Proofs.Xd
theorem JT{a b:Int}(m:Int)(c:0<=a)(d:0<b):0<=u4 a b m:=by
 unfold u4;have e:=Int.emod_nonneg a (Int.ne_of_gt d);have f:0<=a / b:=Int.ediv_nonneg c (Int.le_of_lt d);rw[Int.tdiv_eq_ediv_of_nonneg c,Int.tmod_eq_emod_of_nonneg c,if_neg (by rw[ba,dq]; omega)];split <;> omega
theorem v0s(xs:List Int):∀n i,i<=n->fN (fun i m=>min m (xs.getD (i+1) 0)) n (xs.getD 0 0)<=xs.getD i 0
 | 0,i,h=>by
   have:i=0:=by omega
   subst this;exact Int.le_refl _
 | n+1,i,h=>by
   show min (fN (fun i m=>min m (xs.getD (i+1) 0)) n (xs.getD 0 0)) (xs.getD (n+1) 0)<=_;rcases Nat.lt_or_ge n i with a | a
   ·have:i=n+1:=by omega
    subst this;omega
   ·have:=v0s xs n i a;omega
theorem Re{l:List DC}(h:D9 l true=true){t:DC}(b:t∈l):∀i,i<t.2.2.length->0<=t.2.2.getD i 0:=fun i hi=>by
 unfold D9 at h;rw[ba] at h;have:=List.all_eq_true.1 h.2 t b;simp only[Bool.true_and,ba,Bool.not_eq_true',decide_eq_false_iff_not] at this;have c:=v0s t.2.2 (t.2.2.length-1) i (by omega);have a:¬AJ t.2.2<0:=this.2;unfold AJ at a;omega
theorem Rf{t:u6}(f:∀i,i<t.2.2.length->0<=t.2.2.getD i 0){r q:Nat}{w c d:Int}(a:0<=w)(g:0<=c)(e:0<=d):0<=q9 t r q w c d:=by
 have b:∀r q,0<=J0 t r q:=fun r q=>by
  unfold J0;rcases Nat.lt_or_ge (r*t.2.1.length+q) t.2.2.length with h | h
  ·exact f _ h
  ·rw[gq,List.getElem?_eq_none h]; exact Int.le_refl _
 unfold q9;have k:=Int.mul_nonneg (Int.mul_nonneg (b r q) a) g;have j:=Int.mul_nonneg (Int.mul_nonneg (b r (q+1)) a) e;omega
theorem q0A{t:u6}(h:C8 t=true)(F:∀i,i<t.2.2.length->0<=t.2.2.getD i 0)(s l m:Int):∀r,J5 t s l m=some r->0<=r:=by
 intro r E;have k:F8 t.1=true/\F8 t.2.1=true:=by
  simp only[C8,ba] at h;exact⟨h.1.1.1,h.1.1.2⟩
 obtain⟨p,a,b,L,j,z,T,H⟩:=HV s k.1;obtain⟨q,c,d,M,v,n,Q,P⟩:=HV l k.2;have g:0<=a/\0<=b/\1<=a+b/\a+b<=100000/\a<=100000/\b<=100000/\(b≠0->p+1<t.1.length):=by
  rcases z with ⟨rfl,rfl,_⟩ | ⟨_,_,_,_,_⟩ <;> omega
 have e:0<=c/\0<=d/\1<=c+d/\c+d<=100000:=by
  rcases n with ⟨rfl,rfl,_⟩ | ⟨_,_,_,_,_⟩ <;> omega
 have X:=J6 (A:=100000) (B:=100000) (x:=a+b) (y:=c+d) (by omega) (by omega) (by omega) (by omega) (by decide);have f:0 < (a+b)*(c+d):=Int.mul_pos (by omega) (by omega);have x1:=JR h j v n (w:=a) (by omega);have V : -(1000000*(b*(c+d)))<=(if b=0 then 0 else q9 t (p+1) q b c d)/\(if b=0 then 0 else q9 t (p+1) q b c d)<=1000000*(b*(c+d)):=by
  by_cases hz:b=0
  ·rw[if_pos hz,hz,Int.zero_mul]; decide
  ·rw[if_neg hz]; exact JR h (g.2.2.2.2.2.2 hz) v n (by omega)
 have Y:=Rf F (r:=p) (q:=q) g.1 e.1 e.2.1;have W:0<=(if b=0 then 0 else q9 t (p+1) q b c d):=by
  split
  ·exact Int.le_refl _
  ·exact Rf F g.2.1 e.1 e.2.1
 have ed:1000000*((a+b)*(c+d))=1000000*(a*(c+d))+1000000*(b*(c+d)):=by rw[Int.add_mul,Int.mul_add 1000000]
 have u:=(V8 (q9 t p q a c d+(if b=0 then 0 else q9 t (p+1) q b c d)) ((a+b)*(c+d)) m (by omega) (by omega) f).1;have G:c9 ((a+b)*(c+d)):=oo;have o:J5 t s l m=some (u4 (q9 t p q a c d+(if b=0 then 0 else q9 t (p+1) q b c d)) ((a+b)*(c+d)) m):=by
  unfold J5;rw[H,gP ⟨rfl,trivial⟩,vS,lE,P,gP ⟨rfl,trivial⟩,vS,lE,WJ h j v z n,Jj,u,gP ⟨G,rfl,trivial⟩,vS,lE]
 rw[o] at E;cases E;exact JT m (by omega) f
end Go.Proofs.YtdjgagoledoaaaaGreatDoor
end
section
namespace Go.Proofs.YtdjgagoledoaaaaGreatDoor
open Go Go.Proofs Go.Proofs.Sv Go.Proofs.Xv Go.Proofs.Xl Go.Proofs.Xd
theorem Rg{a:Int}(m:Int)(h:0<=a):u4 a 1000 m=if 0<a % 1000/\m=1 then a / 1000+1 else a / 1000:=by
 unfold u4;have b:=Int.emod_nonneg a (show(1000:Int)≠0 by decide);rw[Int.tdiv_eq_ediv_of_nonneg h,Int.tmod_eq_emod_of_nonneg h,if_neg (by rw[ba,dq]; omega)];by_cases c:0<a % 1000/\m=1
 ·rw[if_pos c,if_pos (by rw[ba,dq,beq_iff_eq]; exact c)]
 ·rw[if_neg c,if_neg (by rw[ba,dq,beq_iff_eq]; exact c)]
theorem w0e{a b:Int}(m:Int)(h:0<=a)(c:a<=b):u4 a 1000 m<=u4 b 1000 m:=by
 rw[Rg m h,Rg m (by omega)];split <;> split <;> omega
theorem WN{a b:Int}(h:0<=a)(c:a<=b):u4 a 1000 0<=u4 b 1000 1:=by
 rw[Rg 0 h,Rg 1 (by omega)];rw[if_neg (by omega)];split <;> omega
theorem v0q{p x y:Int}(a:0<=p)(h:x<=y):p*x<=p*y:=Int.mul_le_mul_of_nonneg_left h a
section
variable {b:j7}
structure R0A(b:j7)(q:Int)(B:Int->Int->Int):Prop where
 bd:∀s m,0<=B s m/\B s m<=1000000
 val:∀c,F6 c=true->∀s m,L6 (m9 b) c q s m=some (u4 (B s m*C0 c ((lV b).getD q.toNat (b7 y80)).2.2.1 m) 1000 m)
theorem E0t(T:p8 b=true){q:Int}(Q:m0 q 0 (((lV b).length:Int)-1)=true):∃B,R0A b q B:=by
 have Q:=z8.1 Q;have j:ix q (m9 b).2.2.1.length:=⟨Q.1,by show q < ((lV b).length:Int); omega⟩;generalize hl:(lV b).getD q.toNat (b7 y80)=l;have i:(m9 b).2.2.1.getD q.toNat (b7 y80)=l:=hl;have f:l∈lV b:=by rw[<- hl]; exact H5 (by omega)
 have e:∀(c:p7) (m p:Int),F6 c=true -> -1000000<=p->p<=1000000->AH c l m p=some (u4 (p*C0 c l.2.2.1 m) 1000 m):=fun c m p g p0 p1=>by
  have hf:=DN g l.2.2.1 m;have hp:=J6 (A:=1000000) (B:=5000) (x:=p) (y:=C0 c l.2.2.1 m) (by omega) (by omega) (by omega) (by omega) (by decide);have W:=V8 (p*C0 c l.2.2.1 m) 1000 m (by omega) (by omega) (by decide);have E:AG p (C0 c l.2.2.1 m) m=some (u4 (p*C0 c l.2.2.1 m) 1000 m):=by
   unfold AG;rw[W.1,vS,gP ⟨oo,rfl,trivial⟩,lE]
  rw[AH,Nq,vS,E,vS,gP ⟨rfl,rfl,trivial⟩,lE]
 rcases HP T f with ⟨a,n,h⟩ | ⟨n,k,h⟩
 ·obtain⟨w,u⟩:=CN h.del h.trs;have F:(l.2.1.tmod 2).toNat<a.2.2.2.2.1.length:=by have:=w.1; have:=w.2; omega
  have P:=Re h.del (H5 (d:=b7 y70) F);obtain⟨z,t⟩:=HW b h.nlt;refine⟨fun s m=>vl (J5 (a.2.2.2.2.1.getD (l.2.1.tmod 2).toNat (b7 y70)) s ((z6 b n).getD 0 0) m),⟨fun s m=>?_,fun c g s m=>?_⟩⟩
  ·obtain⟨r,o,l2,X,V⟩:=JS u s ((z6 b n).getD 0 0) m;have:=q0A u P s ((z6 b n).getD 0 0) m r o;rw[o,vS];omega
  ·obtain⟨r,o,l2,X,V⟩:=JS u s ((z6 b n).getD 0 0) m;show _=some (u4 (vl (J5 (a.2.2.2.2.1.getD (l.2.1.tmod 2).toNat (b7 y70)) s ((z6 b n).getD 0 0) m)*C0 c ((lV b).getD q.toNat (b7 y80)).2.2.1 m) 1000 m);rw[hl];unfold L6;refine(gP ⟨j,trivial⟩).trans ?_;rw[lE,i,Z2 h.pix h.net,vS,gP ⟨rfl,trivial⟩,lE];refine(if_pos (by rw[h.kind]; rfl)).trans ?_;rw[HQ h,vS,z,o,vS];refine(gP ⟨rfl,by decide,w,t,rfl,trivial⟩).trans ?_;rw[lE];exact e c m r g X V
 ·have no:=Br T h.nlt;obtain⟨dl,Y⟩:=no.delays;have W:=Y (w6 b n k).toNat;obtain⟨z,t⟩:=HX b h.nlt;have aA:=HL b n;have v:=h.klt;have e4:((k:Int)).toNat=k:=rfl;have G:=fun m=>FU (a:=(A7 b n).getD (w6 b n k).toNat 0) (b:=1000) (K:=301000) m (by decide) (by omega) (by omega);have H:=fun m=>JT (a:=(A7 b n).getD (w6 b n k).toNat 0) (b:=1000) m (by omega) (by decide);refine⟨fun _ m=>u4 ((A7 b n).getD (w6 b n k).toNat 0) 1000 m,⟨fun s m=>⟨H m,by have:=(G m).2; omega⟩,fun c g s m=>?_⟩⟩;show _=some (u4 (u4 ((A7 b n).getD (w6 b n k).toNat 0) 1000 m*C0 c ((lV b).getD q.toNat (b7 y80)).2.2.1 m) 1000 m);rw[hl];unfold L6;refine(gP ⟨j,trivial⟩).trans ?_;rw[lE,i,Z2 h.pix h.net,vS,gP ⟨rfl,trivial⟩,lE];refine(if_neg (by rw[h.kind]; decide)).trans ?_;rw[z,h.idx,e4,HK v,(V8 _ 1000 m (by omega) (by omega) (by decide)).1,vS];refine(gP ⟨t,oo,rfl,trivial⟩).trans ?_;rw[lE];exact e c m _ g (by have:=G m; omega) (by have:=G m; omega)
end
theorem E0D{a b c:Int}(g:0<=a)(f:0<b)(h:a<=c*b):u4 a b 1<=c:=by
 rw[Bv g f];have e:=Int.mul_ediv_add_emod a b;split
 ·rename_i hz;rcases Int.lt_or_le (a / b) c with d | d
  ·omega
  ·have:=Int.mul_le_mul_of_nonneg_right d (show 0<=b by omega);have:b*(a / b)=a / b*b:=Int.mul_comm _ _;omega
 ·exact Int.ediv_le_of_le_mul f h
theorem D0V{a b:Int}(d:0<=a)(c:0<b):a<=u4 a b 1*b:=by
 rw[Bv d c];have e:=Int.mul_ediv_add_emod a b;have f:=Int.emod_lt_of_pos a c;have g:=Int.emod_nonneg a (show b≠0 by omega);have:b*(a / b)=a / b*b:=Int.mul_comm _ _;split
 ·grind
 ·omega
theorem JU{a b c d:Int}(i:0<=a)(g:0<b)(j:0<=c)(e:0<d)(h:a*d<=c*b){m:Int}(l:m=0∨m=1):u4 a b m<=u4 c d m:=by
 rcases l with rfl | rfl
 ·rw[DL i g,DL j e,Int.le_ediv_iff_mul_le e];have k:=Int.mul_le_mul_of_nonneg_right (Int.ediv_mul_le a (show b≠0 by omega)) (show 0<=d by omega);have f:a / b*d*b<=c*b:=by rw[Int.mul_assoc,Int.mul_comm d b,<- Int.mul_assoc]; omega
  exact Int.le_of_mul_le_mul_right f g
 ·refine E0D i g ?_;have k:=Int.mul_le_mul_of_nonneg_right (D0V j e) (show 0<=b by omega);have f:a*d<=u4 c d 1*b*d:=by rw[Int.mul_assoc,Int.mul_comm b d,<- Int.mul_assoc]; omega
  exact Int.le_of_mul_le_mul_right f e
theorem E0i{a b:Int}(c:0<=a)(d:0<b):u4 a b 0<=u4 a b 1:=by
 grind[DL,Bv]
theorem F0n{xs:List Int}(h:F8 xs=true){p:Nat}(a:p<xs.length):O9 xs (xs.getD p 0)=some ([((p:Int),1)],1):=by
 obtain⟨l,m⟩:=CI h;have f:((xs.length:Int)-1).toNat=xs.length-1:=by omega
 have j:xs.getD 0 0<=xs.getD p 0:=by
  rcases Nat.eq_zero_or_pos p with e | e
  ·grind
  ·have:=CM h e a; omega
 have k:xs.getD p 0<=xs.getD (xs.length-1) 0:=by
  rcases Nat.lt_or_ge p (xs.length-1) with e | e
  ·have:=CM h e (by omega); omega
  ·grind
 have b:A3 xs (xs.getD p 0)=xs.getD p 0:=by unfold A3; omega
 have d:∀i,i<p->xs.getD i 0<A3 xs (xs.getD p 0):=fun i hi=>by rw[b]; exact CM h hi a
 have c:∀i,p<=i->i<xs.length->A3 xs (xs.getD p 0)<=xs.getD i 0:=fun i hi g=>by
  rw[b];rcases Nat.eq_or_lt_of_le hi with e | e
  ·grind
  ·have:=CM h e g; omega
 unfold O9;rw[gP ⟨oo,oo,oo,trivial⟩,f];change lt (A3 xs (xs.getD p 0)) _=_;rw[lE,Nn (by omega) a d c,gP ⟨rfl,trivial⟩,vS,lE,if_pos (by grind)]
theorem Rh{t:u6}(j:C8 t=true)(_:∀i,i<t.2.2.length->0<=t.2.2.getD i 0){s l:Int}{p q:Nat}{a b c d:Int}{L M:List (Int×Int)}(f:p<t.1.length)(o:Sh t.1.length p a b L)(u:O9 t.1 s=some (L,a+b))(n:q<t.2.1.length)(g:Sh t.2.1.length q c d M)(z:O9 t.2.1 l=some (M,c+d))(m:Int) :
  J5 t s l m=some (u4 (q9 t p q a c d+(if b=0 then 0 else q9 t (p+1) q b c d)) ((a+b)*(c+d)) m):=by
 have k:0<=a/\0<=b/\1<=a+b/\a+b<=100000/\a<=100000/\b<=100000/\(b≠0->p+1<t.1.length):=by
  rcases o with ⟨rfl,rfl,_⟩ | ⟨_,_,_,_,_⟩ <;> omega
 have v:0<=c/\0<=d/\1<=c+d/\c+d<=100000:=by
  rcases g with ⟨rfl,rfl,_⟩ | ⟨_,_,_,_,_⟩ <;> omega
 have H:=J6 (A:=100000) (B:=100000) (x:=a+b) (y:=c+d) (by omega) (by omega) (by omega) (by omega) (by decide);have e:0 < (a+b)*(c+d):=Int.mul_pos (by omega) (by omega);have F:=JR j f n g (w:=a) (by omega);have G : -(1000000*(b*(c+d)))<=(if b=0 then 0 else q9 t (p+1) q b c d)/\(if b=0 then 0 else q9 t (p+1) q b c d)<=1000000*(b*(c+d)):=by
  by_cases hz:b=0
  ·grind
  ·rw[if_neg hz]; exact JR j (k.2.2.2.2.2.2 hz) n g (by omega)
 have E:1000000*((a+b)*(c+d))=1000000*(a*(c+d))+1000000*(b*(c+d)):=by grind
 have h:=(V8 (q9 t p q a c d+(if b=0 then 0 else q9 t (p+1) q b c d)) ((a+b)*(c+d)) m (by omega) (by omega) e).1;have r:c9 ((a+b)*(c+d)):=oo;unfold J5;rw[u,gP ⟨rfl,trivial⟩,vS,lE,z,gP ⟨rfl,trivial⟩,vS,lE,WJ j f n o g,Jj,h,gP ⟨r,rfl,trivial⟩,vS,lE]
theorem Nr(t:u6)(r q:Nat)(w c d:Int):q9 t r q w c d=w*q9 t r q 1 c d:=by
 grind[q9]
structure Ns(t:u6)(l:Int)(V:Int->Int->Int):Prop where
 val:∀s m,J5 t s l m=some (V s m)
 pos:∀s m,0<=V s m
 two:∀s,V s 0<=V s 1
 lo:∀s,∃i,i<t.1.length/\V (t.1.getD i 0) 0<=V s 0
 hi:∀s,∃i,i<t.1.length/\V s 1<=V (t.1.getD i 0) 1
theorem D0Q{t:u6}(E:C8 t=true)(G:∀i,i<t.2.2.length->0<=t.2.2.getD i 0)(l:Int):∃V,Ns t l V:=by
 have w:F8 t.1=true/\F8 t.2.1=true:=by
  simp only[C8,ba] at E;exact⟨E.1.1.1,E.1.1.2⟩
 obtain⟨q,c,d,M,T,H,X,Q⟩:=HV l w.2;have z:0<=c/\0<=d/\1<=c+d/\c+d<=100000:=by
  rcases H with ⟨rfl,rfl,_⟩ | ⟨_,_,_,_,_⟩ <;> omega
 have F:∀r,0<=q9 t r q 1 c d:=fun r=>Rf G (by decide) z.1 z.2.1;have j:∀s,∃(p:Nat) (a b:Int),p<t.1.length/\0<=a/\0<=b/\1<=a+b/\(b≠0->p+1<t.1.length)/\∀m,J5 t s l m=some (u4 (a*q9 t p q 1 c d+b*q9 t (p+1) q 1 c d) ((a+b)*(c+d)) m):=fun s=>by
  obtain⟨p,a,b,L,g,P,Y,W⟩:=HV s w.1;have e:0<=a/\0<=b/\1<=a+b/\(b≠0->p+1<t.1.length):=by
   rcases P with ⟨rfl,rfl,_⟩ | ⟨_,_,_,_,_⟩ <;> omega
  refine⟨p,a,b,g,e.1,e.2.1,e.2.2.1,e.2.2.2,fun m=>?_⟩;rw[Rh E G g P W T H Q m];by_cases hz:b=0
  ·rw[if_pos hz,Nr t p q a,hz,Int.zero_mul]
  ·rw[if_neg hz,Nr t p q a,Nr t (p+1) q b]
 have y:∀p,p<t.1.length->∀m,J5 t (t.1.getD p 0) l m=some (u4 (q9 t p q 1 c d) (c+d) m):=fun p g m=>by
  have:=Rh E G (a:=1) (b:=0) g (.inl ⟨rfl,rfl,rfl⟩) (F0n w.1 g) T H Q m;rw[this,if_pos rfl,Int.add_zero,Int.add_zero,Int.one_mul]
 have u:∀{a b:Int} (p:Nat),0<=a->0<=b->0<=a*q9 t p q 1 c d+b*q9 t (p+1) q 1 c d:=fun p o k=>by
  have:=Int.mul_nonneg o (F p);have:=Int.mul_nonneg k (F (p+1));omega
 have j5:∀{a b:Int},1<=a+b->0 < (a+b)*(c+d):=fun h=>Int.mul_pos (by omega) (by omega);refine⟨fun s m=>vl (J5 t s l m),⟨fun s m=>?_,fun s m=>?_,fun s=>?_,fun s=>?_,fun s=>?_⟩⟩
 ·obtain⟨p,a,b,_,_,_,_,_,h⟩:=j s
  grind[vl,J5,vS]
 ·obtain⟨p,a,b,_,o,k,e,_,h⟩:=j s;show 0<=vl (J5 t s l m);rw[h,vS];exact JT m (u p o k) (j5 e)
 ·obtain⟨p,a,b,_,o,k,e,_,h⟩:=j s;show vl (J5 t s l 0)<=vl (J5 t s l 1);rw[h,h,vS,vS];exact E0i (u p o k) (j5 e)
 ·obtain⟨p,a,b,g,o,k,e,v,h⟩:=j s;have n:∀r,r<t.1.length->(a+b)*q9 t r q 1 c d<=a*q9 t p q 1 c d+b*q9 t (p+1) q 1 c d->∃i,i<t.1.length/\vl (J5 t (t.1.getD i 0) l 0)<=vl (J5 t s l 0):=fun r x f=>by
   refine⟨r,x,?_⟩;rw[h,y r x,vS,vS];refine JU (F r) (by omega) (u p o k) (j5 e) ?_ (.inl rfl);have:=Int.mul_le_mul_of_nonneg_right f (show 0<=c+d by omega)
   grind
  by_cases hz:b=0
  ·grind
  ·rcases Int.le_total (q9 t p q 1 c d) (q9 t (p+1) q 1 c d) with f | f
   ·refine n p g ?_;have:=Int.mul_le_mul_of_nonneg_left f k
    grind
   ·refine n (p+1) (v hz) ?_;have:=Int.mul_le_mul_of_nonneg_left f o
    grind
 ·obtain⟨p,a,b,g,o,k,e,v,h⟩:=j s;have n:∀r,r<t.1.length->a*q9 t p q 1 c d+b*q9 t (p+1) q 1 c d<=(a+b)*q9 t r q 1 c d->∃i,i<t.1.length/\vl (J5 t s l 1)<=vl (J5 t (t.1.getD i 0) l 1):=fun r x f=>by
   refine⟨r,x,?_⟩;rw[h,y r x,vS,vS];refine JU (u p o k) (j5 e) (F r) (by omega) ?_ (.inr rfl);have:=Int.mul_le_mul_of_nonneg_right f (show 0<=c+d by omega)
   grind
  by_cases hz:b=0
  ·grind
  ·rcases Int.le_total (q9 t p q 1 c d) (q9 t (p+1) q 1 c d) with f | f
   ·refine n (p+1) (v hz) ?_;have:=Int.mul_le_mul_of_nonneg_left f o
    grind
   ·refine n p g ?_;have:=Int.mul_le_mul_of_nonneg_left f k
    grind
theorem t0b{s d:Int}(e:0<=s)(v:s<=1000000)(c:0<=d)(q:d<=301000000):∃r z,W7 s d 0=some r/\W7 s d 1=some z/\r<=z:=by
 obtain⟨l,u,w⟩:=Rb s d;have t:=J6 (A:=1000000) (B:=1000000) (x:=s) (y:=s) (by omega) (by omega) (by omega) (by omega) (by decide);have o:=J6 (A:=301000000) (B:=301000000) (x:=d) (y:=d) (by omega) (by omega) (by omega) (by omega) (by decide);have h:0<=s*s:=Int.mul_nonneg e e;have g:0<=d*d:=Int.mul_nonneg c c;obtain⟨R,j,f,k⟩:=WC (n:=250000*(s*s)+d*d) (by omega) (by omega);have b:=j.1;have i:=J6 (A:=3000000000) (B:=3000000000) (x:=R) (y:=R) (by omega) (by omega) (by omega) (by omega) (by decide);have a:∀m,W7 s d m=some (N7 (250000*(s*s)+d*d) m R):=fun m=>by
  unfold W7;rw[l,k,vS,gP ⟨oo,oo,oo,oo,oo,trivial⟩,gP ⟨rfl,trivial⟩,lE,gP ⟨(fun _=>oo),trivial⟩];unfold N7;split
  ·have:R.tdiv 500=R / 500:=Int.tdiv_eq_ediv_of_nonneg b;exact gP ⟨by decide,oo,trivial⟩
  ·rw[(V8 R 500 m (by omega) (by omega) (by decide)).1,vS,gP ⟨rfl,trivial⟩,lE]
 refine⟨_,_,a 0,a 1,?_⟩;unfold N7;rw[if_neg (by simp),DL b (by decide)]
 grind[Int.tdiv_eq_ediv_of_nonneg,Bv]
def C1(s:Int×Int):Bool:=m0 s.1 (-1000000000) 1000000000&&m0 s.2 (-1000000000) 1000000000&&decide (s.1<=s.2)
def B0(s:Int×Int):Bool:=C1 s&&m0 s.1 0 1000000&&m0 s.2 0 1000000
theorem R0r(s:Int×Int):Bh s=some (B0 s):=by
 have e:∀x,Fx x=some (m0 x (-1000000000) 1000000000):=fun _=>rfl;have a:K5 s=some (C1 s):=by
  unfold K5;rw[e,e,vS,vS];exact gP ⟨rfl,fun _=>rfl,trivial⟩
 unfold Bh;rw[a,vS,L0M,L0M,vS,vS];exact gP ⟨rfl,fun _=>rfl,fun _=>rfl,trivial⟩
theorem WO(s:Int×Int):Bh s=some (B0 s)/\Ly s=some (B0 s):=by
 refine⟨R0r s,?_⟩;unfold Ly;refine congrArg some ?_;unfold B0 C1 m0;rw[Bool.eq_iff_iff];simp only[ba,dq];omega
theorem s0w{b:j7}(e:wf k8 b)(d:p8 b=true){c:p7}(g:F6 c=true){q:Int}(a:m0 q 0 (((lV b).length:Int)-1)=true)(sp:Int×Int)(i:B0 sp=true) :
  ∃v:(Int×Int)×Int×Int,Dv (m9 b) c q sp=some v/\IX b c ((lV b).getD q.toNat (b7 y80)) sp=some v:=by
 unfold B0 at i;rw[ba,ba] at i;have f:=z8.1 i.1.2;have h:=z8.1 i.2;have j:=z8.1 a;have k:ix q (m9 b).2.2.1.length:=⟨j.1,by show q < ((lV b).length:Int); omega⟩;obtain⟨l,Y,b1,_⟩:=Rd e d g a sp.1 0;obtain⟨o,F,z,_⟩:=Rd e d g a sp.2 0;obtain⟨n,x,X,_⟩:=Rd e d g a sp.1 1;obtain⟨r,Q,w,_⟩:=Rd e d g a sp.2 1;obtain⟨T,e1,W,_⟩:=Np e d a f.1 f.2 (m:=0) (.inl rfl);obtain⟨V,G,y,_⟩:=Np e d a h.1 h.2 (m:=0) (.inl rfl);obtain⟨H,P,E,_⟩:=Np e d a f.1 f.2 (m:=1) (.inr rfl);obtain⟨t,s,u,_⟩:=Np e d a h.1 h.2 (m:=1) (.inr rfl);refine⟨((min l o,max n r),min T V,max H t),?_,?_⟩
 ·unfold Dv;rw[Y,F,x,Q];refine(gP ⟨rfl,rfl,rfl,rfl,trivial⟩).trans ?_;rw[lE];refine(gP ⟨k,trivial⟩).trans ?_;rw[lE];refine(if_neg ?_).trans ?_
  ·show ¬(decide ((0:Int)<0)&&_)=true;simp
  ·show Hj (m9 b) q sp (min l o,max n r)=_;rw[Hj,e1,G,P,s];rfl
 ·unfold IX;rw[b1,X,W,E,z,w,y,u];rfl
section
variable {b:j7}
theorem q0T(_:p8 b=true){q:Int}(i:m0 q 0 (((lV b).length:Int)-1)=true){a:D7}{n:Nat}(h:Nl b ((lV b).getD q.toNat (b7 y80)) a n){V:Int->Int->Int}(d:Ns (a.2.2.2.2.1.getD (((lV b).getD q.toNat (b7 y80)).2.1.tmod 2).toNat (b7 y70)) ((z6 b n).getD 0 0) V)(f:∀s m,V s m<=1000000){c:p7}(t:F6 c=true)(s m:Int) :
  L6 (m9 b) c q s m=some (u4 (V s m*C0 c ((lV b).getD q.toNat (b7 y80)).2.2.1 m) 1000 m):=by
 have i:=z8.1 i;have j:ix q (m9 b).2.2.1.length:=⟨i.1,by show q < ((lV b).length:Int); omega⟩;generalize hl:(lV b).getD q.toNat (b7 y80)=l at h d;have g:(m9 b).2.2.1.getD q.toNat (b7 y80)=l:=hl;have F:=d.pos s m;have w:=f s m;have z:=DN t l.2.2.1 m;have v:=J6 (A:=1000000) (B:=5000) (x:=V s m) (y:=C0 c l.2.2.1 m) (by omega) (by omega) (by omega) (by omega) (by decide);have o:=V8 (V s m*C0 c l.2.2.1 m) 1000 m (by omega) (by omega) (by decide);have e:AG (V s m) (C0 c l.2.2.1 m) m=some (u4 (V s m*C0 c l.2.2.1 m) 1000 m):=by
  unfold AG;rw[o.1,vS,gP ⟨oo,rfl,trivial⟩,lE]
 obtain⟨u,E⟩:=CN h.del h.trs;obtain⟨k,r⟩:=HW b h.nlt;unfold L6;refine(gP ⟨j,trivial⟩).trans ?_;rw[lE,g,Z2 h.pix h.net,vS,gP ⟨rfl,trivial⟩,lE];refine(if_pos (by rw[h.kind]; rfl)).trans ?_;rw[HQ h,vS,k,d.val,vS];refine(gP ⟨rfl,by decide,u,r,rfl,trivial⟩).trans ?_;rw[lE];show AH c l m (V s m)=_;rw[AH,Nq,vS,e,vS,gP ⟨rfl,rfl,trivial⟩,lE]
theorem Ri(_:p8 b=true){T:List u6}(c:D9 T true=true){x:Int}(h:x=0∨x=1)(l:Int):∃V,Ns (T.getD x.toNat (b7 y70)) l V/\∀s m,V s m<=1000000:=by
 obtain⟨g,f⟩:=CN c h;have a:x.toNat<T.length:=by have:=g.1; have:=g.2; omega
 obtain⟨V,e⟩:=D0Q f (Re c (H5 (d:=b7 y70) a)) l;refine⟨V,e,fun s m=>?_⟩;obtain⟨r,i,_,_,j⟩:=JS f s l m;have:=e.val s m;rw[i] at this;cases this;exact j
theorem x0V(_:wf k8 b)(i:p8 b=true){q:Int}(Y:m0 q 0 (((lV b).length:Int)-1)=true){s:Int}(T:0<=s)(P:s<=1000000):∃r z,F7 (m9 b) q s 0=some r/\F7 (m9 b) q s 1=some z/\r<=z:=by
 obtain⟨X,F⟩:=WL Y;have e:ix q (m9 b).2.2.1.length:=X;have d:(lV b).getD q.toNat (b7 y80)∈lV b:=H5 F;rcases HP i d with ⟨a,n,h⟩ | ⟨n,k,h⟩
 ·obtain⟨V,t,j⟩:=Ri i h.slw h.trs ((z6 b n).getD 0 0);obtain⟨u,H⟩:=CN h.slw h.trs;obtain⟨g,f⟩:=HW b h.nlt;generalize hl:(lV b).getD q.toNat (b7 y80)=l at h t u H g f;have c:(m9 b).2.2.1.getD q.toNat (b7 y80)=l:=hl;have val:∀m,F7 (m9 b) q s m=some (V s m):=fun m=>by
   unfold F7;refine(gP ⟨e,trivial⟩).trans ?_;rw[lE,c,Z2 h.pix h.net,vS,gP ⟨rfl,trivial⟩,lE];refine(if_pos (by rw[h.kind]; rfl)).trans ?_;rw[HQ h,vS,g,t.val,vS];refine(gP ⟨rfl,by decide,u,f,rfl,trivial⟩).trans ?_;rw[lE];have:=j s m;have:min (V s m) 1000000=V s m:=by omega
   rw[this]
  exact⟨_,_,val 0,val 1,t.two s⟩
 ·have Q:=Br i h.nlt;obtain⟨dl,y⟩:=Q.delays;have v:=y (w6 b n k).toNat;obtain⟨g,f⟩:=HX b h.nlt;have W:=HL b n;have o:=h.klt;generalize hl:(lV b).getD q.toNat (b7 y80)=l at h;have c:(m9 b).2.2.1.getD q.toNat (b7 y80)=l:=hl;obtain⟨r,z,x,G,w3⟩:=t0b T P v.1 v.2;have val:∀m r,W7 s ((A7 b n).getD (w6 b n k).toNat 0) m=some r->F7 (m9 b) q s m=some (min r 1000000):=fun m r w=>by
   unfold F7;refine(gP ⟨e,trivial⟩).trans ?_;rw[lE,c,Z2 h.pix h.net,vS,gP ⟨rfl,trivial⟩,lE];refine(if_neg (by rw[h.kind]; decide)).trans ?_;rw[g,h.idx];have E:((k:Int)).toNat=k:=rfl;rw[E,HK o,w,vS];refine(gP ⟨f,oo,rfl,trivial⟩).trans ?_;rw[lE]
  exact⟨_,_,val 0 r x,val 1 z G,by omega⟩
end
theorem t0a{xs:List Int}(x:Int)(h:F8 xs=true):∃p:Nat,p<xs.length/\((A3 xs x=xs.getD p 0/\O9 xs x=some ([((p:Int),1)],1)) ∨
  (p+1<xs.length/\xs.getD p 0<A3 xs x/\A3 xs x<xs.getD (p+1) 0/\O9 xs x=some ([((p:Int),xs.getD (p+1) 0-A3 xs x),((p:Int)+1,A3 xs x-xs.getD p 0)],(xs.getD (p+1) 0-A3 xs x)+(A3 xs x-xs.getD p 0)))):=by
 obtain⟨u,t⟩:=CI h;have g:((xs.length:Int)-1).toNat=xs.length-1:=by omega
 have n:xs.getD 0 0<=A3 xs x:=by
  have:xs.getD 0 0<=xs.getD (xs.length-1) 0:=by
   by_cases r:xs.length=1
   ·grind
   ·have:=CM h (by omega:0<xs.length-1) (by omega); omega
  unfold A3; omega
 have k:A3 xs x<=xs.getD (xs.length-1) 0:=by unfold A3; omega
 obtain⟨p,a,b,d⟩:=w0A h n k;by_cases f:xs.getD p 0=A3 xs x
 ·refine⟨p,a,.inl ⟨f.symm,?_⟩⟩;unfold O9;rw[gP ⟨oo,oo,oo,trivial⟩,g];change lt (A3 xs x) _=_;rw[lE,Nn (by omega) a b d,gP ⟨rfl,trivial⟩,vS,lE,if_pos (by simpa using f)]
 ·have c:A3 xs x<xs.getD p 0:=by have:=d p (Nat.le_refl _) a; omega
  have i:0<p:=by
   apply Nat.pos_of_ne_zero;intro o; subst o; omega
  obtain⟨q,rfl⟩:∃q,p=q+1:=⟨p-1,by omega⟩;have e:=b q (by omega);have v:=Nk h a;have s:=Nk h (by omega:q<xs.length);have j:(((q+1:Nat):Int))-1=(q:Int):=by omega
  have l:(((q+1:Nat):Int)).toNat=q+1:=rfl;have m:((q:Int)).toNat=q:=rfl;refine⟨q,by omega,.inr ⟨a,e,c,?_⟩⟩;unfold O9;rw[gP ⟨oo,oo,oo,trivial⟩,g];change lt (A3 xs x) _=_;rw[lE,Nn (by omega) a b d,gP ⟨rfl,trivial⟩,vS,lE,if_neg (by grind)];simp only[j,l,m];refine(gP ⟨oo,oo,oo,oo,oo,oo,oo,oo,oo,oo,trivial⟩).trans ?_;rw[lE]
  grind
theorem v0D{t:u6}(ht:C8 t=true)(hp:∀i,i<t.2.2.length->0<=t.2.2.getD i 0)(aC:∀r q,r+1<t.1.length->q<t.2.1.length->J0 t r q<=J0 t (r+1) q)(l:Int){V:Int->Int->Int}(hV:Ns t l V){s o m:Int}(hm:m=0∨m=1)(hs:s<=o):V s m<=V o m:=by
 have v:F8 t.1=true/\F8 t.2.1=true:=by
  simp only[C8,ba] at ht;exact⟨ht.1.1.1,ht.1.1.2⟩
 obtain⟨q,c,d,M,hq,hM,h3,h4⟩:=HV l v.2;have u:0<=c/\0<=d/\1<=c+d/\c+d<=100000/\(d≠0->q+1<t.2.1.length):=by
  rcases hM with ⟨rfl,rfl,_⟩ | ⟨_,_,_,_,_⟩ <;> omega
 have P:∀r,0<=q9 t r q 1 c d:=fun r=>Rf hp (by decide) u.1 u.2.1;have aD:∀r,r+1<t.1.length->q9 t r q 1 c d<=q9 t (r+1) q 1 c d:=fun r hr=>by
  unfold q9;rw[Int.mul_one,Int.mul_one,Int.mul_one,Int.mul_one];have x1:=Int.mul_le_mul_of_nonneg_right (aC r q hr hq) u.1;have x2:J0 t r (q+1)*d<=J0 t (r+1) (q+1)*d:=by
   by_cases hz:d=0
   ·rw[hz,Int.mul_zero,Int.mul_zero]; exact Int.le_refl _
   ·exact Int.mul_le_mul_of_nonneg_right (aC r (q+1) hr (u.2.2.2.2 hz)) u.2.1
  omega
 have aH:∀k r,r+k<t.1.length->q9 t r q 1 c d<=q9 t (r+k) q 1 c d:=by
  intro k
  induction k with
  | zero=>intro r _; exact Int.le_refl _
  | succ k ih =>
    intro r hr;have:=ih r (by omega);have:=aD (r+k) (by omega);rw[show r+(k+1)=r+k+1 by omega];omega
 have f:∀i j,i<=j->j<t.1.length->q9 t i q 1 c d<=q9 t j q 1 c d:=fun i j g T=>by
  have:=aH (j-i) i (by omega);rw[show i+(j-i)=j by omega] at this;exact this
 have G:∀{s:Int} {p:Nat},p<t.1.length->O9 t.1 s=some ([((p:Int),1)],1)->V s m=u4 (q9 t p q 1 c d) (c+d) m:=fun {s p} F h2=>by
  have Y:=Rh ht hp (a:=1) (b:=0) F (.inl ⟨rfl,rfl,rfl⟩) h2 hq hM h4 m;rw[hV.val] at Y;rw[Option.some.inj Y,if_pos rfl,Int.add_zero,Int.add_zero,Int.one_mul]
 have z:∀{s:Int} {p:Nat} {a b:Int},p+1<t.1.length->0<a->0<b->a+b<=100000->O9 t.1 s=some ([((p:Int),a),((p:Int)+1,b)],a+b)->V s m=u4 (a*q9 t p q 1 c d+b*q9 t (p+1) q 1 c d) ((a+b)*(c+d)) m:=fun {s p a b} F X W aF h2=>by
  have Y:=Rh ht hp (a:=a) (b:=b) (show p<t.1.length by omega) (.inr ⟨F,X,W,aF,rfl⟩) h2 hq hM h4 m;rw[hV.val] at Y;rw[Option.some.inj Y,if_neg (by omega),Nr t p q a,Nr t (p+1) q b]
 have j5:∀{a b:Int},1<=a+b->0 < (a+b)*(c+d):=fun h=>Int.mul_pos (by omega) (by omega);have w:∀{a b:Int} (p:Nat),0<=a->0<=b->0<=a*q9 t p q 1 c d+b*q9 t (p+1) q 1 c d:=fun p X W=>by
  have:=Int.mul_nonneg X (P p);have:=Int.mul_nonneg W (P (p+1));omega
 -- below a line, above a line
 have up:∀{a b:Int} (p i:Nat),0<a->0<b->p+1<=i->i<t.1.length->u4 (a*q9 t p q 1 c d+b*q9 t (p+1) q 1 c d) ((a+b)*(c+d)) m<=u4 (q9 t i q 1 c d) (c+d) m:=fun {a b} p i X W H hi=>by
  refine JU (w p (by omega) (by omega)) (j5 (by omega)) (P i) (by omega) ?_ hm;have x1:=Int.mul_le_mul_of_nonneg_left (f p i (by omega) hi) (show 0<=a by omega);have x2:=Int.mul_le_mul_of_nonneg_left (f (p+1) i H hi) (show 0<=b by omega);have x3:a*q9 t p q 1 c d+b*q9 t (p+1) q 1 c d<=(a+b)*q9 t i q 1 c d:=by rw[Int.add_mul]; omega
  have:=Int.mul_le_mul_of_nonneg_right x3 (show 0<=c+d by omega);rw[<- Int.mul_assoc,Int.mul_comm (q9 t i q 1 c d)];exact this
 have dn:∀{a b:Int} (p i:Nat),0<a->0<b->i<=p->p+1<t.1.length->u4 (q9 t i q 1 c d) (c+d) m<=u4 (a*q9 t p q 1 c d+b*q9 t (p+1) q 1 c d) ((a+b)*(c+d)) m:=fun {a b} p i X W H hi=>by
  refine JU (P i) (by omega) (w p (by omega) (by omega)) (j5 (by omega)) ?_ hm;have x1:=Int.mul_le_mul_of_nonneg_left (f i p H (by omega)) (show 0<=a by omega);have x2:=Int.mul_le_mul_of_nonneg_left (f i (p+1) (by omega) hi) (show 0<=b by omega);have x3:(a+b)*q9 t i q 1 c d<=a*q9 t p q 1 c d+b*q9 t (p+1) q 1 c d:=by rw[Int.add_mul]; omega
  have:=Int.mul_le_mul_of_nonneg_right x3 (show 0<=c+d by omega);rw[<- Int.mul_assoc,Int.mul_comm (q9 t i q 1 c d)];exact this
 have aG:∀i j,i<=j->j<t.1.length->u4 (q9 t i q 1 c d) (c+d) m<=u4 (q9 t j q 1 c d) (c+d) m:=fun i j g T=>JU (P i) (by omega) (P j) (by omega) (Int.mul_le_mul_of_nonneg_right (f i j g T) (show 0<=c+d by omega)) hm
 have hx:A3 t.1 s<=A3 t.1 o:=by unfold A3; omega
 have aB:=fun {i j:Nat} (g:i<j) (T:j<t.1.length)=>CM v.1 g T;have y:∀{i j:Nat},i<=j->j<t.1.length->t.1.getD i 0<=t.1.getD j 0:=fun {i j} g T=>by
  rcases Nat.eq_or_lt_of_le g with e | e
  ·rw[e]; exact Int.le_refl _
  ·have:=aB e T; omega
 obtain⟨p,p1,p2⟩:=t0a s v.1;obtain⟨n,x,aA⟩:=t0a o v.1;have Q:=fun {i:Nat} (hi:i<t.1.length)=>Nk v.1 hi;rcases p2 with ⟨e1,w1⟩ | ⟨b1,b2,b3,w1⟩
 ·rw[G p1 w1];rcases aA with ⟨e2,E⟩ | ⟨c1,c2,c3,E⟩
  ·rw[G x E];refine aG p n ?_ x;rcases Nat.lt_or_ge n p with h | h
   ·have:=aB h p1; omega
   ·exact h
  ·have:=Q (show n<t.1.length by omega);have:=Q c1;rw[z c1 (by omega) (by omega) (by omega) E];refine dn n p (by omega) (by omega) ?_ c1;rcases Nat.lt_or_ge n p with h | h
   ·have:=y (show n+1<=p by omega) p1; omega
   ·exact h
 ·have:=Q (show p<t.1.length by omega);have:=Q b1;rw[z b1 (by omega) (by omega) (by omega) w1];rcases aA with ⟨e2,E⟩ | ⟨c1,c2,c3,E⟩
  ·rw[G x E];refine up p n (by omega) (by omega) ?_ x;rcases Nat.lt_or_ge p n with h | h
   ·exact h
   ·have:=y h (show p<t.1.length by omega); omega
  ·have:=Q (show n<t.1.length by omega);have:=Q c1;rw[z c1 (by omega) (by omega) (by omega) E];rcases Nat.lt_trichotomy p n with h | h | h
   ·refine Int.le_trans (up p (p+1) (by omega) (by omega) (Nat.le_refl _) b1) ?_;exact dn n (p+1) (by omega) (by omega) (by omega) c1
   ·subst h;refine JU (w p (by omega) (by omega)) (j5 (by omega)) (w p (by omega) (by omega)) (j5 (by omega)) ?_ hm;have e1:(t.1.getD (p+1) 0-A3 t.1 s)+(A3 t.1 s-t.1.getD p 0)=(t.1.getD (p+1) 0-A3 t.1 o)+(A3 t.1 o-t.1.getD p 0):=by omega
    rw[e1];refine Int.mul_le_mul_of_nonneg_right ?_ (by have:=j5 (a:=t.1.getD (p+1) 0-A3 t.1 o) (b:=A3 t.1 o-t.1.getD p 0) (by omega); omega);obtain⟨k,hk⟩:∃k,A3 t.1 o=A3 t.1 s+k:=⟨A3 t.1 o-A3 t.1 s,by omega⟩;have x1:=Int.mul_le_mul_of_nonneg_left (aD p b1) (show 0<=k by omega);have x2:(t.1.getD (p+1) 0-A3 t.1 o)*q9 t p q 1 c d=(t.1.getD (p+1) 0-A3 t.1 s)*q9 t p q 1 c d-k*q9 t p q 1 c d:=by rw[<- Int.sub_mul]; congr 1; omega
    have x3:(A3 t.1 o-t.1.getD p 0)*q9 t (p+1) q 1 c d=(A3 t.1 s-t.1.getD p 0)*q9 t (p+1) q 1 c d+k*q9 t (p+1) q 1 c d:=by rw[<- Int.add_mul]; congr 1; omega
    omega
   ·have:=y (show n+1<=p by omega) (show p<t.1.length by omega); omega
theorem WA{a b:Int}(e:0<=a)(d:0<=b)(h:a*a<b*b):a<b:=by
 rcases Int.lt_or_le a b with c | c
 ·exact c
 ·have:=Int.mul_le_mul c c d (by omega);omega
theorem t0d{n R:Int}(h:Bu n R):n<=(500*N7 n 1 R)*(500*N7 n 1 R):=by
 obtain⟨c,g,f⟩:=h;have b:∀v,R<500*v∨(R<=500*v/\R*R=n)->n<=(500*v)*(500*v):=fun v a=>by
  rcases a with a | ⟨a,e⟩
  ·have:=Int.mul_le_mul (show R+1<=500*v by omega) (show R+1<=500*v by omega) (by omega) (by omega);omega
  ·have:=Int.mul_le_mul a a c (by omega);omega
 refine b _ ?_;unfold N7;split
 ·grind
 ·rename_i d;simp only[beq_self_eq_true,Bool.true_and,dq] at d;rw[Bv c (by decide)];omega
theorem t0c{n R w:Int}(h:Bu n R)(i:0<=w)(e:n<=(500*w)*(500*w)):N7 n 1 R<=w:=by
 obtain⟨b,f,d⟩:=h;unfold N7;split
 ·rename_i a;simp only[beq_self_eq_true,Bool.true_and,dq] at a;have:=WA b (show 0<=500*w by omega) (by omega)
  grind
 ·rename_i a;simp only[beq_self_eq_true,Bool.true_and,dq] at a;have g:R<=500*w:=by
   rcases Int.lt_or_le (500*w) R with c | c
   ·have:=Int.mul_lt_mul' (show 500*w<=R by omega) c (by omega) (by omega);omega
   ·exact c
  grind[Bv]
theorem k0K{n R:Int}(a:0<=R):0<=N7 n 1 R:=by
 grind[N7,Int.tdiv_eq_ediv_of_nonneg,Bv]
theorem o0b{n b R R' m:Int}(h:Bu n R)(a:Bu b R')(e:n<=b)(d:m=0∨m=1):N7 n m R<=N7 b m R':=by
 rcases d with rfl | rfl
 ·have c:R<=R':=by
   have:=WA h.1 (show 0<=R'+1 by have:=a.1; omega) (by have:=h.2.1; have:=a.2.2; omega);omega
  unfold N7;rw[if_neg (by simp),if_neg (by simp),DL h.1 (by decide),DL a.1 (by decide)];omega
 ·exact t0c h (k0K a.1) (by have:=t0d a; omega)
theorem r0v{s f d m:Int}(b:0<=s)(i:s<=f)(j:f<=1000000)(k:0<=d)(Q:d<=301000000)(w:m=0∨m=1):∃r z,W7 s d m=some r/\W7 f d m=some z/\r<=z:=by
 have a:∀s,0<=s->s<=1000000->∃R,Bu (250000*(s*s)+d*d) R/\W7 s d m=some (N7 (250000*(s*s)+d*d) m R):=fun s b j=>by
  obtain⟨E,G,H⟩:=Rb s d;have i:=J6 (A:=1000000) (B:=1000000) (x:=s) (y:=s) (by omega) (by omega) (by omega) (by omega) (by decide);have P:=J6 (A:=301000000) (B:=301000000) (x:=d) (y:=d) (by omega) (by omega) (by omega) (by omega) (by decide);have o:0<=s*s:=Int.mul_nonneg b b;have u:0<=d*d:=Int.mul_nonneg k k;obtain⟨R,c,l,q⟩:=WC (n:=250000*(s*s)+d*d) (by omega) (by omega);have g:=c.1;have v:=J6 (A:=3000000000) (B:=3000000000) (x:=R) (y:=R) (by omega) (by omega) (by omega) (by omega) (by decide);refine⟨R,c,?_⟩;unfold W7;rw[E,q,vS,gP ⟨oo,oo,oo,oo,oo,trivial⟩,gP ⟨rfl,trivial⟩,lE,gP ⟨(fun _=>oo),trivial⟩];unfold N7;split
  ·have:R.tdiv 500=R / 500:=Int.tdiv_eq_ediv_of_nonneg g;exact gP ⟨by decide,oo,trivial⟩
  ·rw[(V8 R 500 m (by omega) (by omega) (by decide)).1,vS,gP ⟨rfl,trivial⟩,lE]
 obtain⟨R,c,e⟩:=a s b (by omega);obtain⟨F,h,t⟩:=a f (by omega) j;refine⟨_,_,e,t,o0b c h ?_ w⟩;have:=Int.mul_le_mul i i b (by omega);omega
variable {b:j7}
theorem I0C(r:p8 b=true){c:p7}(u:F6 c=true){q:Int}(P:m0 q 0 (((lV b).length:Int)-1)=true) :
  ∃d:Int->Int->Int,(∀s m,L6 (m9 b) c q s m=some (d s m))/\∀s,d s 0<=d s 1:=by
 obtain⟨x1,X⟩:=WL P;have i:(lV b).getD q.toNat (b7 y80)∈lV b:=H5 X;have t:=fun k=>DN u k 0;have e:∀k,C0 c k 0<=C0 c k 1:=fun k=>by
  have h:=u;unfold F6 at h;simp only[ba,dq] at h;unfold C0;have Q:((0:Int)==0)=true:=rfl;have e1:((1:Int)==0)=false:=rfl;rw[Q,e1];split <;> simp only[if_true,Bool.false_eq_true,if_false] <;> omega
 rcases HP r i with ⟨a,n,h⟩ | ⟨n,k,h⟩
 ·obtain⟨Y,H⟩:=CN h.del h.trs;obtain⟨E,v,_⟩:=FK H;obtain⟨V,o,w⟩:=Ri r h.del h.trs ((z6 b n).getD 0 0);have g:=fun s m=>q0T r P h o w u s m;generalize hlk:(lV b).getD q.toNat (b7 y80)=l at h o g Y H E v;refine⟨fun s m=>u4 (V s m*C0 c l.2.2.1 m) 1000 m,g,fun s=>?_⟩;refine WN (Int.mul_nonneg (o.pos _ _) (t _).1) ?_;exact Int.le_trans (Int.mul_le_mul_of_nonneg_right (o.two s) (t _).1) (v0q (o.pos _ _) (e _))
 ·have no:=Br r h.nlt;obtain⟨dl,T⟩:=no.delays;have g:=T (w6 b n k).toNat;obtain⟨E,v⟩:=HX b h.nlt;have aA:=HL b n;have z:=h.klt;have W:((k:Int)).toNat=k:=rfl;have hv:=fun m=>FU (a:=(A7 b n).getD (w6 b n k).toNat 0) (b:=1000) (K:=301000) m (by decide) (by omega) (by omega);have f:=fun m=>JT (a:=(A7 b n).getD (w6 b n k).toNat 0) (b:=1000) m (by omega) (by decide);generalize hlk:(lV b).getD q.toNat (b7 y80)=l at h;have G:(m9 b).2.2.1.getD q.toNat (b7 y80)=l:=hlk;have j:∀s m,L6 (m9 b) c q s m=some (u4 (u4 ((A7 b n).getD (w6 b n k).toNat 0) 1000 m*C0 c l.2.2.1 m) 1000 m):=fun s m=>by
   have p0:=f m;have p1:=hv m;have hf:=DN u l.2.2.1 m;have hp:=J6 (A:=1000000) (B:=5000) (x:=u4 ((A7 b n).getD (w6 b n k).toNat 0) 1000 m) (y:=C0 c l.2.2.1 m) (by omega) (by omega) (by omega) (by omega) (by decide);have g:=V8 (u4 ((A7 b n).getD (w6 b n k).toNat 0) 1000 m*C0 c l.2.2.1 m) 1000 m (by omega) (by omega) (by decide);have F:AG (u4 ((A7 b n).getD (w6 b n k).toNat 0) 1000 m) (C0 c l.2.2.1 m) m=some (u4 (u4 ((A7 b n).getD (w6 b n k).toNat 0) 1000 m*C0 c l.2.2.1 m) 1000 m):=by
    unfold AG;rw[g.1,vS,gP ⟨oo,rfl,trivial⟩,lE]
   unfold L6;refine(gP ⟨x1,trivial⟩).trans ?_;rw[lE,G,Z2 h.pix h.net,vS,gP ⟨rfl,trivial⟩,lE];refine(if_neg (by rw[h.kind]; decide)).trans ?_;rw[E,h.idx,W,HK z,(V8 _ 1000 m (by omega) (by omega) (by decide)).1,vS];refine(gP ⟨v,oo,rfl,trivial⟩).trans ?_;rw[lE];show AH c l m _=_;rw[AH,Nq,vS,F,vS,gP ⟨rfl,rfl,trivial⟩,lE]
  refine⟨fun s m=>u4 (u4 ((A7 b n).getD (w6 b n k).toNat 0) 1000 m*C0 c l.2.2.1 m) 1000 m,j,fun s=>?_⟩;refine WN (Int.mul_nonneg (f 0) (t _).1) ?_;exact Int.le_trans (Int.mul_le_mul_of_nonneg_right (WN g.1 (Int.le_refl _)) (t _).1) (v0q (f 1) (e _))
theorem x0W{b:j7}(G:wf k8 b)(w:p8 b=true){q:Int}(v:m0 q 0 (((lV b).length:Int)-1)=true){s m:Int}(Q:0<=s)(H:s<=1000000)(P:m=0∨m=1){r:Int}(g:F7 (m9 b) q s m=some r):0<=r:=by
 have v:=z8.1 v;have f:ix q (m9 b).2.2.1.length:=⟨v.1,by show q < ((lV b).length:Int); omega⟩;generalize hl:(lV b).getD q.toNat (b7 y80)=l;have e:(m9 b).2.2.1.getD q.toNat (b7 y80)=l:=hl;have d:l∈lV b:=by rw[<- hl]; exact H5 (by omega)
 rcases HP w d with ⟨a,n,h⟩ | ⟨n,k,h⟩
 ·obtain⟨o,x⟩:=CN h.slw h.trs;obtain⟨i,y,l2,Y,W⟩:=JS x s ((z6 b n).getD 0 0) m;obtain⟨t,j⟩:=HW b h.nlt;have u:(l.2.1.tmod 2).toNat<a.2.2.2.2.2.length:=by have:=o.1; have:=o.2; omega
  have X:=q0A x (Re h.slw (H5 u)) s ((z6 b n).getD 0 0) m i y;have c:F7 (m9 b) q s m=some (min i 1000000):=by
   unfold F7;refine(gP ⟨f,trivial⟩).trans ?_;rw[lE,e,Z2 h.pix h.net,vS,gP ⟨rfl,trivial⟩,lE];refine(if_pos (by rw[h.kind]; rfl)).trans ?_;rw[HQ h,vS,t,y,vS];refine(gP ⟨rfl,by decide,o,j,rfl,trivial⟩).trans ?_;rw[lE]
  rw[c] at g;cases g;omega
 ·obtain⟨i,z,V,w3⟩:=H0L G w h.nlt h.klt Q H P;obtain⟨t,j⟩:=HX b h.nlt;have T:=HL b n;have F:=h.klt;have c:F7 (m9 b) q s m=some (min i 1000000):=by
   unfold F7;refine(gP ⟨f,trivial⟩).trans ?_;rw[lE,e,Z2 h.pix h.net,vS,gP ⟨rfl,trivial⟩,lE];refine(if_neg (by rw[h.kind]; decide)).trans ?_;rw[t,h.idx];have E:((k:Int)).toNat=k:=rfl;rw[E,z,vS];refine(gP ⟨j,oo,rfl,trivial⟩).trans ?_;rw[lE]
  rw[c] at g;cases g;omega
section
variable {b:j7}
end
end Go.Proofs.YtdjgagoledoaaaaGreatDoor
end
section
namespace Go.Proofs.Xd
open Go.Proofs.Xl
theorem q0L{b:Type}{l:List b}{p q:b->Bool}(h:∀a∈l,p a=q a):l.find? p=l.find? q:=by
 induction l with
 | nil=>rfl
 | cons a r c =>
   grind
theorem n0B{b:Type}(l:List b)(p q r:b->Bool)(h:∀a∈l,(p a).toNat=(q a).toNat+(r a).toNat):l.countP p=l.countP q+l.countP r:=by
 induction l with
 | nil=>rfl
 | cons a t c =>
   grind
theorem s0t{b:Type}(l:List b)(p q:b->Bool)(h:∀a∈l,p a=q a):l.countP p=l.countP q:=by
 induction l with
 | nil=>rfl
 | cons a t c =>
   grind
section
variable (M N:Nat) (fr to:Nat->Nat) (lv:Nat->Bool)
def X3(out:List Nat)(v:Nat):Nat:=(List.range M).countP fun i=>lv i&&to i==v&&!out.contains (fr i)
def HY(o:List Int)(i:Nat):List Int:=o.set (to i) (o.getD (to i) 0-1)
def FV(o:List Int)(i:Nat):List Int:=o.set (to i) (o.getD (to i) 0+1)
def JV:List Int:=((List.range M).filter lv).foldl (FV to) (List.replicate N 0)
def Nt(o:List Int)(v:Nat):List Int:=((List.range M).filter fun i=>lv i&&fr i==v).foldl (HY to) (o.set v (-1))
def CO(out:List Nat):List Int:=out.foldl (Nt M fr to lv) (JV M N to lv)
def M4(out:List Nat):Option Nat:=(List.range N).find? fun v=>!out.contains v&&X3 M fr to lv out v==0
def AN:Nat->List Nat->Option (List Nat)
 | 0,out=>some out
 | k+1,out=>match M4 M N fr to lv out with
   | none=>none
   | some v=>AN k (out++[v])
theorem m0M(a:List Nat)(v:Nat):CO M N fr to lv (a++[v])=Nt M fr to lv (CO M N fr to lv a) v:=by
 grind[CO]
theorem Nu{o:List Int}{i v:Nat}(x:Int)(hi:i<o.length):(o.set i x).getD v 0=if v=i then x else o.getD v 0:=by
 grind
theorem E0u(a:List Nat)(o:List Int)(h:∀i∈a,to i<o.length)(v:Nat):(a.foldl (HY to) o).length=o.length/\(a.foldl (HY to) o).getD v 0=o.getD v 0-(a.countP fun i=>to i==v):=by
 induction a generalizing o with
 | nil=>simp
 | cons i r b =>
   grind[HY,Nu]
theorem E0a(a:List Nat)(o:List Int)(h:∀i∈a,to i<o.length)(v:Nat):(a.foldl (FV to) o).length=o.length/\(a.foldl (FV to) o).getD v 0=o.getD v 0+(a.countP fun i=>to i==v):=by
 induction a generalizing o with
 | nil=>simp
 | cons i r b =>
   grind[FV,Nu]
variable {M N fr to lv}
theorem k0B(p:Nat->Bool):(List.range M).countP p<=M:=by
 grind[List.countP_le_length,List.range,List.length_range]
theorem v0a(e:∀i,i<M->to i<N)(v:Nat):(JV M N to lv).length=N/\(JV M N to lv).getD v 0=X3 M fr to lv [] v:=by
 have c:∀i∈(List.range M).filter lv,to i < (List.replicate N (0:Int)).length:=fun i hi=>by
  grind
 obtain⟨d,a⟩:=E0a to ((List.range M).filter lv) (List.replicate N 0) c v;refine⟨by grind[JV,List.length_replicate],?_⟩;rw[JV,a,List.countP_filter];have b:(List.replicate N (0:Int)).getD v 0=0:=by
  rw[gq,List.getElem?_replicate];split <;> rfl
 rw[b,Int.zero_add];congr 1;refine s0t _ _ _ (fun i _=>?_)
 grind
structure Nv(M N:Nat)(fr to:Nat->Nat)(lv:Nat->Bool)(out:List Nat)(o:List Int):Prop where
 len:o.length=N
 un:∀v,v<N->v ∉ out->o.getD v 0=X3 M fr to lv out v
 li:∀v,v<N->v∈out->o.getD v 0<0
 lo:∀v,v<N -> -(1+(out.length:Int)*M)<=o.getD v 0
 hi:∀v,v<N->o.getD v 0<=M
theorem z0K{a:List Nat}{v:Nat}(b:v ∉ a)(w:Nat):X3 M fr to lv a w=((List.range M).countP fun i=>to i==w&&(lv i&&fr i==v))+X3 M fr to lv (a++[v]) w:=by
 unfold X3;refine n0B _ _ _ _ (fun i _=>?_)
 grind
theorem B0N(b:∀i,i<M->to i<N):Nv M N fr to lv [] (JV M N to lv):=by
 have h:=fun v=>v0a (fr:=fr) (lv:=lv) b v;refine⟨(h 0).1,fun v _ _=>(h v).2,fun v _ a=>(nomatch a),fun v _=>?_,fun v _=>?_⟩
 ·grind
 grind[X3,k0B]
theorem v0d(n:∀i,i<M->to i<N){a:List Nat}{o:List Int}(h:Nv M N fr to lv a o){v:Nat}(s:v<N)(q:v ∉ a):Nv M N fr to lv (a++[v]) (Nt M fr to lv o v):=by
 have k:(o.set v (-1)).length=N:=by rw[List.length_set,h.len]
 have f:=fun w=>E0u to ((List.range M).filter fun i=>lv i&&fr i==v) (o.set v (-1)) (fun i hi=>by
  rw[List.mem_filter,List.mem_range] at hi;rw[k];exact n i hi.1) w
 have d:∀w,(Nt M fr to lv o v).getD w 0=(if w=v then -1 else o.getD w 0)-((List.range M).countP fun i=>to i==w&&(lv i&&fr i==v)):=fun w=>by
  grind[Nt,Nu,List.countP_filter]
 have j:∀w,(((List.range M).countP fun i=>to i==w&&(lv i&&fr i==v):Nat):Int)<=M:=fun w=>by
  have:=k0B (M:=M) (fun i=>to i==w&&(lv i&&fr i==v));omega
 have c:((a++[v]).length:Int)*M=(a.length:Int)*M+M:=by
  rw[List.length_append,List.length_singleton,Int.natCast_add,Int.add_mul];simp
 have r:(0:Int)<=(a.length:Int)*M:=Int.mul_nonneg (Int.natCast_nonneg _) (Int.natCast_nonneg _);refine⟨(f 0).1.trans k,fun w b g=>?_,fun w b g=>?_,fun w b=>?_,fun w b=>?_⟩
 ·rw[d,if_neg (fun e=>g (by simp[e])),h.un w b (fun e=>g (by simp[e])),z0K q w];omega
 ·rw[d];by_cases e:w=v
  ·omega
  ·rw[if_neg e];have:=h.li w b (by
    grind)
   omega
 ·rw[d,c];have m:=j w;have l:=h.lo w b;omega
 ·rw[d];have m:=j w;have l:=h.hi w b;omega
theorem v0e{a:List Nat}{o:List Int}(h:Nv M N fr to lv a o):(List.range o.length).find? (fun v=>(0:Int)==o.getD v 0)=M4 M N fr to lv a:=by
 unfold M4;rw[h.len];refine q0L (fun v c=>?_);have c:=List.mem_range.1 c;by_cases b:v∈a
 ·have e:=h.li v c b;have d:a.contains v=true:=List.contains_iff_mem.2 b;have f:((0:Int)==o.getD v 0)=false:=beq_eq_false_iff_ne.2 (by omega);rw[d,f]; rfl
 ·have e:=h.un v c b;have d:a.contains v=false:=by rw[<- Bool.not_eq_true,List.contains_iff_mem]; exact b
  rw[e,d,Bool.not_false,Bool.true_and,Bool.eq_iff_iff];simp only[beq_iff_eq];omega
theorem Nw{a:List Nat}{v:Nat}(h:M4 M N fr to lv a=some v):v<N/\v ∉ a:=by
 grind[M4]
def N9(N:Nat)(out:List Nat):List Bool:=out.foldl (fun l v=>l.set v true) (List.replicate N false)
theorem JW{o:List Bool}{i v:Nat}(x:Bool)(hi:i<o.length):(o.set i x).getD v false=if v=i then x else o.getD v false:=by
 grind
theorem m0Z(a:List Nat)(v:Nat):N9 N (a++[v])=(N9 N a).set v true:=by
 grind[N9]
theorem u0B(a:List Nat)(o:List Bool)(h:∀v∈a,v<o.length)(w:Nat):(a.foldl (fun l v=>l.set v true) o).length=o.length/\(a.foldl (fun l v=>l.set v true) o).getD w false=(a.contains w||o.getD w false):=by
 induction a generalizing o with
 | nil=>simp
 | cons v r b =>
   grind
theorem Nx{a:List Nat}(h:∀v∈a,v<N)(w:Nat):(N9 N a).length=N/\(N9 N a).getD w false=a.contains w:=by
 obtain⟨b,c⟩:=u0B a (List.replicate N false) (fun v d=>by grind) w
 grind[List.replicate,N9]
def FW(fr to:Nat->Nat)(lv:Nat->Bool)(out:List Nat)(k:Nat)(w:List Bool):List Bool:=if(lv k&&!out.contains (fr k))=true then w.set (to k) true else w
theorem p0m(b:∀i,i<M->to i<N)(a:List Nat)(v:Nat):∀m,m<=M->(fN (FW fr to lv a) m (List.replicate N false)).length=N/\(fN (FW fr to lv a) m (List.replicate N false)).getD v false=(List.range m).any fun i=>lv i&&to i==v&&!a.contains (fr i):=by
 intro m
 induction m with
 | zero =>
   intro _;refine⟨List.length_replicate,?_⟩;show(List.replicate N false).getD v false=false
   grind
 | succ m c =>
   grind[FW,fN,List.replicate]
theorem t0j(b:∀i,i<M->to i<N){a:List Nat}(c:∀v∈a,v<N):(List.range N).find? (fun v=>!((N9 N a).getD v false||(fN (FW fr to lv a) M (List.replicate N false)).getD v false))=M4 M N fr to lv a:=by
 unfold M4;refine q0L (fun v _=>?_);rw[(Nx c v).2,(p0m b a v M (Nat.le_refl _)).2,Bool.not_or]
 grind[X3]
end
inductive Rch(M:Nat)(fr to:Nat->Nat)(lv:Nat->Bool)(s:Nat):Nat->Prop
 | refl:Rch M fr to lv s s
 | step {i:Nat}:Rch M fr to lv s (fr i)->i<M->lv i=true->Rch M fr to lv s (to i)
theorem Rch.trans{M:Nat}{fr to:Nat->Nat}{lv:Nat->Bool}{a b c:Nat}(h:Rch M fr to lv a b)(k:Rch M fr to lv b c):Rch M fr to lv a c:=by
 induction k with
 | refl=>exact h
 | step _ hi e d=>exact d.step hi e
theorem Rch.one{M:Nat}{fr to:Nat->Nat}{lv:Nat->Bool}{i:Nat}(hi:i<M)(a:lv i=true):Rch M fr to lv (fr i) (to i):=Rch.refl.step hi a
theorem Rch.head{M:Nat}{fr to:Nat->Nat}{lv:Nat->Bool}{i c:Nat}(hi:i<M)(a:lv i=true)(k:Rch M fr to lv (to i) c):Rch M fr to lv (fr i) c:=(Rch.one hi a).trans k
theorem Rch.back{M:Nat}{fr to:Nat->Nat}{lv:Nat->Bool}{a b:Nat}(h:Rch M fr to lv a b):Rch M to fr lv b a:=by
 induction h with
 | refl=>exact .refl
 | step _ hi d c=>grind[Rch.head]
theorem Rch.lt{M N:Nat}{fr to:Nat->Nat}{lv:Nat->Bool}(d:∀i,i<M->to i<N){a b:Nat}(h:Rch M fr to lv a b)(c:a<N):b<N:=by
 cases h with
 | refl=>exact c
 | step _ hi _=>grind
section
variable (M N:Nat) (fr to:Nat->Nat) (lv:Nat->Bool)
def RB(s:Nat)(L:List Bool):Prop:=L.length=N/\∀v,v<N->(L.getD v false=true↔Rch M fr to lv s v)
theorem RB.uniq{M N:Nat}{fr to:Nat->Nat}{lv:Nat->Bool}{s:Nat}{L K:List Bool}(h:RB M N fr to lv s L)(k:RB M N fr to lv s K):L=K :=
 JX false (h.1.trans k.1.symm) fun i hi=>by
  have a:i<N:=by rw[<- h.1]; exact hi
  rw[Bool.eq_iff_iff,h.2 i a,k.2 i a]
structure RI(s:Nat)(r:List Bool):Prop where
 len:r.length=N
 src:r.getD s false=true
 snd:∀v,r.getD v false=true->Rch M fr to lv s v
theorem RI.done{M N:Nat}{fr to:Nat->Nat}{lv:Nat->Bool}{s:Nat}{r:List Bool}(h:RI M N fr to lv s r)(d:∀i,i<M->lv i=true->r.getD (fr i) false=true->r.getD (to i) false=true):RB M N fr to lv s r :=
 ⟨h.len,fun v b=>⟨h.snd v,fun a=>by
   clear b
   induction a with
   | refl=>exact h.src
   | step _ hi e c=>grind⟩⟩
def C9(r:List Bool):Nat:=r.countP id
theorem q0W{r:List Bool}{i:Nat}(hi:i<r.length)(h:r.getD i false=false):C9 (r.set i true)=C9 r+1:=by
 grind[List.getD_cons_zero,C9]
theorem WQ(r:List Bool):C9 r<=r.length:=List.countP_le_length
def F9(k:Nat)(s:List Bool×Bool):List Bool×Bool:=if(lv k&&s.1.getD (fr k) false&&!s.1.getD (to k) false)=true then(s.1.set (to k) true,true) else s
theorem D0j(k:∀i,i<M->to i<N){s:Nat}{r:List Bool}(h:RI M N fr to lv s r):∀m,m<=M->RI M N fr to lv s (fN (F9 fr to lv) m (r,false)).1 /\
  ((fN (F9 fr to lv) m (r,false)).2=false->(fN (F9 fr to lv) m (r,false)).1=r/\∀i,i<m->lv i=true->r.getD (fr i) false=true->r.getD (to i) false=true) /\
  ((fN (F9 fr to lv) m (r,false)).2=true->C9 r<C9 (fN (F9 fr to lv) m (r,false)).1)/\C9 r<=C9 (fN (F9 fr to lv) m (r,false)).1:=by
 intro m
 induction m with
 | zero=>intro _; exact⟨h,fun _=>⟨rfl,fun i hi=>by omega⟩,(fun h=>by cases h),Nat.le_refl _⟩
 | succ m n =>
   intro o;obtain⟨b,i2,i3,i4⟩:=n (by omega);show RI M N fr to lv s (F9 fr to lv m (fN (F9 fr to lv) m (r,false))).1/\((F9 fr to lv m (fN (F9 fr to lv) m (r,false))).2=false->(F9 fr to lv m (fN (F9 fr to lv) m (r,false))).1=r/\_)/\((F9 fr to lv m (fN (F9 fr to lv) m (r,false))).2=true->_<C9 (F9 fr to lv m (fN (F9 fr to lv) m (r,false))).1)/\_<=C9 (F9 fr to lv m (fN (F9 fr to lv) m (r,false))).1;generalize fN (F9 fr to lv) m (r,false)=q at b i2 i3 i4 ⊢;unfold F9;split
   ·rename_i d;simp only[ba,Bool.not_eq_true'] at d;obtain⟨⟨l,j⟩,f⟩:=d;have a:to m<q.1.length:=by rw[b.len]; exact k m (by omega)
    have g:=q0W a f;refine⟨⟨by rw[List.length_set,b.len],?_,fun v c=>?_⟩,(fun h=>by cases h),fun _=>by show C9 r<C9 (q.1.set (to m) true); omega,by show C9 r<=C9 (q.1.set (to m) true); omega⟩
    ·show(q.1.set (to m) true).getD s false=true;rw[JW true a];split
     ·rfl
     ·exact b.src
    ·rw[JW true a] at c;split at c
     ·rename_i e;subst e;exact(b.snd _ j).step (by omega) l
     ·exact b.snd v c
   grind
theorem p0L{ρ:Type}(l:∀i,i<M->to i<N)(r:N<=1000000){s:Nat}(j:s<N){F:(List Bool×Bool->Option ρ)->List Bool×Bool->Option ρ}{J:List Bool->Option ρ}
  (n:∀g (q:List Bool×Bool),q.1.length=N->F g q=if q.2=true then g (fN (F9 fr to lv) M (q.1,false)) else J q.1):∃L,RB M N fr to lv s L/\lp F ((List.replicate N false).set s true,true)=J L:=by
 have k:RI M N fr to lv s ((List.replicate N false).set s true):=by
  have d:s < (List.replicate N false).length:=by rw[List.length_replicate]; exact j
  refine⟨by rw[List.length_set,List.length_replicate],by rw[JW true d,if_pos rfl],fun v f=>?_⟩;rw[JW true d] at f;split at f
  ·rename_i e; subst e; exact .refl
  ·grind
 obtain⟨q,⟨_,a⟩,c,t⟩:=Wz (J:=fun q:List Bool×Bool=>J q.1) (fun q=>2*(N-C9 q.1)+q.2.toNat) (fun q=>RI M N fr to lv s q.1/\(q.2=false->RB M N fr to lv s q.1)) (fun q=>q.2) (fun q=>fN (F9 fr to lv) M (q.1,false))
  (fun g q a=>n g q a.1.len) (fun q a c=>by
    obtain⟨b,i2,i3,i4⟩:=D0j M N fr to lv l a.1 M (Nat.le_refl _);refine⟨⟨b,fun h=>?_⟩,?_⟩
    ·obtain⟨e,m⟩:=i2 h;rw[e];exact a.1.done m
    ·have o:=WQ (fN (F9 fr to lv) M (q.1,false)).1;rw[b.len] at o;show 2*(N-C9 (fN (F9 fr to lv) M (q.1,false)).1)+(fN (F9 fr to lv) M (q.1,false)).2.toNat<2*(N-C9 q.1)+q.2.toNat;rw[c];cases h:(fN (F9 fr to lv) M (q.1,false)).2 with
     | true=>grind
     | false=>grind) (((List.replicate N false).set s true),true) ⟨k,fun h=>by cases h⟩ (by grind)
 grind
def R0w(r:List Bool):Nat:=(List.range M).countP fun i=>lv i&&!r.getD (fr i) false
structure QI(s:Nat)(q:List Int×List Bool):Prop where
 len:q.2.length=N
 mem:∀x∈q.1,0<=x/\x.toNat<N/\Rch M fr to lv s x.toNat
 snd:∀v,q.2.getD v false=true->Rch M fr to lv s v
 src:q.2.getD s false=true∨(s:Int)∈q.1
 cls:∀i,i<M->lv i=true->q.2.getD (fr i) false=true->q.2.getD (to i) false=true∨(to i:Int)∈q.1
 cnt:q.1.length+R0w M fr lv q.2<=M+1
theorem B0G(c:∀i,i<M->to i<N)(a:N<=1000000){s:Nat}(b:s<N):∃L,RB M N fr to lv s L:=by
 obtain⟨L,h,_⟩:=p0L (ρ:=Unit) M N fr to lv c a b (F:=fun g q=>if q.2=true then g (fN (F9 fr to lv) M (q.1,false)) else none) (J:=fun _=>none) (fun _ _ _=>rfl)
 grind
end
abbrev Sp:=Int×Int
abbrev r6:=Sp×Sp
def M5(a b:Sp):Sp:=(min a.1 b.1,max a.2 b.2)
def O0(a b:Sp):Sp:=(a.1+b.1,a.2+b.2)
def FY(o:Option r6)(x:r6):Option r6:=match o with
 | none=>some x
 | some y=>some (M5 y.1 x.1,M5 y.2 x.2)
section
variable (M:Nat) (fr to:Nat->Nat) (lv:Nat->Bool) (sp:Nat->Sp->Sp×Sp) (src:Nat->Option r6)
def Cc(T:Nat->Option r6)(v k:Nat)(o:Option r6):Option r6:=if(lv k&&to k==v)=true then(match T (fr k) with
 | none=>o
 | some x=>FY o (O0 x.1 (sp k x.2).1,(sp k x.2).2)) else o
def AO(T:Nat->Option r6)(v:Nat):Option r6:=fN (Cc fr to lv sp T v) M (src v)
def I1(T:Nat->Option r6)(v:Nat)(x:Option r6):Nat->Option r6:=fun w=>if w=v then x else T w
variable (ok:r6->Bool)
def CP(x:Option r6):Bool:=match x with
 | none=>true
 | some y=>ok y
def Aj:List Nat->(Nat->Option r6)->Option (Nat->Option r6)
 | [],T=>some T
 | v :: r,T=>if CP ok (AO M fr to lv sp src T v)=true then Aj r (I1 T v (AO M fr to lv sp src T v)) else none
end
theorem n0q{a:Type}{f g:Nat->a->a}:∀(n:Nat) (s:a),(∀i s,i<n->f i s=g i s)->fN f n s=fN g n s
 | 0,_,_=>rfl
 | n+1,s,h=>by
   show f n (fN f n s)=g n (fN g n s);rw[n0q n s (fun i s hi=>h i s (by omega)),h n _ (by omega)]
theorem WR{a:Type}{f:Nat->a->a}(I:a->Prop):∀(n:Nat) (s:a),I s->(∀i s,i<n->I s->I (f i s))->I (fN f n s)
 | 0,_,h,_=>h
 | n+1,s,h,hs=>hs n _ (by omega) (WR I n s h fun i s hi=>hs i s (by omega))
section
variable {M:Nat} {fr to:Nat->Nat} {lv:Nat->Bool} {sp:Nat->Sp->Sp×Sp} {src:Nat->Option r6} {ok:r6->Bool}
theorem i0h{T T':Nat->Option r6}{v:Nat}(h:∀k,k<M->lv k=true->to k=v->T (fr k)=T' (fr k)):AO M fr to lv sp src T v=AO M fr to lv sp src T' v:=by
 unfold AO;refine n0q M _ fun k s a=>?_
 grind[Cc]
def JY(M:Nat)(fr to:Nat->Nat)(lv:Nat->Bool):List Nat->List Nat->Prop
 | _,[]=>True
 | d,v :: r=>(∀k,k<M->lv k=true->to k=v->fr k∈d)/\JY M fr to lv (d++[v]) r
theorem u0N{v:Nat}{r:List Nat}{T:Nat->Option r6}:Aj M fr to lv sp src ok (v :: r) T=if CP ok (AO M fr to lv sp src T v)=true then Aj M fr to lv sp src ok r (I1 T v (AO M fr to lv sp src T v)) else none:=rfl
theorem WS:∀(r:List Nat) (T T':Nat->Option r6),Aj M fr to lv sp src ok r T=some T'->∀w,w ∉ r->T' w=T w
 | [],T,T',h,w,_=>by cases h; rfl
 | v :: r,T,T',h,w,hw=>by
   unfold Aj at h;split at h
   ·rw[List.mem_cons,not_or] at hw;rw[WS r _ T' h w hw.2]
    grind[I1]
   grind
theorem k0g:∀(r d:List Nat) (T T':Nat->Option r6),(d++r).Nodup->JY M fr to lv d r->Aj M fr to lv sp src ok r T=some T'->∀v∈r,T' v=AO M fr to lv sp src T' v/\CP ok (T' v)=true
 | [],_,_,_,_,_,_,v,hv=>by cases hv
 | u :: r,d,T,T',hd,ha,h,v,hv=>by
   have c:(d++[u]++r).Nodup:=by rw[List.append_assoc]; exact hd
   have a:=List.nodup_append.1 hd;have o:=h;unfold Aj at h;split at h
   ·rename_i b;rcases List.mem_cons.1 hv with e | hv
    ·subst e;have n:v ∉ r:=(List.nodup_cons.1 a.2.1).1;have f:=WS r _ T' h v n;have i:I1 T v (AO M fr to lv sp src T v) v=AO M fr to lv sp src T v:=if_pos rfl;rw[i] at f;rw[f];refine⟨i0h fun k j g l=>?_,b⟩;have m:=ha.1 k j g l
     grind[WS]
    ·exact k0g r (d++[u]) _ T' c ha.2 h v hv
   grind
theorem v0j(P:r6->Prop)(h:∀v x,src v=some x->P x)(i:∀x y,P x->P y->P (M5 x.1 y.1,M5 x.2 y.2))(f:∀k x,k<M->lv k=true->P x->P (O0 x.1 (sp k x.2).1,(sp k x.2).2)){T:Nat->Option r6}(b:∀v x,T v=some x->P x)(v:Nat):∀x,AO M fr to lv sp src T v=some x->P x:=by
 unfold AO;refine WR (fun o:Option r6=>∀x,o=some x->P x) M _ (h v) fun k o d g=>?_;unfold Cc;split
 ·rename_i c;simp only[ba,beq_iff_eq] at c;cases e:T (fr k) with
  | none=>exact g
  | some y =>
    intro x a;cases o with
    | none =>
      have a:some (O0 y.1 (sp k y.2).1,(sp k y.2).2)=some x:=a;cases a;exact f k y d c.1 (b _ _ e)
    | some z =>
      have a:some (M5 z.1 (O0 y.1 (sp k y.2).1),M5 z.2 (sp k y.2).2)=some x:=a;cases a;exact i z (O0 y.1 (sp k y.2).1,(sp k y.2).2) (g z rfl) (f k y d c.1 (b _ _ e))
 omega
theorem p0Z(P:r6->Prop)(b:∀v x,src v=some x->P x)(c:∀x y,P x->P y->P (M5 x.1 y.1,M5 x.2 y.2))(d:∀k x,k<M->lv k=true->P x->P (O0 x.1 (sp k x.2).1,(sp k x.2).2)):∀(r:List Nat) (T T':Nat->Option r6),(∀v x,T v=some x->P x)->Aj M fr to lv sp src ok r T=some T'->∀v x,T' v=some x->P x
 | [],T,T',hT,h=>by cases h; exact hT
 | u :: r,T,T',hT,h=>by
   unfold Aj at h;split at h
   ·refine p0Z P b c d r _ T' (fun v x a=>?_) h;unfold I1 at a;split at a
    ·exact v0j P b c d hT u x a
    grind
   grind
def JZ(a b:Sp):Prop:=b.1<=a.1/\a.2<=b.2
def insO(x y:Option r6):Prop:=∀a,x=some a->∃c,y=some c/\JZ a.1 c.1/\JZ a.2 c.2
theorem insO.refl(x:Option r6):insO x x:=fun a h=>⟨a,h,⟨Int.le_refl _,Int.le_refl _⟩,⟨Int.le_refl _,Int.le_refl _⟩⟩
theorem insO.none(y:Option r6):insO none y:=fun _ h=>by cases h
end
end Go.Proofs.Xd
end
section
namespace Go.Proofs.YtdjgagoledoaaaaGreatDoor
open Go Go.Proofs Go.Proofs.Sv Go.Proofs.Xv Go.Proofs.Xl Go.Proofs.Xd
structure SpanV(b:j7)(c:p7)(q:Int)(dv lv:Int->Int->Int):Prop where
 del:∀s m,L6 (m9 b) c q s m=some (dv s m)
 d0:∀s m,0<=dv s m/\dv s m<=5000000
 d2:∀s,dv s 0<=dv s 1
 slw:∀s m,0<=s->s<=1000000->m=0∨m=1->F7 (m9 b) q s m=some (lv s m)/\0<=lv s m/\lv s m<=1000000
 l2:∀s,0<=s->s<=1000000->lv s 0<=lv s 1
section
variable {b:j7}
theorem H0y(o:wf k8 b)(_:cnt k8 b<=1048576)(a:p8 b=true){c:p7}(_:wf p5 c)(j:F6 c=true){q:Int}(f:m0 q 0 (((lV b).length:Int)-1)=true):∃dv lv,SpanV b c q dv lv:=by
 obtain⟨B,u⟩:=E0t a f;obtain⟨d,l,g⟩:=I0C a j f;have e:∀s m,d s m=u4 (B s m*C0 c ((lV b).getD q.toNat (b7 y80)).2.2.1 m) 1000 m:=fun s m=>by
  have n:=l s m;rw[u.val c j] at n
  grind
 refine⟨d,fun s m=>vl (F7 (m9 b) q s m),⟨l,fun s m=>?_,g,fun s m k i h=>?_,fun s k i=>?_⟩⟩
 ·rw[e];have E:=u.bd s m;have F:=DN j ((lV b).getD q.toNat (b7 y80)).2.2.1 m;have v:=Int.mul_nonneg E.1 F.1;have n:=J6 (A:=1000000) (B:=5000) (x:=B s m) (y:=C0 c ((lV b).getD q.toNat (b7 y80)).2.2.1 m) (by omega) (by omega) (by omega) (by omega) (by decide);exact⟨JT m v (by decide),(FU (K:=5000000) m (by decide) (by omega) (by omega)).2⟩
 ·obtain⟨r,t,_,w⟩:=Np o a f k i h;have z:=x0W o a f k i h t;show _=some (vl (F7 (m9 b) q s m))/\0<=vl (F7 (m9 b) q s m)/\vl (F7 (m9 b) q s m)<=1000000;rw[t];exact⟨rfl,z,w⟩
 grind[x0V,vl,F7,m9]
def AP(dv lv:Int->Int->Int)(sp:Sp):Sp×Sp:=((min (dv sp.1 0) (dv sp.2 0),max (dv sp.1 1) (dv sp.2 1)),min (lv sp.1 0) (lv sp.2 0),max (lv sp.1 1) (lv sp.2 1))
theorem SpanV.spans{c:p7}{q:Int}{a lv:Int->Int->Int}(h:SpanV b c q a lv)(j:m0 q 0 (((lV b).length:Int)-1)=true){sp:Sp}(d:B0 sp=true):Dv (m9 b) c q sp=some (AP a lv sp):=by
 unfold B0 at d;rw[ba,ba] at d;have f:=z8.1 d.1.2;have e:=z8.1 d.2;have g:=z8.1 j;have i:ix q (m9 b).2.2.1.length:=⟨g.1,by show q < ((lV b).length:Int); omega⟩;unfold Dv;rw[h.del,h.del,h.del,h.del];refine(gP ⟨rfl,rfl,rfl,rfl,trivial⟩).trans ?_;rw[lE];refine(gP ⟨i,trivial⟩).trans ?_;rw[lE];refine(if_neg ?_).trans ?_
 ·show ¬(decide ((0:Int)<0)&&_)=true;simp
 ·show Hj (m9 b) q sp (min (a sp.1 0) (a sp.2 0),max (a sp.1 1) (a sp.2 1))=_;rw[Hj,(h.slw sp.1 0 f.1 f.2 (.inl rfl)).1,(h.slw sp.2 0 e.1 e.2 (.inl rfl)).1,(h.slw sp.1 1 f.1 f.2 (.inr rfl)).1,(h.slw sp.2 1 e.1 e.2 (.inr rfl)).1];rfl
theorem SpanV.ok{c:p7}{q:Int}{d lv:Int->Int->Int}(h:SpanV b c q d lv){sp:Sp}(f:B0 sp=true):0<=(AP d lv sp).1.1/\(AP d lv sp).1.1<=(AP d lv sp).1.2/\(AP d lv sp).1.2<=5000000/\B0 (AP d lv sp).2=true:=by
 unfold B0 at f;rw[ba,ba] at f;have a:=z8.1 f.1.2;have e:=z8.1 f.2;have n:=h.d0 sp.1 0;have i:=h.d0 sp.2 0;have k:=h.d0 sp.1 1;have s:=h.d0 sp.2 1;have l:=h.d2 sp.1;have r:=(h.slw sp.1 0 a.1 a.2 (.inl rfl)).2;have o:=(h.slw sp.2 0 e.1 e.2 (.inl rfl)).2;have g:=(h.slw sp.1 1 a.1 a.2 (.inr rfl)).2;have j:=(h.slw sp.2 1 e.1 e.2 (.inr rfl)).2;have m:=h.l2 sp.1 a.1 a.2;unfold AP;refine⟨by grind,by grind,by grind,?_⟩;unfold B0 C1;simp only[ba,dq]
 grind[z8]
def Ny(t:u6):Prop:=∀r q,r+1<t.1.length->q<t.2.1.length->J0 t r q<=J0 t (r+1) q
def M0j(b:j7):Prop:=∀ce∈b.1,∀ar∈ce.2.2.2.1,(∀t∈ar.2.2.2.2.1,Ny t)/\∀t∈ar.2.2.2.2.2,Ny t
theorem z0O{l:w7}{a:D7}{n:Nat}(i:M0j b)(h:Nl b l a n):(∀t∈a.2.2.2.2.1,Ny t)/\∀t∈a.2.2.2.2.2,Ny t:=by
 have g:=h.cix;have f:=h.aix;have c:(m7 b.2.1 (u0 b.2.1 (l.2.1.tdiv 2).toNat).1.toNat).2.1.toNat<b.1.length:=by have:=g.1; have:=g.2; omega
 have e:l.2.2.2.toNat < (b.1.getD (m7 b.2.1 (u0 b.2.1 (l.2.1.tdiv 2).toNat).1.toNat).2.1.toNat (b7 y64)).2.2.2.1.length:=by have:=f.1; have:=f.2; omega
 have:=i _ (H5 (d:=b7 y64) c) _ (H5 (d:=b7 y67) e);rw[h.arc] at this;omega
theorem v0E{T:List u6}(c:D9 T true=true)(k:∀t∈T,Ny t){x:Int}(i:x=0∨x=1)(l:Int){s e m:Int}(n:m=0∨m=1)(h:s<=e){V:Int->Int->Int}(g:Ns (T.getD x.toNat (b7 y70)) l V):V s m<=V e m:=by
 obtain⟨f,j⟩:=CN c i;have b:x.toNat<T.length:=by have:=f.1; have:=f.2; omega
 have a:=H5 (d:=b7 y70) b;exact v0D j (Re c a) (k _ a) l g n h
theorem SpanV.mono(_:wf k8 b)(E:p8 b=true)(hM:M0j b){c:p7}(Y:F6 c=true){q:Int}(hq:m0 q 0 (((lV b).length:Int)-1)=true){H lv:Int->Int->Int}(h:SpanV b c q H lv):(∀s s' m,s<=s'->m=0∨m=1->H s m<=H s' m)/\∀s s' m,0<=s->s<=s'->s'<=1000000->m=0∨m=1->lv s m<=lv s' m:=by
 obtain⟨x1,x2⟩:=WL hq;have v:ix q (m9 b).2.2.1.length:=x1;have o:(lV b).getD q.toNat (b7 y80)∈lV b:=H5 x2;rcases HP E o with ⟨a,n,e⟩ | ⟨n,k,e⟩
 ·obtain⟨m1,m2⟩:=z0O hM e;obtain⟨V,hV,aF⟩:=Ri E e.del e.trs ((z6 b n).getD 0 0);obtain⟨W,P,Q⟩:=Ri E e.slw e.trs ((z6 b n).getD 0 0);have ed:∀s m,H s m=u4 (V s m*C0 c ((lV b).getD q.toNat (b7 y80)).2.2.1 m) 1000 m:=fun s m=>by
   have h1:=h.del s m
   grind[q0T,Option.some.inj]
  refine⟨fun s s' m i f=>?_,fun s s' m G i F f=>?_⟩
  ·rw[ed,ed];refine w0e m (Int.mul_nonneg (hV.pos _ _) (DN Y _ _).1) ?_;exact Int.mul_le_mul_of_nonneg_right (v0E e.del m1 e.trs _ f i hV) (DN Y _ _).1
  ·have X:=v0E e.slw m2 e.trs _ f i P;obtain⟨t1,t2⟩:=CN e.slw e.trs;obtain⟨u,j⟩:=HW b e.nlt;have aA:=(h.slw s m G (by omega) f).1;have aB:=(h.slw s' m (by omega) F f).1;generalize hll:(lV b).getD q.toNat (b7 y80)=l at e hV P t1 t2 u j X;have g:(m9 b).2.2.1.getD q.toNat (b7 y80)=l:=hll;have val:∀s,F7 (m9 b) q s m=some (W s m):=fun s=>by
    unfold F7;refine(gP ⟨v,trivial⟩).trans ?_;rw[lE,g,Z2 e.pix e.net,vS,gP ⟨rfl,trivial⟩,lE];refine(if_pos (by rw[e.kind]; rfl)).trans ?_;rw[HQ e,vS,u,P.val,vS];refine(gP ⟨rfl,by decide,t1,j,rfl,trivial⟩).trans ?_;rw[lE];have:=Q s m;have:min (W s m) 1000000=W s m:=by omega
    rw[this]
   grind
 ·have no:=Br E e.nlt;obtain⟨dl,db⟩:=no.delays;have hd:=db (w6 b n k).toNat;obtain⟨u,j⟩:=HX b e.nlt;have aG:=HL b n;have t:=e.klt;have e4:((k:Int)).toNat=k:=rfl;generalize hll:(lV b).getD q.toNat (b7 y80)=l at e;have g:(m9 b).2.2.1.getD q.toNat (b7 y80)=l:=hll;refine⟨fun s s' m i f=>?_,fun s s' m G i F f=>?_⟩
  ·have h1:=h.del s m;have h2:=h.del s' m;have hv:=FU (a:=(A7 b n).getD (w6 b n k).toNat 0) (b:=1000) (K:=301000) m (by decide) (by omega) (by omega);have aH:=JT (a:=(A7 b n).getD (w6 b n k).toNat 0) (b:=1000) m (by omega) (by decide);have aD:∀s,L6 (m9 b) c q s m=some (u4 (u4 ((A7 b n).getD (w6 b n k).toNat 0) 1000 m*C0 c l.2.2.1 m) 1000 m):=fun s=>by
    have hf:=DN Y l.2.2.1 m;have hp:=J6 (A:=1000000) (B:=5000) (x:=u4 ((A7 b n).getD (w6 b n k).toNat 0) 1000 m) (y:=C0 c l.2.2.1 m) (by omega) (by omega) (by omega) (by omega) (by decide);have aC:=V8 (u4 ((A7 b n).getD (w6 b n k).toNat 0) 1000 m*C0 c l.2.2.1 m) 1000 m (by omega) (by omega) (by decide);have T:AG (u4 ((A7 b n).getD (w6 b n k).toNat 0) 1000 m) (C0 c l.2.2.1 m) m=some (u4 (u4 ((A7 b n).getD (w6 b n k).toNat 0) 1000 m*C0 c l.2.2.1 m) 1000 m):=by
     unfold AG;rw[aC.1,vS,gP ⟨oo,rfl,trivial⟩,lE]
    unfold L6;refine(gP ⟨x1,trivial⟩).trans ?_;rw[lE,g,Z2 e.pix e.net,vS,gP ⟨rfl,trivial⟩,lE];refine(if_neg (by rw[e.kind]; decide)).trans ?_;rw[u,e.idx,e4,HK t,(V8 _ 1000 m (by omega) (by omega) (by decide)).1,vS];refine(gP ⟨j,oo,rfl,trivial⟩).trans ?_;rw[lE];show AH c l m _=_;rw[AH,Nq,vS,T,vS,gP ⟨rfl,rfl,trivial⟩,lE]
   grind
  ·obtain⟨r,z,w1,w2,w3⟩:=r0v (d:=(A7 b n).getD (w6 b n k).toNat 0) (m:=m) G i F hd.1 hd.2 f;have val:∀s r,W7 s ((A7 b n).getD (w6 b n k).toNat 0) m=some r->F7 (m9 b) q s m=some (min r 1000000):=fun s r w=>by
    unfold F7;refine(gP ⟨v,trivial⟩).trans ?_;rw[lE,g,Z2 e.pix e.net,vS,gP ⟨rfl,trivial⟩,lE];refine(if_neg (by rw[e.kind]; decide)).trans ?_;rw[u,e.idx];rw[e4,HK t,w,vS];refine(gP ⟨j,oo,rfl,trivial⟩).trans ?_;rw[lE]
   have aA:=(h.slw s m G (by omega) f).1;have aB:=(h.slw s' m (by omega) F f).1
   grind
theorem SpanV.ins{b lv:Int->Int->Int}(f:∀s a m,s<=a->m=0∨m=1->b s m<=b a m)(h:∀s a m,0<=s->s<=a->a<=1000000->m=0∨m=1->lv s m<=lv a m){s a:Sp}(g:B0 s=true)(j:B0 a=true)(hi:JZ s a):JZ (AP b lv s).1 (AP b lv a).1/\JZ (AP b lv s).2 (AP b lv a).2:=by
 have c:∀{s:Sp},B0 s=true->0<=s.1/\s.1<=s.2/\s.2<=1000000:=fun {s} g=>by
  unfold B0 C1 at g;simp only[ba,dq] at g
  grind[z8]
 obtain⟨k,i,l⟩:=c g;obtain⟨o,z,n⟩:=c j;have e:=hi.1;have d:=hi.2;have x:=f a.1 s.1 0 e (.inl rfl);have q:=f s.1 s.2 0 i (.inl rfl);have t:=f s.2 a.2 1 d (.inr rfl);have u:=f s.1 s.2 1 i (.inr rfl);have w:=h a.1 s.1 0 o e (by omega) (.inl rfl);have r:=h s.1 s.2 0 k i l (.inl rfl);have v:=h s.2 a.2 1 (by omega) d n (.inr rfl);have y:=h s.1 s.2 1 k i l (.inr rfl)
 grind[JZ,AP]
end
end Go.Proofs.YtdjgagoledoaaaaGreatDoor
end
section
namespace Go.Proofs.Xd
open Go.Proofs.Xl
abbrev Kb:=List Bool×List Sp×List Sp
def r7(N:Nat)(T:Nat->Option r6):Kb:=((List.range N).map fun v=>(T v).isSome,(List.range N).map fun v=>((T v).getD ((0,0),(0,0))).1,(List.range N).map fun v=>((T v).getD ((0,0),(0,0))).2)
def Ak(t:Kb):Nat->Option r6:=fun v=>if t.1.getD v false=true then some (t.2.1.getD v (0,0),t.2.2.getD v (0,0)) else none
theorem DO{a:Type}(f:Nat->a)(N:Nat)(d:a){v:Nat}(h:v<N):((List.range N).map f).getD v d=f v:=by
 rw[gq,List.getElem?_map,List.getElem?_range h];rfl
theorem D0M{b:Type}(f g:Nat->b)(N v:Nat)(h:∀w,w<N->w≠v->f w=g w):((List.range N).map f).set v (g v)=(List.range N).map g:=by
 refine List.ext_getElem? fun i=>?_;rw[List.getElem?_set,List.getElem?_map,List.getElem?_map,List.length_map,List.length_range];by_cases hi:i<N
 ·rw[List.getElem?_range hi];by_cases e:v=i
  ·subst e;rw[if_pos rfl,if_pos hi];rfl
  ·rw[if_neg e];show some (f i)=some (g i);rw[h i hi (fun a=>e a.symm)]
 ·rw[List.getElem?_eq_none (by rw[List.length_range]; omega)];by_cases e:v=i
  ·rw[if_pos e,if_neg (by omega)]; rfl
  ·rw[if_neg e]; rfl
theorem WU{N:Nat}{T:Nat->Option r6}{v:Nat}(h:v<N):Ak (r7 N T) v=T v:=by
 unfold Ak r7;simp only;rw[DO _ N _ h,DO _ N _ h,DO _ N _ h];cases T v <;> rfl
theorem z0C{N:Nat}{T:Nat->Option r6}{v:Nat}(h:T v=none):r7 N (I1 T v none)=r7 N T:=by
 have:I1 T v none=T:=by
  funext w;unfold I1;split
  ·rename_i e; rw[e,h]
  ·rfl
 rw[this]
theorem FZ{N:Nat}{T:Nat->Option r6}:(r7 N T).1.length=N/\(r7 N T).2.1.length=N/\(r7 N T).2.2.length=N:=by
 unfold r7;simp
section
variable (M:Nat) (fr to:Nat->Nat) (lv:Nat->Bool) (sp:Nat->Sp->Sp×Sp) (src:Nat->Option r6) (T:Nat->Option r6) (md:Int)
end
section
variable {M:Nat} {fr to:Nat->Nat} {lv:Nat->Bool} {sp:Nat->Sp->Sp×Sp} {src:Nat->Option r6} {T:Nat->Option r6} {md:Int}
end
abbrev M6:=Int×Sp×Sp
def HZ(l:List M6):Prop:=l.Pairwise fun x y=>x.1<y.1
def M7(l:List M6)(v:Nat):Option r6:=(l.find? fun s=>s.1==(v:Int)).map fun s=>s.2
theorem WV{l:List M6}(h:HZ l){s:M6}(d:s∈l){v:Nat}(n:s.1=(v:Int)):M7 l v=some s.2:=by
 unfold M7;cases e:l.find? fun s=>s.1==(v:Int) with
 | none =>
   have:=List.find?_eq_none.1 e s d;simp[n] at this
 | some x =>
   have k:=List.find?_some e;have m:=List.mem_of_find?_eq_some e;have k:x.1=(v:Int):=by simpa using k
   obtain⟨i,hi,b⟩:=List.getElem_of_mem m;obtain⟨j,g,a⟩:=List.getElem_of_mem d;have f:=List.pairwise_iff_getElem.1 h;rcases Nat.lt_trichotomy i j with c | c | c
   ·have:=f i j hi g c;rw[b,a] at this;omega
   ·subst c;rw[b] at a;rw[a];rfl
   ·have:=f j i g hi c;rw[b,a] at this;omega
theorem x0O{l:List M6}{v:Nat}(h:∀s∈l,s.1≠(v:Int)):M7 l v=none:=by
 unfold M7;rw[List.find?_eq_none.2 fun s a=>by simpa using h s a];rfl
theorem p0Q{l:List M6}{v:Nat}{x:r6}(h:M7 l v=some x):∃s∈l,s.1=(v:Int)/\s.2=x:=by
 unfold M7 at h;cases e:l.find? fun s=>s.1==(v:Int) with
 | none=>rw[e] at h; cases h
 | some s =>
   rw[e] at h;cases h;exact⟨s,List.mem_of_find?_eq_some e,by simpa using List.find?_some e,rfl⟩
def DP(l:List M6)(d:M6)(v:Nat)(i:Nat)(o:Option r6):Option r6:=if((l.getD i d).1==(v:Int))=true then some (l.getD i d).2 else o
theorem x0P{l:List M6}(h:HZ l)(d:M6)(v:Nat):fN (DP l d v) l.length none=M7 l v:=by
 have f:∀n,n<=l.length->fN (DP l d v) n none=M7 (l.take n) v:=by
  intro n
  induction n with
  | zero=>intro _; rfl
  | succ n o =>
    intro r;have b:n<l.length:=by omega
    have q:l.getD n d=l[n]:=by rw[gq,List.getElem?_eq_getElem b]; rfl
    have hi:HZ (l.take (n+1)):=h.sublist (List.take_sublist _ _);have g:l.take (n+1)=l.take n++[l[n]]:=by rw[List.take_add_one,List.getElem?_eq_getElem b]; rfl
    show DP l d v n (fN (DP l d v) n none)=_;rw[o (by omega)];unfold DP;rw[q];by_cases c:(l[n].1==(v:Int))=true
    ·rw[if_pos c];exact(WV hi (by rw[g]; exact List.mem_append_right _ (List.mem_singleton.2 rfl)) (by simpa using c)).symm
    ·rw[if_neg c];cases e:M7 (l.take n) v with
     | none =>
       refine(x0O fun s a i=>?_).symm;rw[g] at a;rcases List.mem_append.1 a with a | a
       ·have:=WV (h.sublist (List.take_sublist n l)) a i;rw[e] at this;cases this
       ·rw[List.mem_singleton.1 a] at i;exact c (by simpa using i)
     | some x =>
       obtain⟨s,m,j,k⟩:=p0Q e;have:=WV hi (by rw[g]; exact List.mem_append_left _ m) j;rw[this,k]
 have:=f l.length (Nat.le_refl _)
 rwa [List.take_of_length_le (Nat.le_refl _)] at this
end Go.Proofs.Xd
end
section
namespace Go.Proofs.YtdjgagoledoaaaaGreatDoor
open Go Go.Proofs Go.Proofs.Sv Go.Proofs.Xv Go.Proofs.Xl Go.Proofs.Xd
theorem l5{ρ:Type}{V:Prop}[Decidable V]{e:Option ρ}{P:ρ->Prop}(a:V)(h:∃r,e=some r/\P r):∃r,gd V e=some r/\P r:=by grind[gP]
theorem P2{a ρ:Type}{F:(a->Option ρ)->a->Option ρ}(b:a->Nat)(I:a->Prop){P:ρ->Prop}(i:∀g s,I s->(∀s',I s'->b s'<b s->∃r,g s'=some r/\P r)->∃r,F g s=some r/\P r){s:a}(e:I s)(f:b s<=18446744073709551616):∃r,lp F s=some r/\P r:=by
 have d:∀n s,I s->b s<n->∃r,I9 F n s=some r/\P r:=by
  intro n
  induction n with
  | zero=>omega
  | succ n j =>
    intro s e h;exact i (I9 F n) s e fun s' c k=>j s' c (by omega)
 exact d V7 s e (by grind[V7])
def Sd(s:l6):Prop:=sd s/\s.1.length<=9223372036854775807/\∀b∈s.1,0<=b/\b<=255
theorem Sd.sd{s:l6}(h:Sd s):YtdjgagoledoaaaaGreatDoor.sd s:=h.1
theorem z7{s:l6}{n:Int}(h:Sd s)(o:n<=9223372036854775807):∃v s',c8 s n=some (v,s')/\Sd s'/\0<=v/\(1<=n->v<n)/\(n<=1->v=0):=by
 obtain⟨⟨f,g,i⟩,d,b⟩:=h;have k:∀x:Int,0<=x->0<=x.tmod 2147483647/\x.tmod 2147483647<2147483647:=fun x a=>⟨Int.tmod_nonneg _ a,Int.tmod_lt_of_pos x (by omega)⟩;unfold c8;by_cases e:n<=1
 ·rw[if_pos (decide_eq_true e)];exact⟨0,_,rfl,⟨⟨f,g,i⟩,d,b⟩,by omega,by omega,fun _=>rfl⟩
 ·rw[if_neg (by grind)];by_cases j:s.2.1 < (s.1.length:Int)
  ·rw[if_pos (decide_eq_true j)];have m:0<=s.1.getD s.2.1.toNat 0/\s.1.getD s.2.1.toNat 0<=255:=by
    have c:s.2.1.toNat<s.1.length:=by omega
    rw[gq,List.getElem?_eq_getElem c];exact b _ (List.getElem_mem c)
   rw[gP ⟨⟨f,j⟩,trivial,trivial⟩,gP ⟨oo,trivial⟩];by_cases l:n<=256
   ·rw[if_pos (decide_eq_true l),gP ⟨by omega,trivial⟩];exact⟨_,_,rfl,⟨⟨by grind,g,i⟩,d,b⟩,Int.tmod_nonneg _ m.1,fun _=>Int.tmod_lt_of_pos _ (by omega),fun h=>(e h).elim⟩
   ·rw[if_neg (by grind),gP ⟨oo,oo,oo,by omega,trivial⟩,lE,gP ⟨by omega,trivial⟩];have a:=k (s.2.2*48271+s.1.getD s.2.1.toNat 0+1) (by omega);exact⟨_,_,rfl,⟨⟨by grind,a.1,a.2⟩,d,b⟩,Int.tmod_nonneg _ a.1,fun _=>Int.tmod_lt_of_pos _ (by omega),fun h=>(e h).elim⟩
  ·rw[if_neg (by grind),gP ⟨oo,oo,by omega,trivial⟩,gP ⟨by omega,by omega,trivial⟩];have a:=k (s.2.2*48271+11) (by omega);exact⟨_,_,rfl,⟨⟨f,a.1,a.2⟩,d,b⟩,Int.tmod_nonneg _ (Int.tdiv_nonneg a.1 (by omega)),fun _=>Int.tmod_lt_of_pos _ (by omega),fun h=>(e h).elim⟩
theorem w0y{s:l6}{n:Int}(h:Sd s)(k:1<=n)(T:n<=1000):∃r,Hs s n=some r/\Sd r.2/\1<=r.1.length/\r.1.length<=3:=by
 obtain⟨F,P,q,d,G,l,_⟩:=z7 (n:=n) h (by omega);obtain⟨Q,H,E,f,W,o,_⟩:=z7 (n:=3) d (by omega);have l:=l k;have o:=o (by omega);unfold Hs;simp only[q,E,vS,lE,Option.isSome_some];refine l5 ⟨trivial,trivial⟩ (l5 ⟨trivial,oo,trivial⟩ ?_);refine P2 (fun x=>x.2.1.toNat) (fun x=>Sd (x.2.2.1,x.2.2.2.1,x.2.2.2.2.1)/\0<=x.1/\x.1+1001*x.2.1<=5000/\0<=x.2.1/\1<=(x.2.2.2.2.2.length:Int)+x.2.1/\(x.2.2.2.2.2.length:Int)+x.2.1<=3) ?_ ⟨f,by omega,by grind,by grind,by grind,by grind⟩ (by grind);rintro g ⟨x,m,c,w,z,y⟩ ⟨i,i2,i3,i4,i5,i6⟩ u;simp only at i i2 i3 i4 i5 i6;unfold A0c;dsimp only;by_cases t:0<m
 ·obtain⟨v,V,e,j,a,b,_⟩:=z7 (n:=n) i (by omega);have b:=b k;simp only[e,vS,lE,Option.isSome_some];rw[if_pos (decide_eq_true t)];refine l5 ⟨⟨by grind,by grind⟩,trivial⟩ (l5 ⟨oo,trivial,oo,trivial⟩ (l5 ⟨oo,trivial⟩ ?_));exact u _ ⟨j,by omega,by grind,by grind,by grind,by grind⟩ (by grind)
 ·rw[if_neg (by grind)];exact⟨_,rfl,i,by grind,by grind⟩
def Ia(t:u6):Prop:=t.1.length<=3/\t.2.1.length<=3/\t.2.2.length<=9
theorem QJ{s:l6}{base:Int}(h:Sd s)(h1 : -1000<=base)(h2:base<=1000):∃r,FE s base=some r/\Sd r.2/\Ia r.1:=by
 obtain⟨⟨G,s0⟩,V,t,a0,b0⟩:=w0y (n:=60) h (by omega) (by omega);obtain⟨⟨l,s1⟩,Y,u,a1,b1⟩:=w0y (n:=40) t (by omega) (by omega);simp only at t a0 b0 u a1 b1 V Y;unfold FE;simp only[V,Y,vS,lE,Option.isSome_some];refine l5 ⟨trivial,trivial⟩ (l5 ⟨trivial,trivial⟩ ?_);have W:G.length*l.length<=9:=Nat.mul_le_mul b0 b1;have H:((G.length:Int)*(l.length:Int))=((G.length*l.length:Nat):Int):=by simp
 refine P2 (fun x=>(10-x.1).toNat) (fun x=>Sd x.2.2/\0<=x.1/\x.1<=9/\(x.2.1.length:Int)=x.1/\∀y∈x.2.1,-2000<=y/\y<=2000+40*x.1) ?_ ⟨u,by omega,by omega,by simp,by simp⟩ (by omega);rintro g ⟨i,f,c,aB,aC⟩ ⟨T,i2,i3,i4,i5⟩ ih;simp only at T i2 i3 i4 i5;unfold A0f;dsimp only;refine l5 ⟨oo,trivial⟩ ?_;rw[H];by_cases cm:i < ((G.length*l.length:Nat):Int)
 ·rw[if_pos (decide_eq_true cm)];obtain⟨v,s',e,F,a,b,_⟩:=z7 (n:=10) T (by omega);have b:=b (by omega);simp only[e,vS,lE,Option.isSome_some];refine l5 ⟨trivial,oo,trivial⟩ (l5 ⟨by omega,trivial⟩ ?_);have m:∀j:Nat,-2000<=f.getD j 0/\f.getD j 0<=2000+40*i:=fun j=>by
   rw[gq];cases hj:f[j]? with
   | none=>grind
   | some y=>exact i5 y (List.mem_of_getElem? hj)
  -- the k step
  have k:∀(y:Int) (d:l6),Sd d -> -2000<=y->y<=2040+40*i->∃r,Mw i f g (y,d.1,d.2.1,d.2.2)=some r/\Sd r.2/\Ia r.1:=by
   intro y d o y1 y2;unfold Mw;dsimp only;refine l5 ⟨⟨by grind,by grind⟩,trivial⟩ (l5 ⟨oo,trivial⟩ ?_);refine ih _ ⟨o,by omega,by omega,by grind,fun z hz=>?_⟩ (by omega);rcases List.mem_append.1 hz with hz | hz
   ·grind
   ·grind
  have w:∀(y:Int) (d:l6),Sd d -> -2000<=y->y<=2040+40*i->∃r,Mx i f (l,s1) g (y,d.1,d.2.1,d.2.2)=some r/\Sd r.2/\Ia r.1:=by
   intro y d o y1 y2;unfold Mx;dsimp only;obtain⟨v2,P,Q,q,a3,E,_⟩:=z7 (n:=20) o (by omega);have E:=E (by omega);obtain⟨c2,a2,d2⟩:=d;simp only[Q,vS,lE,Option.isSome_some];by_cases c3:(l.length:Int)<=i
   ·rw[if_pos (decide_eq_true c3)];have:=m (i-(l.length:Int)).toNat;refine l5 ⟨oo,oo,by omega,trivial,oo,trivial⟩ ?_;exact k _ P q (by omega) (by omega)
   ·grind
  by_cases X:0<i.tmod (l.length:Int)
  ·rw[if_pos (decide_eq_true X)];obtain⟨v2,P,Q,q,a3,E,_⟩:=z7 (n:=20) F (by omega);have E:=E (by omega);simp only[Q,vS,Option.isSome_some];have aA:i≠0:=fun h=>by subst h; simp at X
   have:=m (i-1).toNat;refine l5 ⟨oo,oo,by omega,trivial,oo,trivial⟩ ?_;exact w _ P q (by omega) (by omega)
  ·rw[if_neg (by grind)];exact w _ s' F (by omega) (by omega)
 ·rw[if_neg (by grind)];refine⟨_,rfl,T,by omega,by omega,by grind⟩
theorem WW{s:l6}{base:Int}(h:Sd s)(d : -1000<=base)(c:base<=1000):∃r,Dz s base=some r/\Sd r.2/\r.1.length=2/\∀t∈r.1,Ia t:=by
 obtain⟨⟨k,n⟩,e,b,g⟩:=QJ h d c;obtain⟨⟨j,m⟩,f,a,i⟩:=QJ b d c;simp only at b g a i e f;unfold Dz;simp only[e,f,vS,lE,Option.isSome_some];refine l5 ⟨trivial,trivial⟩ (l5 ⟨trivial,trivial⟩ ⟨_,rfl,a,rfl,fun t l=>?_⟩)
 grind
def Kc(a:A8):Prop:=a.2.2.2.2.1.length<=2/\(∀t∈a.2.2.2.2.1,Ia t)/\a.2.2.2.2.2.length<=2/\∀t∈a.2.2.2.2.2,Ia t
theorem Nz{s:l6}{k x y z:Int}(h:Sd s):∃r,K6 s k x y z=some r/\Sd r.2/\Kc r.1:=by
 unfold K6;by_cases c:4<=k
 ·rw[if_pos (decide_eq_true c)];obtain⟨v,u,e,f,a,b,_⟩:=z7 (n:=10) h (by omega);have b:=b (by omega);obtain⟨⟨t,w⟩,i,d,l,j⟩:=WW (base:=5-v) f (by omega) (by omega);simp only at d l j i;simp only[e,i,vS,lE,Option.isSome_some];refine l5 ⟨trivial,oo,trivial,trivial⟩ ⟨_,rfl,d,?_⟩;exact⟨by grind,j,by simp,by simp⟩
 ·rw[if_neg (by grind)];obtain⟨v,u,e,f,a,b,_⟩:=z7 (n:=20) h (by omega);have b:=b (by omega);obtain⟨⟨t,w⟩,i,d,l,j⟩:=WW (base:=5+v) f (by omega) (by omega);obtain⟨⟨F,E⟩,o,g,q,m⟩:=WW (base:=10) d (by omega) (by omega);simp only at d l j i g q m o;simp only[e,i,o,vS,lE,Option.isSome_some];refine l5 ⟨trivial,oo,trivial,trivial⟩ (l5 ⟨trivial,trivial⟩ ⟨_,rfl,g,?_⟩);exact⟨by grind,j,by grind,m⟩
theorem B0A{a:Type}{f:a->Nat}{k:Nat}:∀{xs:List a},(∀x∈xs,f x<=k)->(xs.map f).sum<=xs.length*k
 | [],_=>by simp
 | x :: r,h=>by
   have:=B0A (xs:=r) (fun y b=>h y (by grind))
   grind[List.length_cons,Nat.add_mul]
theorem CQ{e:Ty}{xs:List (j5 e)}{m k:Nat}(a:xs.length<=m)(h:∀x∈xs,cnt e x<=k):cnt (.sl e) xs<=m+m*k:=by
 rw[AQ];have:=B0A h;have:=Nat.mul_le_mul_right k a;omega
theorem x7{a ρ:Type}{x:a}{f:a->Option ρ}{P:ρ->Prop}(h:∃r,f x=some r/\P r):∃r,lt x f=some r/\P r:=h
theorem u0p{t:u6}(h:Ia t):cnt y70 t<=15:=by
 obtain⟨a,b,c⟩:=h
 grind[J1,Ga]
theorem w0D{a:A8}(h:Kc a):cnt y67 a<=64:=by
 obtain⟨f,c,d,g⟩:=h;show cnt (.pr (.int .i64) (.pr (.int .i64) (.pr (.int .i64) (.pr (.int .i64) (.pr (.sl y70) (.sl y70)))))) a<=64;have j:=CQ (e:=y70) f (fun t b=>u0p (c t b));have i:=CQ (e:=y70) d (fun t b=>u0p (g t b))
 grind[J1,Gb]
theorem x0X{c:m5}{m p:Nat}(t:m<=3)(n:p<m)(k:c.2.2.2.2.1.length=2 ^ m):∃r,MA c (p:Int)=some r/\True:=by
 have d:∀m,m<4->∀p,p<m->∀j,j<8->j<2 ^ m->(j &&& 2 ^ p)=0->j+2 ^ p<2 ^ m:=by decide
 have h:((1:Int)*(2:j5 i64) ^ ((p:Int)).toNat)=((2 ^ p:Nat):Int):=by
  show(1:Int)*(2:Int) ^ p=_;simp
 have l:2 ^ p<=4:=(Nat.pow_le_pow_right (by omega) (by omega):2 ^ p<=2 ^ 2);have f:2 ^ m<=8:=(Nat.pow_le_pow_right (by omega) t:2 ^ m<=2 ^ 3);have d:=d m (by omega) p n;generalize 2 ^ p=P at d h l;generalize 2 ^ m=M at d k f;unfold MA;refine l5 ⟨oo,⟨oo,?_⟩,trivial⟩ ?_
 ·have e:((1:Int)*(2:Int) ^ ((p:Int)).toNat)=(P:Int):=h;rw[e];exact oo
 refine P2 (fun x=>(9-x.2.2).toNat) (fun x=>∃j:Nat,x.2.2=(j:Int)/\j<=8) ?_ ⟨0,rfl,by omega⟩ (by grind);rintro g ⟨a,b,i⟩ ⟨j,hi,u⟩ s;simp only at hi;subst hi;unfold A0v;dsimp only;rw[k];by_cases q:(j:Int) < (M:Int)
 ·rw[if_pos (decide_eq_true q)];generalize hBB:((1:Int)*(2:j5 i64) ^ ((p:Int)).toNat)=B;rw[h] at hBB;subst hBB;refine l5 ⟨oo,trivial⟩ ?_;have nx:∀a b,∃r,Mz (j:Int) g (a,b)=some r/\True:=fun a b=>by
   unfold Mz;dsimp only;exact l5 ⟨oo,trivial⟩ (s _ ⟨j+1,by grind,by omega⟩ (by grind))
  by_cases o:(j &&& P)=0
  ·have:=d j (by omega) (by omega) o;rw[if_neg (by simp_all)];refine l5 ⟨fun _=>oo,fun _=>oo,fun _=>oo,trivial⟩ (l5 ⟨fun _=>oo,fun _=>oo,fun _=>oo,trivial⟩ ?_);exact nx _ _
  ·rw[if_pos (by simp_all)];exact nx _ _
 ·rw[if_neg (by grind)];unfold Vh;dsimp only
  repeat' split
  all_goals exact⟨_,rfl,trivial⟩
def NA(c:m5):Prop:=cnt y64 c<=300
theorem y0J:∀k:Nat,(([ByteArray.mk #[97],ByteArray.mk #[98],ByteArray.mk #[99],ByteArray.mk #[100]]:List ByteArray).getD k (b7 Ty.str)).size<=1
 | 0 | 1 | 2 | 3=>by decide
 | n+4=>by
   simp[b7];exact Nat.zero_le _
theorem z0t{s:l6}{nm:ByteArray}{tr:List Int}{k:Nat}{pins:List I3}{v1 o:Int}{s1 s2:l6}(hn:nm.size<=8)(g:k<=3)(ht:tr.length=2 ^ k)(Y:pins.length=k)(i1:Sd s)(i2:∀p∈pins,cnt y233 p<=3):∃r,Qi nm tr (v1,s1) (o,s2) (pins,s.1,s.2.1,s.2.2)=some r/\Sd r.2/\NA r.1:=by
 have aA:2 ^ k<=8:=(Nat.pow_le_pow_right (by omega) g:2 ^ k<=2 ^ 3);unfold Qi;refine l5 ⟨⟨by grind,by grind⟩,trivial⟩ ?_;refine x7 ?_;dsimp only;have u:cnt (.sl y233) (pins++[(ByteArray.mk #[(121:UInt8)],(2:Int),(0:Int),false)])<=4+4*3:=CQ (by grind) (fun p d=>by
  rcases List.mem_append.1 d with d | d
  ·grind
  ·rw[List.mem_singleton.1 d];show cnt (.pr .str (.pr (.int .i64) (.pr (.int .i64) .bool))) _<=3;simp only[J1,Gb,WX,Gc];decide)
 refine P2 (fun x=>(5-x.1).toNat) (fun x=>∃j:Nat,x.1=(j:Int)/\j<=k/\x.2.1.length<=j/\Sd x.2.2/\∀q∈x.2.1,Kc q) ?_ ⟨0,rfl,by omega,by simp,i1,by simp⟩ (by omega);rintro G ⟨i',e,c',aB,aC⟩ ⟨j,v,W,X,i,F⟩ n;simp only at v X i F;subst v;unfold A0K;dsimp only;rw[Y];by_cases c2:(j:Int) < (k:Int)
 ·rw[if_pos (decide_eq_true c2)];obtain⟨w,Q,-⟩:=x0X (c:=(nm,(1:Int),pins++[(ByteArray.mk #[(121:UInt8)],(2:Int),(0:Int),false)],[],tr,v1,o)) g (p:=j) (m:=k) (by omega) ht;rw[Q];refine l5 ⟨rfl,trivial⟩ (x7 ?_);rw[vS];have nx:∀(b:List A8) (f:l6),Sd f->b.length<=j+1->(∀q∈b,Kc q)->∃r,MB (j:Int) G (b,f.1,f.2.1,f.2.2)=some r/\Sd r.2/\NA r.1:=fun b f H T l=>by
   unfold MB;dsimp only;exact l5 ⟨oo,trivial⟩ (n _ ⟨j+1,by omega,by omega,T,H,l⟩ (by omega))
  by_cases P:w != 0
  ·rw[if_pos P];obtain⟨⟨q,V⟩,t,h,E⟩:=Nz (k:=1) (x:=(j:Int)) (y:=(k:Int)) (z:=w) i;simp only at h E t;rw[t];refine l5 ⟨rfl,⟨by grind,by grind⟩,trivial⟩ (x7 (nx _ V h (by grind) fun q' a=>?_));rcases List.mem_append.1 a with a | a
   ·grind
   ·rw[List.mem_singleton.1 a]; exact E
  grind
 ·rw[if_neg (by grind)];unfold Vi;refine⟨_,rfl,i,?_⟩;have ha:cnt (.sl y67) e<=4+4*64:=CQ (by omega) (fun q l=>w0D (F q l));show cnt (.pr .str (.pr (.int .i64) (.pr (.sl y233) (.pr (.sl y67) (.pr (.sl (.int .i64)) (.pr (.int .i64) (.int .i64))))))) _<=300
  grind[J1,Gb,Gc,Ga]
theorem NB{s:l6}{nm:ByteArray}{tr:List Int}{m:Nat}(h:Sd s)(W:nm.size<=8)(H:1<=m/\m<=3)(Y:tr.length=2 ^ m):∃r,C7 s nm tr=some r/\Sd r.2/\NA r.1:=by
 have w:2 ^ m<=8:=(Nat.pow_le_pow_right (by omega) H.2:2 ^ m<=2 ^ 3);obtain⟨v1,s1,e1,u,-,-,-⟩:=z7 (n:=50) h (by omega);obtain⟨v2,s2,V,t,-,-,-⟩:=z7 (n:=80) u (by omega);unfold C7;refine x7 ?_;dsimp only;simp only[e1,V,vS,Option.isSome_some];refine l5 ⟨trivial,trivial,trivial⟩ (x7 ?_);dsimp only;refine P2 (fun x=>(16-x.1).toNat) (fun x=>∃k,k<=m/\x.1=((2 ^ k:Nat):Int)/\x.2.1.length=k/\Sd x.2.2/\∀p∈x.2.1,cnt y233 p<=3) ?_ ⟨0,by omega,rfl,rfl,t,by simp⟩ (by omega);rintro g ⟨i,pins,c,y,E⟩ ⟨k,P,hi,G,z,i2⟩ T;simp only at hi G z i2;unfold A0L;dsimp only;subst hi;rw[Y];have o:2 ^ k<=2 ^ m:=Nat.pow_le_pow_right (by omega) P;have j:0<2 ^ k:=Nat.pos_of_ne_zero (by simp);have f:2 ^ (k+1)=2*2 ^ k:=by rw[Nat.pow_succ]; omega
 have d:k<m->2 ^ (k+1)<=2 ^ m:=fun h=>Nat.pow_le_pow_right (by omega) h;have aA:((2 ^ k:Nat):Int)=((2 ^ k:Nat):Int):=rfl;generalize hK2:2 ^ k=K2 at o j f ⊢;generalize hM2:2 ^ m=M2 at o w d ⊢;by_cases Q:(K2:Int) < (M2:Int)
 ·rw[if_pos (decide_eq_true Q)];have l:k<m:=by
   rcases Nat.lt_or_ge k m with q | q
   ·exact q
   ·grind
  obtain⟨v,s',e,F,a,b,-⟩:=z7 (n:=9) z (by omega);have b:=b (by omega);simp only[e,vS,lE,Option.isSome_some];refine l5 ⟨⟨by omega,by grind⟩,by grind,trivial,oo,⟨by grind,by grind⟩,trivial⟩ (l5 ⟨oo,trivial⟩ ?_);refine T _ ⟨k+1,by omega,by omega,by grind,F,fun p X=>?_⟩ (by omega)
  grind[List.mem_singleton,J1,Gb,WX,Gc,y0J]
 ·rw[if_neg (by grind)];have l:k=m:=by
   rcases Nat.lt_or_ge k m with q | q
   ·omega
   ·omega
  subst l;exact z0t (s:=(c,y,E)) W H.2 (by omega) G z i2
theorem WY{s:l6}{nm:ByteArray}{k e:Int}(h:Sd s)(hn:nm.size<=8):∃r,DA s nm k e=some r/\Sd r.2/\NA (r.1.1,r.1.2.1,r.1.2.2.1,r.1.2.2.2.1,[],r.1.2.2.2.2):=by
 obtain⟨v1,s1,e1,t,-,-,-⟩:=z7 (n:=50) h (by omega);obtain⟨T,s2,e2,l,-,-,-⟩:=z7 (n:=80) t (by omega);obtain⟨P,s3,e3,o,a3,G,-⟩:=z7 (n:=9) l (by omega);obtain⟨W,s4,V,u,a4,w,-⟩:=z7 (n:=9) o (by omega);have G:=G (by omega);have w:=w (by omega);obtain⟨⟨q5,s5⟩,E,d,a5⟩:=Nz (k:=e) (x:=1) (y:=2) (z:=0) u;simp only at d a5 E;obtain⟨⟨X,s6⟩,F,j,a6⟩:=Nz (k:=4) (x:=1) (y:=0) (z:=0) d;simp only at j a6 F;obtain⟨⟨q7,Y⟩,H,b,a7⟩:=Nz (k:=5) (x:=1) (y:=0) (z:=0) j;simp only at b a7 H;obtain⟨⟨q8,s8⟩,e8,i,a8⟩:=Nz (k:=1) (x:=0) (y:=2) (z:=1) b;simp only at i a8 e8;unfold DA;simp only[lE,e1,e2,e3,V,E,F,H,e8,vS,Option.isSome_some];refine l5 ⟨trivial,trivial,trivial⟩ (l5 ⟨trivial,oo,trivial,oo,trivial⟩ (l5 ⟨trivial,trivial,trivial,trivial⟩ ?_));have f:∀(a:List A8) (g:l6),Sd g->a.length<=4->(∀q∈a,Kc q)->∃r,My nm k [(ByteArray.mk #[(100:UInt8)],(1:Int),(1:Int)+P,false),(ByteArray.mk #[(99:UInt8),(107:UInt8)],(1:Int),(1:Int)+W,true),(ByteArray.mk #[(113:UInt8)],(2:Int),(0:Int),false)] (v1,s1) (T,s2) (a,g.1,g.2.1,g.2.2)=some r/\Sd r.2/\NA (r.1.1,r.1.2.1,r.1.2.2.1,r.1.2.2.2.1,[],r.1.2.2.2.2):=fun a g h9 hl m=>by
  unfold My;refine⟨_,rfl,h9,?_⟩;have ha:cnt (.sl y67) a<=4+4*64:=CQ hl (fun q v=>w0D (m q v));show cnt (.pr .str (.pr (.int .i64) (.pr (.sl y233) (.pr (.sl y67) (.pr (.sl (.int .i64)) (.pr (.int .i64) (.int .i64))))))) _<=300;have hp:∀x y:Int,cnt (.sl y233) [(ByteArray.mk #[(100:UInt8)],(1:Int),x,false),(ByteArray.mk #[(99:UInt8),(107:UInt8)],(1:Int),y,true),(ByteArray.mk #[(113:UInt8)],(2:Int),(0:Int),false)]<=10:=fun x y=>by
   rw[AQ];simp only[List.map_cons,List.map_nil,List.sum_cons,List.sum_nil,List.length_cons,List.length_nil];show _+(cnt (.pr .str (.pr (.int .i64) (.pr (.int .i64) .bool))) _+(cnt (.pr .str (.pr (.int .i64) (.pr (.int .i64) .bool))) _+(cnt (.pr .str (.pr (.int .i64) (.pr (.int .i64) .bool))) _+0)))<=10;simp only[J1,Gb,WX,Gc];decide
  grind[J1,Gb,Gc,Ga,List.length_nil]
 have Q:∀q∈[q5,X,q7],Kc q:=fun q m=>by
  grind
 by_cases c:(k==3)=true
 ·rw[if_pos c];refine l5 ⟨trivial,⟨by simp,by simp⟩,trivial⟩ (f _ s8 i (by simp) fun q m=>?_)
  grind
 ·rw[if_neg c];exact f _ Y b (by simp) Q
theorem H0Z{s:l6}(h:Sd s):∃r,MC s=some r/\Sd r.2/\cnt (.sl y64) r.1<=2408:=by
 obtain⟨⟨c1,s1⟩,P,n,f⟩:=NB (nm:=ByteArray.mk #[105,110,118]) (tr:=[1,0]) (m:=1) h (by decide) (by decide) rfl;simp only at n f P;obtain⟨⟨c2,s2⟩,z,G,y⟩:=NB (nm:=ByteArray.mk #[98,117,102]) (tr:=[0,1]) (m:=1) n (by decide) (by decide) rfl;simp only at G y z;obtain⟨⟨T,s3⟩,E,d,u⟩:=NB (nm:=ByteArray.mk #[110,97,110,100]) (tr:=[1,1,1,0]) (m:=2) G (by decide) (by decide) rfl;simp only at d u E;obtain⟨⟨c4,s4⟩,g,Q,b⟩:=NB (nm:=ByteArray.mk #[120,111,114]) (tr:=[0,1,1,0]) (m:=2) d (by decide) (by decide) rfl;simp only at Q b g;obtain⟨⟨c5,X⟩,t,a,i⟩:=NB (nm:=ByteArray.mk #[109,117,120]) (tr:=[0,1,0,1,0,0,1,1]) (m:=3) Q (by decide) (by decide) rfl;simp only at a i t;obtain⟨⟨V,s6⟩,w,o,v⟩:=WY (nm:=ByteArray.mk #[102,108,111,112]) (k:=2) (e:=2) a (by decide);simp only at o v w;obtain⟨⟨c7,Y⟩,H,l,x⟩:=WY (nm:=ByteArray.mk #[102,108,111,112,110]) (k:=2) (e:=3) o (by decide);simp only at l x H;obtain⟨⟨W,s8⟩,e8,j,q⟩:=WY (nm:=ByteArray.mk #[108,97,116,99,104]) (k:=3) (e:=2) l (by decide);simp only at j q e8;unfold MC;simp only[lE,P,z,E,g,t,w,H,e8,vS,Option.isSome_some];refine l5 ⟨trivial,trivial,trivial⟩ (l5 ⟨trivial,trivial,trivial⟩ (l5 ⟨trivial,trivial,trivial⟩ (l5 ⟨trivial,trivial,trivial⟩ (l5 ⟨trivial,trivial,trivial⟩ (l5 ⟨trivial,trivial⟩ (l5 ⟨trivial,trivial⟩ (l5 ⟨trivial,trivial⟩ ⟨_,rfl,j,?_⟩)))))));refine Nat.le_trans (CQ (m:=8) (k:=300) (by simp) fun c F=>?_) (by decide);simp only[List.mem_cons,List.not_mem_nil,or_false] at F;rcases F with rfl | rfl | rfl | rfl | rfl | rfl | rfl | rfl
 ·exact f
 ·exact y
 ·exact u
 ·exact b
 ·exact i
 ·exact v
 ·exact x
 ·exact q
theorem O1{e:Option Unit}(h:∃r,e=some r/\True):e=some ():=by
 obtain⟨_,h,_⟩:=h;exact h
theorem Cd{s:l6}(a:wf m4 s)(h:sd s):Sd s:=⟨h,a.1.1,fun b c=>a.1.2 b c⟩
theorem v0h:∀(m:Nat) (n:Int),0<=n->n<10 ^ m->1<=m/\m<=40->∃r,Jv m n=some r/\r.size<=m
 | 0,n,h0,h1,b=>by omega
 | m+1,n,h0,h1,hm=>by
   show ∃r,Qo (Jv m) n=some r/\r.size<=m+1;unfold Qo;rw[if_neg (by simp; omega)];have b:0<=n.tmod 10/\n.tmod 10<10:=⟨Int.tmod_nonneg _ h0,Int.tmod_lt_of_pos _ (by omega)⟩;by_cases c:n<10
   ·rw[if_pos (decide_eq_true c)];refine l5 ⟨oo,trivial,by simp,trivial⟩ ⟨_,rfl,?_⟩;rw[strOfNums_size];simp
   ·rw[if_neg (by simpa using c)];have d:n.tdiv 10<10 ^ m:=by
     rw[Int.tdiv_eq_ediv_of_nonneg h0];have:(10:Int) ^ (m+1)=10*10 ^ m:=by rw[Int.pow_succ]; omega
     omega
    have a:1<=m:=by
     rcases Nat.eq_zero_or_pos m with h | h
     ·subst h; simp at h1; omega
     ·exact h
    obtain⟨r,e,f⟩:=v0h m (n.tdiv 10) (Int.tdiv_nonneg h0 (by omega)) d (by omega);rw[e];refine l5 ⟨by omega,rfl,by omega,oo,trivial,by simp,?_,trivial⟩ (x7 ⟨_,rfl,?_⟩)
    ·rw[vS,strOfNums_size]; simp; omega
    ·rw[vS,ByteArray.size_append,strOfNums_size]; simp; omega
theorem B0O{n:Int}(a:0<=n)(b:n<1000):∃r,CG n=some r/\r.size<=25 :=
 v0h 25 n a (by have:(1000:Int)<10 ^ 25:=by decide
                omega) (by omega)
theorem WZ{xs:List Int}(h:xs.length<=1000):J8 xs=some xs:=by
 unfold J8;rw[gP ⟨oo,trivial⟩];rfl
def Xa(d:r8):Prop:=(d.1.length<=6/\∀i∈d.1,i.2.2.length<=4)/\d.2.2.length<=5
theorem E0q{d:r8}(h:Xa d):∃r,I6 d=some r/\r.length<=29:=by
 obtain⟨⟨v,q⟩,u⟩:=h;unfold I6;refine P2 (fun x=>(7-x.1).toNat) (fun x=>0<=x.1/\x.1<=6/\(x.2.length:Int)<=4*x.1) ?_ ⟨by simp only; omega,by simp only; omega,by simp⟩ (by simp only; omega);rintro g ⟨i,n⟩ ⟨m,i2,i3⟩ t;simp only at m i2 i3;unfold TL;dsimp only;by_cases c:i < (d.1.length:Int)
 ·rw[if_pos (decide_eq_true c)];refine l5 ⟨⟨m,c⟩,trivial⟩ (x7 ?_);have j:i.toNat<d.1.length:=by omega
  have s:(d.1.getD i.toNat (b7 y139)).2.2.length<=4:=by
   rw[gq,List.getElem?_eq_getElem j];exact q _ (List.getElem_mem j)
  generalize d.1.getD i.toNat (b7 y139)=x at s;refine P2 (fun x=>(5-x.1).toNat) (fun y=>0<=y.1/\y.1<=4/\(y.2.length:Int)<=4*i+y.1) ?_ ⟨by simp only; omega,by simp only; omega,by simp only; omega⟩ (by simp only; omega);rintro o ⟨k,f⟩ ⟨e,l,k3⟩ b;simp only at e l k3;unfold TK;dsimp only;by_cases a:k < (x.2.2.length:Int)
  ·rw[if_pos (decide_eq_true a)];refine l5 ⟨⟨e,a⟩,oo,⟨by simp; omega,by simp; omega⟩,trivial⟩ (x7 ?_);dsimp only;exact l5 ⟨oo,trivial⟩ (b _ ⟨by simp only; omega,by simp only; omega,by simp; omega⟩ (by simp only; omega))
  ·rw[if_neg (by simpa using a)];unfold OU;exact l5 ⟨oo,trivial⟩ (t _ ⟨by simp only; omega,by simp only; omega,by simp only; omega⟩ (by simp only; omega))
 ·rw[if_neg (by simpa using c)];unfold IQ;refine P2 (fun x=>(6-x.1).toNat) (fun y=>0<=y.1/\y.1<=5/\(y.2.length:Int)<=24+y.1) ?_ ⟨by simp only; omega,by simp only; omega,by simp only; omega⟩ (by simp only; omega);rintro o ⟨k,f⟩ ⟨e,l,k3⟩ b;simp only at e l k3;unfold TJ;dsimp only;by_cases a:k < (d.2.2.length:Int)
  ·rw[if_pos (decide_eq_true a)];refine l5 ⟨⟨e,a⟩,⟨e,a⟩,⟨by simp; omega,by simp; omega⟩,trivial⟩ (x7 ?_);dsimp only;exact l5 ⟨oo,trivial⟩ (b _ ⟨by simp only; omega,by simp only; omega,by simp; omega⟩ (by simp only; omega))
  ·rw[if_neg (by simpa using a)];exact⟨_,rfl,by omega⟩
theorem H0z{d:r8}{t:Int}(h:Xa d):∃r,U4 d t=some r/\r.length<=29:=by
 obtain⟨p,e,l⟩:=E0q h;unfold U4;rw[e];refine l5 ⟨rfl,trivial⟩ (x7 ?_);rw[vS];refine P2 (fun x=>(30-x.1).toNat) (fun x=>0<=x.1/\x.1<=29/\(x.2.length:Int)<=x.1) ?_ ⟨by simp only; omega,by simp only; omega,by simp⟩ (by simp only; omega);rintro g ⟨i,f⟩ ⟨a,i2,i3⟩ j;simp only at a i2 i3;unfold TM;dsimp only;by_cases c:i < (p.length:Int)
 ·rw[if_pos (decide_eq_true c)];refine l5 ⟨⟨a,c⟩,by omega,fun _=>⟨a,c⟩,fun _=>by omega,trivial⟩ ?_;have nx:∀b:List Int,(b.length:Int)<=i+1->∃r,IS i g b=some r/\r.length<=29:=fun b k=>by
   unfold IS;exact l5 ⟨oo,trivial⟩ (j _ ⟨by simp only; omega,by simp only; omega,k⟩ (by simp only; omega))
  split
  ·exact l5 ⟨⟨by simp; omega,by simp; omega⟩,trivial⟩ (nx _ (by simp; omega))
  ·exact nx _ (by omega)
 ·rw[if_neg (by simpa using c)];exact⟨_,rfl,by omega⟩
section
variable [Alw]
theorem C0h{s:l6}{n:Int}(h:Sd s)(h0:0<=n)(h1:n<=40):Qw s n=some ():=by
 refine O1 ?_;obtain⟨r,s0,y,d,a0,b0,-⟩:=z7 (n:=6) h (by omega);obtain⟨v1,s1,e1,f,a1,w,-⟩:=z7 (n:=4) d (by omega);have w:=w (by omega);have H:MD n r=some ([-1],[0],[r],List.replicate n.toNat 0):=by
  unfold MD;rw[gP ⟨⟨h0,rfl,by omega,by omega⟩,trivial⟩]
 unfold Qw;simp only[y,H,vS,Option.isSome_some];refine l5 ⟨trivial,trivial,trivial⟩ (x7 ?_);dsimp only;simp only[e1,vS,Option.isSome_some];refine l5 ⟨trivial,trivial⟩ (x7 ?_);refine P2 (fun x=>x.1.toNat) (fun x=>Sd (x.2.1,x.2.2.1,x.2.2.2.1)/\0<=x.1/\(1<=x.2.2.2.2.1.length/\(x.2.2.2.2.1.length:Int)+x.1<=4)/\(1<=x.2.2.2.2.2.1.length/\(x.2.2.2.2.2.1.length:Int)+x.1<=4)/\1<=x.2.2.2.2.2.2.length/\(x.2.2.2.2.2.2.length:Int)+x.1<=4) ?_ ⟨f,by simp only; omega,⟨by simp,by simp; omega⟩,⟨by simp,by simp; omega⟩,by simp,by simp; omega⟩ (by simp only; omega);rintro g ⟨m,c,V,Y,P,R,C⟩ ⟨k,i2,⟨i3,i4⟩,⟨i5,i6⟩,i7,i8⟩ F;simp only at k i2 i3 i4 i5 i6 i7 i8;unfold B0t;dsimp only;by_cases u:0<m
 ·rw[if_pos (decide_eq_true u)];obtain⟨v2,s2,Q,a,-,-,-⟩:=z7 (n:=(P.length:Int)) k (by omega);obtain⟨v3,s3,T,e,-,-,-⟩:=z7 (n:=400) a (by omega);obtain⟨v4,s4,z,o,-,-,-⟩:=z7 (n:=8) e (by omega);rw[WZ (xs:=P) (by omega),WZ (xs:=R) (by omega),WZ (xs:=C) (by omega)];simp only[Q,T,z,vS,Option.isSome_some];refine l5 ⟨trivial,trivial,⟨by simp; omega,by simp; omega⟩,trivial,trivial,⟨by simp; omega,by simp; omega⟩,trivial,trivial,⟨by simp; omega,by simp; omega⟩,trivial⟩ (x7 ?_);dsimp only;exact l5 ⟨oo,trivial⟩ (F _ ⟨o,by simp only; omega,⟨by simp,by simp; omega⟩,⟨by simp,by simp; omega⟩,by simp,by simp; omega⟩ (by simp only; omega))
 ·rw[if_neg (by simpa using u)];unfold Vv;refine P2 (fun x=>(41-x.1).toNat) (fun x=>Sd (x.2.1,x.2.2.1,x.2.2.2.1)/\0<=x.1/\x.1<=40/\x.2.2.2.2.length=n.toNat) ?_ ⟨k,by simp only; omega,by simp only; omega,by simp⟩ (by simp only; omega);rintro g2 ⟨i,c',W,X,E⟩ ⟨j,t,k3,v⟩ q;simp only at j t k3 v;unfold B0s;dsimp only;by_cases l:i < (E.length:Int)
  ·rw[if_pos (decide_eq_true l)];obtain⟨v5,s5,G,b,-,-,-⟩:=z7 (n:=(P.length:Int)) j (by omega);simp only[G,vS,Option.isSome_some];refine l5 ⟨trivial,⟨t,l⟩,by omega,trivial⟩ (x7 ?_);exact l5 ⟨oo,trivial⟩ (q _ ⟨b,by simp only; omega,by simp only; omega,by simp[v]⟩ (by simp only; omega))
  ·rw[if_neg (by simpa using l)];unfold Vu;refine l5 ⟨j.1,i3,i5,i7,?_⟩ ⟨_,rfl,trivial⟩;show cnt (.pr (.sl (.int .i64)) (.pr (.sl (.int .i64)) (.pr (.sl (.int .i64)) (.sl (.int .i64))))) _<=60;simp only[J1,Ga];omega
end
theorem r0r{e:Ty}(a:∀x y,w8 e x y->cnt e y=cnt e x):∀{xs ys:List (j5 e)},AllS (w8 e) xs ys->(ys.map (cnt e)).sum=(xs.map (cnt e)).sum
 | [],_,h=>by rw[show _=[] from h]
 | x :: r,_,⟨y,r',e1,h1,h2⟩=>by
   subst e1;simp only[List.map_cons,List.sum_cons];rw[a x y h1,r0r a h2]
theorem Ib:∀(t:Ty) (x y:j5 t),w8 t x y->cnt t y=cnt t x
 | .int _,_,_,_=>by grind[cnt]
 | .bool,_,_,h=>by rw[show _=_ from h]
 | .str,_,_,h=>by rw[show _=_ from h]
 | .sl e,x,y,h=>by
   rw[AQ,AQ,AllS.len h,r0r (Ib e) h]
 | .pt e,x,y,h=>by
   show cnt e y=cnt e x;exact Ib e x y h
 | .pr a b,x,y,h=>by
   rw[J1,J1,Ib a x.1 y.1 h.1,Ib b x.2 y.2 h.2]
theorem Al[Alw]{a:Type}{p:a->Prop}{f:a->Option Unit}(h:∀z,p z->f z=some ()):∃r,Alw.alp p f=some r/\True:=⟨(),Alw.alp_u h,trivial⟩
theorem E0B:∀j:Nat,0<=([(0:Int),1,2,2,3,4,5,5,5,6,7,1]).getD j 0/\([(0:Int),1,2,2,3,4,5,5,5,6,7,1]).getD j 0<=7
 | 0 | 1 | 2 | 3 | 4 | 5 | 6 | 7 | 8 | 9 | 10 | 11=>by decide
 | n+12=>by simp
theorem H0N:∀j:Nat,j<8->2<=([(2:Int),2,3,3,4,3,3,3]).getD j 0/\([(2:Int),2,3,3,4,3,3,3]).getD j 0<=4
 | 0,_ | 1,_ | 2,_ | 3,_ | 4,_ | 5,_ | 6,_ | 7,_=>by decide
 | n+8,h=>by omega
def Bw(x:o4):Prop:=1<=x.2.2.length/\x.2.2.length<=4/\x.1.size<=26
theorem D0Y{x:o4}(h:Bw x):cnt y139 x<=30:=by
 obtain⟨a,b,c⟩:=h
 grind[J1,Gc,Gb,Ga]
theorem D0X{x y:o4}(h:w8 y139 x y)(c:Bw x):Bw y:=by
 obtain⟨b,d,a⟩:=h;obtain⟨e,f,k3⟩:=c;have a:y.2.2.length=x.2.2.length:=AllS.len a;have b:y.1=x.1:=b;exact⟨by omega,by omega,by grind⟩
section
variable [Alw]
abbrev Rj:List s7:=[(ByteArray.mk #[(99:UInt8),(107:UInt8)],(1:Int),(0:Int)),(ByteArray.mk #[(97:UInt8)],(1:Int),(1:Int)),(ByteArray.mk #[(98:UInt8)],(1:Int),(2:Int))]
theorem n0z{c:List o4}{b:List ByteArray}{a:List s7}{s:l6}(h:Sd s)(j:c.length<=6)(g:∀x∈c,Bw x)(l:3<=b.length/\b.length<=9)(t:∀x∈b,x.size<=26)(f:1<=a.length/\a.length<=5)(n:∀p∈a,p.1.size<=2) :
  ∃r,MJ c b (a,s.1,s.2.1,s.2.2)=some r/\True:=by
 unfold MJ;refine l5 ⟨h.1,⟨j,fun i hi=>(g i hi).2.1⟩,⟨by grind,by grind⟩,f,?_⟩ ⟨_,rfl,trivial⟩;have q:=CQ (e:=y139) j (fun x d=>D0Y (g x d));have m:=CQ (e:=.str) l.2 (fun x d=>(by grind[Gc]:cnt .str x<=26));have o:=CQ (e:=y202) f.2 (k:=2) (fun x d=>by
  grind[J1,Gc,Gb])
 grind[J1]
theorem z0H{f a b:List o4}{c G:List ByteArray}{t:List s7}{s:l6}(h:Sd s)(l:f.length<=6)(o:∀x∈f,Bw x)(k:3<=c.length/\c.length<=9)(q:∀x∈c,x.size<=26) :
  ∃r,Qx c Rj (s.1,s.2.1,s.2.2,f,a,b,G,t)=some r/\True:=by
 unfold Qx;refine l5 ⟨⟨by simp,by simp⟩,trivial⟩ (l5 ⟨oo,⟨by simp,by simp⟩,trivial⟩ (x7 ?_));dsimp only;obtain⟨v,y,e,g,-,-,-⟩:=z7 (n:=2) h (by omega);obtain⟨w,E,u,j,H,m,-⟩:=z7 (n:=(c.length:Int)-1) g (by omega);have m:=m (by omega);obtain⟨P,z,F⟩:=s;simp only[e,vS,Option.isSome_some];refine l5 ⟨trivial,trivial⟩ (x7 ?_);dsimp only;have i:∀p∈([]++Rj++[(ByteArray.mk #[(121:UInt8)],(2:Int),(c.length:Int)-1)]:List s7),p.1.size<=2:=fun p i=>by
  simp only[Rj,List.nil_append,List.cons_append,List.mem_cons,List.not_mem_nil,or_false] at i;rcases i with rfl | rfl | rfl | rfl
  ·decide
  ·decide
  ·decide
  ·exact(by decide:(ByteArray.mk #[(121:UInt8)]).size<=2)
 split
 ·simp only[u,vS,Option.isSome_some];refine l5 ⟨oo,trivial,oo,⟨by simp,by simp⟩,trivial⟩ (x7 ?_);dsimp only;refine n0z (s:=E) j l o k q (by simp) (fun p d=>?_);rcases List.mem_append.1 d with d | d
  ·grind
  ·rw[List.mem_singleton.1 d];exact(by decide:(ByteArray.mk #[(122:UInt8)]).size<=2)
 ·exact n0z (s:=y) g l o k q (by simp) i
theorem z0I{t a b:List o4}{d n2:List ByteArray}{p2:List s7}{s:l6}{F:Bool}(h:Sd s)(h1:t.length<=6)(h2:∀x∈t,Bw x)(h3:3<=d.length/\d.length<=9)(h4:∀x∈d,x.size<=26) :
  ∃r,Qy F Rj (s.1,s.2.1,s.2.2,d,t,a,b,n2,p2)=some r/\True:=by
 unfold Qy;refine P2 (fun x=>(7-x.1).toNat) (fun x=>Sd (x.2.1,x.2.2.1,x.2.2.2.1)/\0<=x.1/\x.1<=6/\x.2.2.2.2.1.length<=6/\∀y∈x.2.2.2.2.1,Bw y) ?_ ⟨h,by omega,by omega,h1,h2⟩ (by omega);rintro g ⟨i,c,V,X,f,a2,b2,n3,p3⟩ ⟨W,i2,i3,i4,i5⟩ ih;simp only at W i2 i3 i4 i5;unfold B0u;dsimp only;by_cases Q:i < (f.length:Int)
 ·rw[if_pos (decide_eq_true Q)];obtain⟨v,s1,e,G,-,-,-⟩:=z7 (n:=4) W (by omega);obtain⟨w,s2,e2,o,wa,wb,-⟩:=z7 (n:=(d.length:Int)-1) G (by omega);have wb:=wb (by omega);have j:i.toNat<f.length:=by omega
  simp only[e,vS,Option.isSome_some];refine l5 ⟨trivial,fun _=>⟨i2,Q⟩,fun _=>j,fun _=>⟨i2,Q⟩,fun _=>j,trivial⟩ (x7 ?_);dsimp only;have nx:∀(H:l6) (k a3 b3:List o4) (n4:List ByteArray) (p4:List s7),Sd H->k.length<=6->(∀y∈k,Bw y)->∃r,MK i g (H.1,H.2.1,H.2.2,k,a3,b3,n4,p4)=some r/\True:=fun H k a3 b3 n4 p4 q1 q2 q3=>by
   unfold MK;exact l5 ⟨oo,trivial⟩ (ih _ ⟨q1,by omega,by omega,q2,q3⟩ (by omega))
  split
  ·simp only[e2,vS,Option.isSome_some];have aA:Bw (f.getD i.toNat (b7 y139)):=by
    rw[gq,List.getElem?_eq_getElem j];exact i5 _ (List.getElem_mem j)
   have:=aA.1;refine l5 ⟨⟨i2,Q⟩,j,oo,trivial,oo,oo,trivial⟩ (Al ?_);rintro⟨aC,aB,m,aD,l,u,E,z,P⟩ ⟨-,-,k3,-,k5,-⟩;dsimp only;refine O1 (l5 trivial ?_);have hw:wf (.sl (.int .u8)) m:=k3.2 ⟨o.2.1,fun b T=>o.2.2 b T⟩;have hl:l.length=f.length:=AllS.len k5;refine nx (m,s2.2.1,s2.2.2) l u E z P ⟨o.1,hw.1,fun b T=>hw.2 b T⟩ (by omega) ?_;exact AllS.all (p:=Bw) (q:=Bw) (fun x y Y hx=>D0X Y hx) k5 i5
  ·exact nx s1 f a2 b2 n3 p3 G i4 i5
 ·rw[if_neg (by grind)];exact z0H (s:=(c,V,X)) W i4 i5 h3 h4
theorem I0l{s:l6}{a:Int}{i:Bool}(h:Sd s)(h0:2<=a)(h1:a<=6):Qz s a i=some ():=by
 refine O1 ?_;unfold Qz;refine x7 ?_;refine x7 ?_;obtain⟨v,s0,e0,l,a0,b0,-⟩:=z7 (n:=a-1) h (by omega);have b0:=b0 (by omega);simp only[e0,vS,Option.isSome_some];refine l5 ⟨⟨by simp,by simp⟩,trivial⟩ (l5 ⟨oo,trivial,oo,trivial⟩ (x7 ?_));refine P2 (fun x=>x.1.toNat) (fun x=>Sd (x.2.1,x.2.2.1,x.2.2.2.1)/\0<=x.1/\(x.2.2.2.2.2.1.length:Int)+x.1<=6/\3<=x.2.2.2.2.1.length/\(x.2.2.2.2.1.length:Int)+x.1<=9/\(∀y∈x.2.2.2.2.2.1,Bw y)/\∀y∈x.2.2.2.2.1,y.size<=26) ?_
  ⟨l,by omega,by grind,by simp,by grind,by simp,by
    intro y f;simp only[List.nil_append,List.mem_cons,List.not_mem_nil,or_false] at f;rcases f with rfl | rfl | rfl <;> decide⟩ (by omega)
 rintro g ⟨m,c,u,z,e,E,a1,a2,a3,a4⟩ ⟨w,i2,i3,i4,i5,i6,i7⟩ ih;simp only at w i2 i3 i4 i5 i6 i7;unfold B0w;dsimp only;by_cases cm:0<m
 ·rw[if_pos (decide_eq_true cm)];obtain⟨X,s1,e1,q,q1,H,-⟩:=z7 (n:=12) w (by omega);have H:=H (by omega);simp only[e1,vS,Option.isSome_some];refine l5 ⟨trivial,oo,by simp; omega,trivial⟩ (x7 ?_);dsimp only;have hc:=E0B X.toNat;generalize ([(0:Int),1,2,2,3,4,5,5,5,6,7,1]).getD X.toNat 0=cell at hc ⊢;obtain⟨nm,e2,aD⟩:=B0O (n:=(E.length:Int)) (by omega) (by omega);obtain⟨aF,e3,aA⟩:=B0O (n:=(e.length:Int)) (by omega) (by omega);rw[e2]
  refine l5 ⟨rfl,by rw[vS]; have:(ByteArray.mk #[117]).size=1:=rfl
                    omega,trivial⟩ (x7 ?_)
  rw[vS];have aG:=H0N cell.toNat (by omega);refine P2 (fun x=>(5-x.1).toNat) (fun x=>Sd (x.2.2.1,x.2.2.2.1,x.2.2.2.2)/\0<=x.1/\x.1<=3/\(x.2.1.length:Int)=x.1) ?_ ⟨q,by omega,by omega,by simp⟩ (by omega);rintro G ⟨k,W,c2,aB,aC⟩ ⟨t,k2,k3,k4⟩ F;simp only at t k2 k3 k4;unfold B0v;dsimp only;refine l5 ⟨⟨by omega,by grind⟩,by grind,oo,trivial⟩ ?_;by_cases ck:k < ([(2:Int),2,3,3,4,3,3,3]).getD cell.toNat 0-1
  ·rw[if_pos (decide_eq_true ck)];obtain⟨v3,s3,e4,o,w1,Q,-⟩:=z7 (n:=(e.length:Int)-1) t (by omega);have Q:=Q (by omega);obtain⟨v4,P,e5,j,-,-,-⟩:=z7 (n:=3) o (by omega);simp only[e4,vS,Option.isSome_some];refine l5 ⟨oo,trivial,oo,trivial⟩ (x7 ?_);dsimp only;simp only[e5,vS,Option.isSome_some];refine l5 ⟨trivial,trivial⟩ (x7 ?_);dsimp only;have Y:∀(x:Int) (b:l6),Sd b->∃r,ML k W b.1 b.2.1 b.2.2 G x=some r/\True:=fun x b d=>by
    unfold ML;exact l5 ⟨oo,⟨by grind,by grind⟩,trivial⟩ (l5 ⟨oo,trivial⟩ (F _ ⟨d,by omega,by omega,by grind⟩ (by omega)))
   have T:∀(x:Int) (b:l6),Sd b->∃r,MM k W cell G (b.1,b.2.1,b.2.2,x)=some r/\True:=fun x b d=>by
    unfold MM;dsimp only;split
    ·exact Y _ b d
    ·exact Y _ b d
   split
   ·exact l5 ⟨oo,trivial⟩ (T _ P j)
   ·exact T _ P j
  ·rw[if_neg (by grind)];unfold Vz;dsimp only;refine l5 ⟨oo,⟨by grind,by grind⟩,trivial⟩ ?_;rw[e3];have hu:(ByteArray.mk #[110]).size=1:=rfl;refine l5 ⟨rfl,by grind[vS],⟨by grind,by grind⟩,trivial⟩ (x7 ?_);rw[vS];refine l5 ⟨⟨by grind,by grind⟩,trivial⟩ (x7 ?_);dsimp only;unfold Vy;dsimp only;refine l5 ⟨oo,trivial⟩ (ih _ ⟨t,by omega,by grind,by grind,by grind,fun y f=>?_,fun y f=>?_⟩ (by omega))
   ·rcases List.mem_append.1 f with f | f
    ·grind
    ·rw[List.mem_singleton.1 f];exact⟨by simp,by grind,by
      have V:(ByteArray.mk #[117]).size=1:=rfl;rw[ByteArray.size_append]; omega⟩
   grind
 ·rw[if_neg (by grind)];exact z0I (s:=(c,u,z)) w (by omega) i6 ⟨i4,by omega⟩ i7
end
theorem N0t{s:l6}{k:Int}(h:sd s)(a:0<=k)(b:k<=40):MI (s,k,()):=⟨h,a,b⟩
theorem Rl{s:l6}{k:Int}{b:Bool}(h:sd s)(a:2<=k)(e:k<=6):FI (s,k,b,()):=⟨h,a,e⟩
theorem u0q{a:Type}{f:a->Nat}{y d:a}:∀{xs:List a} {i:Nat},i<xs.length->((xs.set i y).map f).sum+f (xs.getD i d)=(xs.map f).sum+f y
 | x :: r,0,_=>by grind
 | x :: r,i+1,h=>by
   have:=u0q (f:=f) (y:=y) (d:=d) (xs:=r) (i:=i) (by grind);simp only[List.set_cons_succ,List.map_cons,List.sum_cons,List.getD_cons_succ];omega
theorem E0r{d a:r8}(b:w8 (.sl y139) d.1 a.1)(e:w8 (.sl .str) d.2.1 a.2.1)(c:w8 (.sl y202) d.2.2 a.2.2):cnt y31 a=cnt y31 d :=
 Ib (.pr (.sl y139) (.pr (.sl .str) (.sl y202))) d a ⟨b,e,c⟩
theorem E0h{c:List Int}(d:wf (.sl (.int .u8)) c):∃s,Mj c=some s/\Sd s:=by
 unfold Mj;refine P2 (fun x=>(65-x.1).toNat) (fun x=>0<=x.1/\x.1<=64/\0<=x.2/\x.2<2147483647) ?_ ⟨by omega,by omega,by omega,by omega⟩ (by omega);rintro g ⟨i,x⟩ ⟨e,i2,i3,i4⟩ j;simp only at e i2 i3 i4;unfold G0Q;dsimp only;split
 ·rename_i h;simp only[ba,dq] at h;have a:i.toNat<c.length:=by omega
  have f:0<=c.getD i.toNat 0/\c.getD i.toNat 0<=255:=by
   rw[gq,List.getElem?_eq_getElem a];exact d.2 _ (List.getElem_mem a)
  refine l5 ⟨oo,⟨e,h.1⟩,trivial,oo,by omega,trivial⟩ (l5 ⟨oo,trivial⟩ ?_);exact j _ ⟨by omega,by omega,Int.tmod_nonneg _ (by omega),Int.tmod_lt_of_pos _ (by omega)⟩ (by omega)
 ·exact⟨_,rfl,⟨⟨by grind,i3,i4⟩,d.1,fun b f=>d.2 b f⟩⟩
section
variable [Alw]
def M0G(w:x9):Prop:=(1<=w.1.length/\1<=w.2.1.length/\1<=w.2.2.1.length)/\cnt l7 w<=60
theorem I0x{s:l6}{a:Int}{j:Bool}(h:Sd s)(h0:2<=a)(P:a<=6):QA s a j=some ():=by
 refine O1 ?_;obtain⟨⟨l,s0⟩,r,f,G⟩:=H0Z h;simp only at f G r;unfold QA;simp only[r,vS,Option.isSome_some];refine l5 ⟨trivial,trivial⟩ (x7 ?_);refine l5 ⟨trivial,f.1,h0,P⟩ (Al ?_);rintro⟨d,s1⟩ ⟨⟨X,⟨V,t3⟩,⟨v,H⟩,⟨u,t7⟩,E⟩,-,hz⟩;have n:Sd s1:=Cd hz X;have Y:Xa d:=⟨⟨V,t3⟩,t7⟩;refine O1 (l5 trivial ?_);refine P2 (fun x=>(21-x.1).toNat) (fun x=>Sd (x.2.2.1,x.2.2.2.1,x.2.2.2.2)/\0<=x.1/\x.1<=20/\(x.2.1.length:Int)=x.1/\∀w∈x.2.1,M0G w) ?_ ⟨n,by omega,by omega,by simp,by simp⟩ (by omega);rintro g ⟨i,Q,c,aA,aB⟩ ⟨q,i2,i3,i4,i5⟩ W;simp only at q i2 i3 i4 i5 v H u E;unfold G0n;dsimp only;by_cases F:i < (d.2.1.length:Int)
 ·rw[if_pos (decide_eq_true F)];obtain⟨k,e1,hk⟩:=H0z (t:=i) Y;simp only[e1,vS,Option.isSome_some];refine l5 ⟨⟨trivial,trivial⟩,N0t q.1 (by omega) (by omega)⟩ (Al ?_);rintro⟨w,s2⟩ ⟨⟨y,T,w3,z,w5⟩,-,o⟩;refine O1 (l5 ⟨⟨by grind,by grind⟩,trivial⟩ (l5 ⟨oo,trivial⟩ (x7 ?_)));refine W _ ⟨Cd o y,by omega,by omega,by grind,fun x b=>?_⟩ (by omega);rcases List.mem_append.1 b with b | b
  ·grind
  ·rw[List.mem_singleton.1 b];exact⟨⟨T,w3,z⟩,w5⟩
 ·rw[if_neg (by grind)];unfold VB;have hw:=CQ (e:=l7) (m:=20) (k:=60) (xs:=Q) (by omega) (fun x b=>(i5 x b).2);refine l5 ⟨q.1,by grind,fun x b=>(i5 x b).1,u,?_⟩ ⟨_,rfl,trivial⟩
  grind[J1]
theorem Rm{s:l6}{a:List x9}{d:r8}{l:List m5}(h:Sd s)(b:cnt (.sl y64) l+(cnt y31 d+cnt (.sl l7) a)<=20000) :
  ∃r,BV (s.1,s.2.1,s.2.2,a,d.1,d.2.1,d.2.2,l)=some r/\True:=by
 unfold BV;refine l5 ⟨h.1,?_⟩ ⟨_,rfl,trivial⟩
 grind[J1]
theorem I0E{s:l6}(h:Sd s):QC s=some ():=by
 refine O1 ?_;obtain⟨v,s0,e0,aK,-,-,-⟩:=z7 (n:=3) h (by omega);unfold QC;simp only[e0,vS,Option.isSome_some];refine l5 ⟨⟨trivial,trivial⟩,Rl aK.1 (by omega) (by omega)⟩ (Al ?_);rintro⟨⟨l,d,c⟩,s1⟩ ⟨⟨t1,t2,t3,t4,t5⟩,-,hz⟩;have aO:Sd s1:=Cd hz t1;simp only at t2 t3 t4 t5;refine O1 (l5 trivial ?_);have bC:c.length<=9223372036854775807:=by
  have G:cnt (.pr (.sl y64) (.pr y31 (.sl l7))) (l,d,c)<=10000:=t5;rw[J1,J1,AQ (e:=l7)] at G;simp only at G;omega
 have hc:cnt (.sl y64) l+(cnt y31 d+cnt (.sl l7) c)<=10000:=by
  have G:cnt (.pr (.sl y64) (.pr y31 (.sl l7))) (l,d,c)<=10000:=t5;rw[J1,J1] at G;exact G
 obtain⟨k,s2,e2,aY,V,kb,-⟩:=z7 (n:=(c.length:Int)) aO (by omega);have kb:=kb (by omega);obtain⟨q,X,e3,j,-,-,-⟩:=z7 (n:=20) aY (by omega);have aX:c8 (P7 ((l,d,c),s1)) (c.length:Int)=some (k,s2):=e2;dsimp only;simp only[aX,vS,Option.isSome_some];refine l5 ⟨trivial,trivial⟩ (x7 ?_);dsimp only;simp only[e3,vS,Option.isSome_some];refine l5 ⟨trivial,trivial⟩ (x7 ?_);dsimp only;have i:k.toNat<c.length:=by omega
 have bB:1<=(c.getD k.toNat (b7 l7)).1.length/\1<=(c.getD k.toNat (b7 l7)).2.1.length/\1<=(c.getD k.toNat (b7 l7)).2.2.1.length:=by
  rw[gq,List.getElem?_eq_getElem i];exact t3 _ (List.getElem_mem i)
 have Y:cnt l7 (c.getD k.toNat (b7 l7))<=10000:=by
  have:=C0b (t:=l7) (d:=b7 l7) i;rw[AQ (e:=l7)] at hc;omega
 -- a number deep in the data has turned
 have Q:∀(P:l6) (c4:List Int) (T:r8) (w4:List x9) (l4:List m5),Sd P->wf (.sl (.int .u8)) c4->w8 (.sl y139) d.1 T.1->w8 (.sl .str) d.2.1 T.2.1->w8 (.sl y202) d.2.2 T.2.2->w8 (.sl l7) c w4->w8 (.sl y64) l l4 ->
   ∃r,BV (c4,P.2.1,P.2.2,w4,T.1,T.2.1,T.2.2,l4)=some r/\True:=fun P c4 T w4 l4 q1 q2 q3 q4 q5 q6 q7 =>
  Rm (s:=(c4,P.2.1,P.2.2)) ⟨q1.1,q2.1,fun b hb=>q2.2 b hb⟩ (by rw[Ib _ _ _ q7,E0r q3 q4 q5,Ib _ _ _ q6]; omega)
 have H:∀{P:l6},Sd P->wf (.sl (.int .u8)) P.1:=fun q=>⟨q.2.1,fun b hb=>q.2.2 b hb⟩;split
 ·refine l5 ⟨⟨by omega,by omega,by omega⟩,trivial⟩ ?_;refine Rm (s:=X) (d:=d) j ?_;have:cnt (.sl l7) (List.drop (Int.toNat (1:Int)) c)<=cnt (.sl l7) c:=by
   cases c with
   | nil=>simp
   | cons x r =>
     rw[AQ,AQ];simp only[show Int.toNat (1:Int)=1 from rfl,List.drop_succ_cons,List.drop_zero,List.map_cons,List.sum_cons,List.length_cons];omega
  omega
 split
 ·have bD:(c.getD k.toNat (b7 l7)).2.2.2.length<=10000:=by
   have G:cnt (.pr (.sl (.int .i64)) (.pr (.sl (.int .i64)) (.pr (.sl (.int .i64)) (.sl (.int .i64))))) (c.getD k.toNat (b7 l7))<=10000:=Y;rw[J1,J1,J1] at G;simp only[Ga] at G;omega
  have aD:J8 (c.getD k.toNat (b7 l7)).2.2.2=some (c.getD k.toNat (b7 l7)).2.2.2:=by
   unfold J8;rw[gP ⟨oo,trivial⟩];rfl
  simp only[aD,vS,Option.isSome_some];refine l5 ⟨⟨⟨V,by omega⟩,i,trivial,⟨by rw[List.length_singleton]; omega,by rw[List.length_singleton]; omega⟩,⟨V,by omega⟩,trivial⟩,i,trivial⟩ ?_;refine Rm (s:=X) (d:=d) j ?_;have W:=u0q (f:=cnt l7) (d:=b7 l7) (y:=((c.getD k.toNat (b7 l7)).1,(c.getD k.toNat (b7 l7)).2.1,(c.getD k.toNat (b7 l7)).2.2.1,(c.getD k.toNat (b7 l7)).2.2.2++[0])) i;have aA:cnt l7 ((c.getD k.toNat (b7 l7)).1,(c.getD k.toNat (b7 l7)).2.1,(c.getD k.toNat (b7 l7)).2.2.1,(c.getD k.toNat (b7 l7)).2.2.2++[0])=cnt l7 (c.getD k.toNat (b7 l7))+1:=by
   generalize c.getD k.toNat (b7 l7)=w;show cnt (.pr (.sl (.int .i64)) (.pr (.sl (.int .i64)) (.pr (.sl (.int .i64)) (.sl (.int .i64))))) _=cnt (.pr (.sl (.int .i64)) (.pr (.sl (.int .i64)) (.pr (.sl (.int .i64)) (.sl (.int .i64))))) w+1;simp only[J1,Ga,List.length_append,List.length_singleton];omega
  rw[aA] at W;rw[AQ (e:=l7),List.length_set];rw[AQ (e:=l7)] at hc;omega
 split
 ·refine l5 ⟨⟨V,by omega⟩,i,oo,trivial⟩ (Al ?_);rintro⟨v3,v4,v5,v6,v7,v8,v9,aB⟩ ⟨-,-,o,m,E,u,z,g⟩;refine O1 (l5 trivial ?_);exact Q X v5 (v6,v7,v8) v9 aB j (o.2 (H j)) m.1 E.1 u.1 z g
 split
 ·obtain⟨q5,s5,e5,F,qa,qb,-⟩:=z7 (n:=3) j (by omega);have qb:=qb (by omega);simp only[e5,vS,Option.isSome_some];refine l5 ⟨⟨V,by omega⟩,i,trivial,⟨by omega,by simp; omega⟩,by simp; omega,oo,trivial⟩ (Al ?_);rintro⟨bH,bL,aV,bI,aR,aM,aP,aW,aQ⟩ ⟨-,-,o,-,m,E,u,z,g⟩;refine O1 (l5 trivial ?_);exact Q s5 aV (aR,aM,aP) aW aQ F (o.2 (H F)) m.1 E.1 u.1 z g
 split
 ·obtain⟨q5,s5,e5,F,qa,qb,-⟩:=z7 (n:=5) j (by omega);have qb:=qb (by omega);have hP:(c.getD k.toNat (b7 l7)).1.length<=10000:=by
   have G:cnt (.pr (.sl (.int .i64)) (.pr (.sl (.int .i64)) (.pr (.sl (.int .i64)) (.sl (.int .i64))))) (c.getD k.toNat (b7 l7))<=10000:=Y;rw[J1,J1,J1] at G;simp only[Ga] at G;omega
  simp only[e5,vS,Option.isSome_some];refine l5 ⟨⟨V,by omega⟩,i,⟨V,by omega⟩,i,oo,trivial,oo,oo,trivial⟩ (Al ?_);rintro⟨bE,bA,bG,aF,bJ,aL,aJ,aN,aI,aG⟩ ⟨-,-,-,o,-,m,E,u,z,g⟩;refine O1 (l5 trivial ?_);exact Q s5 aF (aL,aJ,aN) aI aG F (o.2 (H F)) m.1 E.1 u.1 z g
 split
 ·refine l5 ⟨oo,trivial⟩ (Al ?_);rintro⟨bF,bM,bK,aZ,aS,aT,aU,aC,aH⟩ ⟨-,-,-,o,m,E,u,z,g⟩;refine O1 (l5 trivial ?_);exact Q X aZ (aS,aT,aU) aC aH j (o.2 (H j)) m.1 E.1 u.1 z g
 ·exact Rm (s:=X) (d:=d) j (by omega)
theorem K0T:Vt:=R0t fun _ b a=>C0h (Cd b.1 a.1) a.2.1 a.2.2
theorem K0U:Vx:=R0u fun _ b a=>I0l (Cd b.1 a.1) a.2.1 a.2.2
theorem Xb:MN:=e61 K0T K0U fun _ b a=>I0x (Cd b.1 a.1) a.2.1 a.2.2
theorem K0V:VD:=R0v Xb fun _ a b=>I0E (Cd a.1 b)
theorem r0h{v:Int}{s:l6}{b:Bool}(h:Sd s):∃r,MP (v,s) b=some r/\True:=by
 unfold MP;dsimp only;split
 ·refine l5 ⟨trivial,Rl h.1 (by omega) (by omega)⟩ (Al ?_);rintro⟨b,f⟩ ⟨⟨c,g,e,d,a⟩,-,hz⟩;exact O1 (l5 trivial (l5 ⟨c,Nat.le_trans a (by decide)⟩ ⟨_,rfl,trivial⟩))
 ·refine l5 ⟨trivial,Rl h.1 (by omega) (by omega)⟩ (Al ?_);rintro⟨b,f⟩ ⟨⟨c,g,e,d,a⟩,-,hz⟩;exact O1 (l5 trivial (l5 ⟨c,Nat.le_trans a (by decide)⟩ ⟨_,rfl,trivial⟩))
theorem E0I{s:l6}(h:Sd s):QF s=some ():=by
 refine O1 ?_;obtain⟨v,g,d,a,-,-,-⟩:=z7 (n:=12) h (by omega);unfold QF;simp only[d,vS,Option.isSome_some];refine l5 ⟨trivial,trivial⟩ (x7 ?_);dsimp only;split
 ·refine l5 ⟨trivial,a.1⟩ (Al ?_);rintro⟨b,f⟩ ⟨⟨e,c⟩,-,hz⟩;exact O1 (l5 trivial (l5 ⟨e,c⟩ ⟨_,rfl,trivial⟩))
 ·split
  ·exact r0h a
  ·exact r0h a
theorem P0c:VE:=e58 Xb K0V fun _ a b=>E0I (Cd a.1 b)
end
theorem w0d(pl:Nat->B4)(t:Int):∀m,0<m->V4 pl t m<m
 | 1,_=>by
   have e:V4 pl t 1=if((pl 0).2.2.1==t&&(pl 0).2.2.2)=true then((0:Nat):Int) else 0:=rfl
   rw[e];split <;> simp
 | m+2,_=>by
   have e:V4 pl t (m+2)=if((pl (m+1)).2.2.1==t&&(pl (m+1)).2.2.2)=true then((m+1:Nat):Int) else V4 pl t (m+1):=rfl
   have:=w0d pl t (m+1) (by omega);rw[e];split <;> omega
theorem s0i{b:j7}(o:p8 b=true){l:w7}(h:l∈lV b):0<=l.1/\l.1<2*((p9 b.2.1).length:Int)/\0<=l.2.1/\l.2.1<2*((p9 b.2.1).length:Int):=by
 obtain⟨u,m,_⟩:=V5 o;have r:=T4 u;rcases Wy h with ⟨i,j,t,hi,x,n,rfl⟩ | ⟨i,k,t,hi,hk,n,rfl⟩
 ·obtain⟨Y,s,P⟩:=FQ r hi;obtain⟨G,c2,z,w⟩:=FR s;obtain⟨a1,Q,F,a4⟩:=w j x;obtain⟨A,v⟩:∃A:Nat,(m8 (x6 b i) j).2.1=(A:Int):=⟨(m8 (x6 b i) j).2.1.toNat,by omega⟩;obtain⟨B,y⟩:∃B:Nat,(m8 (x6 b i) j).2.2.1=(B:Int):=⟨(m8 (x6 b i) j).2.2.1.toNat,by omega⟩;have a:A < (m7 b.2.1 i).2.2.length:=by omega
  have f:B < (m7 b.2.1 i).2.2.length:=by omega
  have lA:y9 (m7 b.2.1) i+A < (p9 b.2.1).length:=by
   have:=Ni (m7 b.2.1) hi a;unfold p9;rw[JQ]; omega
  have T:y9 (m7 b.2.1) i+B < (p9 b.2.1).length:=by
   have:=Ni (m7 b.2.1) hi f;unfold p9;rw[JQ]; omega
  have V:=(QO _ _).2 _ (H5 (d:=(0,0)) n);have g:(HM (y9 (m7 b.2.1) i:Int) (m8 (x6 b i) j) j t).1=2*((y9 (m7 b.2.1) i:Int)+(A:Int))+((I7 (m8 (x6 b i) j).1 (m8 (x6 b i) j).2.2.2.1).getD t (0,0)).1:=by
   rw[<- v]; rfl
  have e:(HM (y9 (m7 b.2.1) i:Int) (m8 (x6 b i) j) j t).2.1=2*((y9 (m7 b.2.1) i:Int)+(B:Int))+((I7 (m8 (x6 b i) j).1 (m8 (x6 b i) j).2.2.2.1).getD t (0,0)).2:=by
   rw[<- y]; rfl
  rw[g,e];omega
 ·obtain⟨q,c,X,E,_⟩:=MW (u0 b.2.1) i (p9 b.2.1).length _ (H5 (d:=0) hk);have c:(x8 b.2.1 i).getD k 0=(q:Int):=c;have H:=(VZ (u0 b.2.1) i (p9 b.2.1).length).1;have W:=w0d (u0 b.2.1) i (p9 b.2.1).length (by omega);have g:(DK (I8 b i) ((x8 b.2.1 i).getD k 0) k t).1=2*V4 (u0 b.2.1) i (p9 b.2.1).length+(t:Int):=rfl;have e:(DK (I8 b i) ((x8 b.2.1 i).getD k 0) k t).2.1=2*(q:Int)+(t:Int):=by
   rw[<- c]; rfl
  rw[g,e];omega
section
variable (b:j7)
def j6:Nat:=2*(p9 b.2.1).length
def o6(i:Nat):Nat:=((lV b).getD i (b7 y80)).1.toNat
def p6(i:Nat):Nat:=((lV b).getD i (b7 y80)).2.1.toNat
theorem M8(a:p8 b=true){i:Nat}(hi:i < (lV b).length):((lV b).getD i (b7 y80)).1=(o6 b i:Int)/\((lV b).getD i (b7 y80)).2.1=(p6 b i:Int)/\o6 b i<j6 b/\p6 b i<j6 b:=by
 obtain⟨f,c,e,g⟩:=s0i a (H5 (d:=b7 y80) hi);unfold o6 p6 j6;omega
theorem Am(a:p8 b=true):j6 b<=1000000:=by
 have c:=(T4 (V5 a).1).len;unfold j6;omega
theorem Xc(a:p8 b=true):O7 (m9 b)=some (j6 b:Int):=by
 have c:=(T4 (V5 a).1).len;have e:∀s:List B9,Jd s=some (s.length:Int):=fun _=>rfl;unfold O7;rw[e,vS,gP ⟨rfl,⟨by show _<=2*((p9 b.2.1).length:Int); omega,by show 2*((p9 b.2.1).length:Int)<=_; omega⟩,trivial⟩,lE];unfold j6;rw[Int.natCast_mul];rfl
theorem Rn(c:wf k8 b)(d:p8 b=true):U5 b=some (j6 b:Int):=by
 have a:=T4 (V5 d).1;have e:=a.len;unfold U5;rw[DI b.2.1 c.2.1 a.fac.ni14 a.fac.np8 a.pin,vS,gP ⟨rfl,⟨by show _<=2*((p9 b.2.1).length:Int); omega,by show 2*((p9 b.2.1).length:Int)<=_; omega⟩,trivial⟩,lE];unfold j6;rw[Int.natCast_mul];rfl
end
def D1(l:List Int)(x:Int):Bool:=(List.range l.length).any fun j=>l.getD j 0==x
theorem Xe(l:List Int)(x:Int)(b:l.length<=9223372036854775807):U6 l x=some (D1 l x):=by
 have a:=H2 b (fun j=>l.getD j 0==x) (some true) (e:=some false) (F:=ZH l x) (fun g i hi=>by
  have c:((i:Int)).toNat=i:=rfl;refine(if_pos (decide_eq_true (by omega))).trans ((gP ⟨oo,trivial⟩).trans ?_);rw[c];by_cases h:(l.getD i 0==x)=true
  ·rw[if_pos h,if_pos h]
  ·rw[if_neg h,if_neg h];exact gP ⟨oo,trivial⟩) (fun g=>if_neg (by simp))
 refine a.trans ?_;unfold D1;cases(List.range l.length).any fun j=>l.getD j 0==x <;> rfl
def C4(M:Nat)(br:List Int):List Bool:=fN (AM fun k=>!D1 br (k:Int)) M []
theorem Xf(a:List l8)(br:List Int)(d:a.length<=1048576)(c:br.length<=1048576):Bg a br=some (C4 a.length br):=by
 refine(lF (n:=a.length) (by omega) (fun i (s:List Bool)=>((i:Int),s)) (AM fun k=>!D1 br (k:Int)) (fun i s=>s.length=i) (J:=fun s=>some s) (F:=ZK br a) (fun g i s hi b=>?_) (fun i s _ b=>by show(s++[_]).length=_; simp[b]) (fun g s _=>if_neg (by simp)) [] rfl).trans rfl;have e:((i:Int)).toNat=i:=rfl;refine(if_pos (decide_eq_true (by omega))).trans ?_;rw[Xe br _ (by omega),vS];refine(gP ⟨rfl,⟨by simp only[List.length_singleton]; omega,by simp only[List.length_singleton]; omega⟩,trivial⟩).trans ?_;exact gP ⟨oo,trivial⟩
def An(M:Nat)(br:List Int):Bool:=br.all (m0 · 0 ((M:Int)-1))&&DD br
theorem D0Z:CD []=some true:=by
 unfold CD;refine D0N (fun n a=>?_);obtain⟨m,rfl⟩:∃m,n=m+1:=⟨n-1,by omega⟩;rfl
theorem K0v(xs:List Int)(h:xs.length<=9223372036854775807):CD xs=some (DD xs):=by
 cases xs with
 | nil=>exact D0Z
 | cons x r=>exact Wd _ h (by simp)
theorem r65{b:j7}(a:p8 b=true)(br:List Int)(h:br.length<=1048576):Dx (m9 b) br=some (An (lV b).length br):=by
 have c:=R3 a;have e:Hk (m9 b).2.2.1=some ((lV b).length:Int):=rfl;unfold Dx;rw[e,vS,HI br 0 _ (by omega),vS,K0v br (by omega),vS,gP ⟨rfl,oo,rfl,(fun _=>rfl),trivial⟩];rfl
theorem L0L(M:Nat)(br:List Int)(o:M<=1048576)(h:br.length<=1048576):Li br (M:Int)=some (An M br):=by
 have b:=H2 (n:=br.length) (by omega) (fun i=>!m0 (br.getD i 0) 0 ((M:Int)-1)||(decide (0<i)&&decide (br.getD i 0<=br.getD (i-1) 0))) (some false) (e:=some true) (F:=B0k br (M:Int)) (fun g i hi=>by
  have l:((i:Int)).toNat=i:=rfl;have m:((i:Int)-1).toNat=i-1:=by omega
  refine(if_pos (decide_eq_true (by omega))).trans ?_;rw[S9,vS,l,m];refine(gP ⟨oo,oo,rfl,(fun a=>oo),(fun a=>⟨by have:=of_decide_eq_true a.1; omega,by omega⟩),(fun _=>oo),trivial⟩).trans ?_;have d:decide ((0:Int) < (i:Int))=decide (0<i):=by
   rw[decide_eq_decide]; omega
  rw[d];by_cases a:(!m0 (br.getD i 0) 0 ((M:Int)-1)||(decide (0<i)&&decide (br.getD i 0<=br.getD (i-1) 0)))=true
  ·rw[if_pos a,if_pos a]
  ·rw[if_neg a,if_neg a];exact gP ⟨oo,trivial⟩) (fun g=>if_neg (by simp))
 refine b.trans ?_;have e:An M br=!((List.range br.length).any fun i=>!m0 (br.getD i 0) 0 ((M:Int)-1)||(decide (0<i)&&decide (br.getD i 0<=br.getD (i-1) 0))):=by
  unfold An DD;rw[Bool.eq_iff_iff];simp only[ba,Bool.not_eq_true',<- Bool.not_eq_true,List.any_eq_true,List.all_eq_true,List.mem_range,Bool.or_eq_true];constructor
  ·rintro⟨j,f⟩ ⟨i,hi,a⟩;rcases a with a | a
   ·exact a (j _ (H5 hi))
   ·exact f ⟨i,hi,a⟩
  ·intro c;refine⟨fun x k=>?_,fun⟨i,hi,a⟩=>c ⟨i,hi,.inr a⟩⟩;obtain⟨i,hi,rfl⟩:=List.getElem_of_mem k;by_cases a:m0 br[i] 0 ((M:Int)-1)=true
   ·exact a
   ·refine(c ⟨i,hi,.inl ?_⟩).elim;rw[gq,List.getElem?_eq_getElem hi];exact a
 rw[e];cases(List.range br.length).any fun i=>!m0 (br.getD i 0) 0 ((M:Int)-1)||(decide (0<i)&&decide (br.getD i 0<=br.getD (i-1) 0)) <;> rfl
theorem Xg{b:Type}(g:b->Nat->b)(l:List Nat)(s:b):fN (fun i s=>g s (l.getD i 0)) l.length s=l.foldl g s:=by
 have a:∀n,n<=l.length->fN (fun i s=>g s (l.getD i 0)) n s=(l.take n).foldl g s:=by
  intro n
  induction n with
  | zero=>intro _; rfl
  | succ n c =>
    intro d;have e:l.take (n+1)=l.take n++[l.getD n 0]:=by
     rw[List.take_add_one,gq,List.getElem?_eq_getElem (by omega)];rfl
    rw[e,List.foldl_append,<- c (by omega)];rfl
 have:=a l.length (Nat.le_refl _)
 rwa [List.take_length] at this
theorem D0e(M:Nat):∀m,m<=M->(fN (fun i (s:List Bool)=>s.set i true) m (List.replicate M false)).length=M/\∀k,k<m->(fN (fun i (s:List Bool)=>s.set i true) m (List.replicate M false)).getD k false=true:=by
 intro m
 induction m with
 | zero=>exact fun _=>⟨List.length_replicate,fun k a=>by omega⟩
 | succ m b =>
   intro e;obtain⟨d,c⟩:=b (by omega);refine⟨by show(List.set _ _ _).length=M; grind,fun k a=>?_⟩;show(List.set _ _ _).getD k false=true;rw[JW _ (by omega)]
   grind
theorem E0G(br:List Int)(s:List Bool):∀m,(∀j,j<m->(br.getD j 0).toNat<s.length)->(fN (fun i (s:List Bool)=>s.set (br.getD i 0).toNat false) m s).length=s.length/\∀k,(fN (fun i (s:List Bool)=>s.set (br.getD i 0).toNat false) m s).getD k false=(s.getD k false&&!(List.range m).any fun j=>(br.getD j 0).toNat==k):=by
 intro m
 induction m with
 | zero=>exact fun _=>⟨rfl,fun k=>by show s.getD k false=_; simp⟩
 | succ m a =>
   intro b;obtain⟨e,c⟩:=a (fun j d=>b j (by omega));refine⟨by show(List.set _ _ _).length=_; grind,fun k=>?_⟩;show(List.set _ _ _).getD k false=_
   grind
def H6(p:Nat->Bool)(M:Nat):List Int:=((List.range M).filter p).map fun i:Nat=>(i:Int)
theorem Gd(p:Nat->Bool):∀m,fN (fun i (s:List Int)=>if p i=true then s++[(i:Int)] else s) m []=H6 p m
 | 0=>rfl
 | m+1=>by
   show(if p m=true then fN _ m []++[(m:Int)] else fN _ m [])=_;rw[Gd p m];unfold H6;rw[List.range_succ,List.filter_append,List.map_append]
   grind
theorem Ge(p:Nat->Bool)(M:Nat):(H6 p M).length<=M/\(H6 p M).length=((List.range M).filter p).length:=by
 unfold H6
 grind
theorem Xh(p:Nat->Bool)(M i:Nat):(H6 p M).getD i 0=((((List.range M).filter p).getD i 0:Nat):Int):=by
 grind[H6,List.range]
theorem NC{p:Nat->Bool}{M i:Nat}(h:i < ((List.range M).filter p).length):((List.range M).filter p).getD i 0<M:=by
 grind[H5]
def T6(o:Option (List Nat)):List Int×Bool:=match o with
 | none=>([],false)
 | some l=>(l.map (fun v:Nat=>(v:Int)),true)
section
variable {b:j7}
theorem r67(r:p8 b=true){br:List Int}(a:An (lV b).length br=true)(v:br.length<=1048576):Hp (m9 b) br=some (m9 b,C4 (lV b).length br):=by
 have w:=R3 r;have a:=a;unfold An at a;rw[ba] at a;have d:∀j,j<br.length->0<=br.getD j 0/\br.getD j 0 < ((lV b).length:Int):=fun j h=>by
  grind[z8,JG]
 obtain⟨f,u⟩:=D0e (lV b).length (lV b).length (Nat.le_refl _);obtain⟨o,t⟩:=E0G br (fN (fun i (s:List Bool)=>s.set i true) (lV b).length (List.replicate (lV b).length false)) br.length (fun j h=>by
  have:=d j h;omega)
 have m:fN (fun i (s:List Bool)=>s.set (br.getD i 0).toNat false) br.length (fN (fun i (s:List Bool)=>s.set i true) (lV b).length (List.replicate (lV b).length false))=C4 (lV b).length br:=by
  refine JX false (by rw[o,f]; exact(FO _ _).symm) (fun k c=>?_);have c:k < (lV b).length:=by rw[o,f] at c; exact c
  rw[t,u k c,Bool.true_and];refine Eq.trans ?_ (MY (fun k=>!D1 br (k:Int)) false _ k c).symm;congr 1;unfold D1;rw[Bool.eq_iff_iff,List.any_eq_true,List.any_eq_true];constructor
  ·grind
  ·grind
 unfold Hp;have q:((m9 b).2.2.1.length:Int)=((lV b).length:Int):=rfl;rw[q,Int.toNat_natCast];refine(gP ⟨⟨by omega,rfl,by omega,by omega⟩,trivial⟩).trans ?_;rw[lE,List.length_replicate];refine(lF (n:=(lV b).length) (by omega) (fun i (s:List Bool)=>((i:Int),s)) (fun i s=>s.set i true) (fun _ s=>s.length=(lV b).length) (J:=fun s=>Mr br (m9 b) s) (F:=G0c br (m9 b) ((lV b).length:Int)) (fun g i s hi e=>?_) (fun i s _ e=>by grind) (fun g s _=>if_neg (by simp)) (List.replicate (lV b).length false) List.length_replicate).trans ?_
 ·have l:((i:Int)).toNat=i:=rfl;refine(if_pos (decide_eq_true (by omega))).trans ?_;refine(gP ⟨oo,by omega,trivial⟩).trans ?_;exact gP ⟨oo,trivial⟩
 ·show Mr br (m9 b) _=_;rw[Mr];refine(lF (n:=br.length) (by omega) (fun i (s:List Bool)=>((i:Int),s)) (fun i s=>s.set (br.getD i 0).toNat false) (fun _ s=>s.length=(lV b).length) (J:=fun s=>some (m9 b,s)) (F:=G0b br (m9 b)) (fun g i s hi e=>?_) (fun i s _ e=>by grind) (fun g s _=>if_neg (by simp)) _ f).trans ?_
  ·have l:((i:Int)).toNat=i:=rfl;have:=d i hi;refine(if_pos (decide_eq_true (by omega))).trans ?_;refine(gP ⟨oo,trivial⟩).trans ?_;rw[l];refine(gP ⟨oo,by omega,trivial⟩).trans ?_;exact gP ⟨oo,trivial⟩
  grind
theorem K0t(d:p8 b=true){lv:List Bool}(e:lv.length=(lV b).length):Qd (m9 b,lv)=some (H6 (fun i=>lv.getD i false) (lV b).length):=by
 have j:=R3 d;refine(lF (n:=(lV b).length) (by omega) (fun i (s:List Int)=>(s,(i:Int))) (fun i s=>if lv.getD i false=true then s++[(i:Int)] else s) (fun i s=>s.length<=i) (J:=fun s=>some s) (F:=j0Y (m9 b,lv)) (fun g i s hi c=>?_) (fun i s _ c=>?_) (fun g s _=>if_neg (by simp[m9])) [] (Nat.le_refl _)).trans (congrArg some (Gd _ _))
 ·have f:((i:Int)).toNat=i:=rfl;have a:ix (i:Int) (m9 b).2.2.1.length:=⟨by omega,by show(i:Int) < ((lV b).length:Int); omega⟩;refine(if_pos (decide_eq_true a.2)).trans ((gP ⟨a,trivial⟩).trans ?_);rw[lE];refine(gP ⟨⟨by omega,by grind⟩,(fun _=>rfl),trivial⟩).trans ?_;show(if(lv.getD i false&&true)=true then _ else _)=_;rw[Bool.and_true];by_cases h:lv.getD i false=true
  ·rw[if_pos h,if_pos h];refine(gP ⟨⟨by grind,by grind⟩,trivial⟩).trans ?_;exact gP ⟨oo,trivial⟩
  ·rw[if_neg h,if_neg h];exact gP ⟨oo,trivial⟩
 grind
theorem K0u(c:p8 b=true){lv:List Bool}(k:lv.length=(lV b).length)(a:Nat):Qb (m9 b,lv) (a:Int)=some (H6 (fun i=>lv.getD i false&&o6 b i==a) (lV b).length):=by
 have m:=R3 c;refine(lF (n:=(lV b).length) (by omega) (fun i (s:List Int)=>(s,(i:Int))) (fun i s=>if(lv.getD i false&&o6 b i==a)=true then s++[(i:Int)] else s) (fun i s=>s.length<=i) (J:=fun s=>some s) (F:=j0U (m9 b,lv) (a:Int)) (fun g i s hi e=>?_) (fun i s _ e=>?_) (fun g s _=>if_neg (by simp[m9])) [] (Nat.le_refl _)).trans (congrArg some (Gd _ _))
 ·have l:((i:Int)).toNat=i:=rfl;have d:ix (i:Int) (m9 b).2.2.1.length:=⟨by omega,by show(i:Int) < ((lV b).length:Int); omega⟩;refine(if_pos (decide_eq_true d.2)).trans ((gP ⟨d,trivial⟩).trans ?_);rw[lE];refine(gP ⟨⟨by omega,by show(i:Int) < (lv.length:Int); omega⟩,(fun _=>rfl),trivial⟩).trans ?_;obtain⟨j,_⟩:=M8 b c hi;have f:(((lV b).getD i (b7 y80)).1==(a:Int))=(o6 b i==a):=by
   rw[j,Bool.eq_iff_iff,beq_iff_eq,beq_iff_eq]; omega
  show(if(lv.getD i false&&(((lV b).getD i (b7 y80)).1==(a:Int)))=true then _ else _)=_;rw[f];by_cases h:(lv.getD i false&&o6 b i==a)=true
  ·rw[if_pos h,if_pos h];refine(gP ⟨⟨by grind,by grind⟩,trivial⟩).trans ?_;exact gP ⟨oo,trivial⟩
  ·rw[if_neg h,if_neg h];exact gP ⟨oo,trivial⟩
 grind
theorem N0p(d:p8 b=true){lv:List Bool}(c:lv.length=(lV b).length)(a:Nat):Hq (m9 b,lv) (a:Int)=some (H6 (fun i=>lv.getD i false&&o6 b i==a) (lV b).length):=by
 unfold Hq;rw[K0u d c,vS,gP ⟨rfl,trivial⟩,lE]
theorem N0q(o:List Int)(h:o.length<=9223372036854775807):Qc o 0=some (match(List.range o.length).find? (fun v=>(0:Int)==o.getD v 0) with | some v=>(v:Int) | none => -1):=by
 have a:=Ke h (fun v=>(0:Int)==o.getD v 0) (fun v=>some (v:Int)) (e:=some (-1)) (F:=B0n 0 o) 0 (Nat.zero_le _) (fun g i _ hi=>by
  have c:((i:Int)).toNat=i:=rfl;refine(if_pos (decide_eq_true (by omega))).trans ((gP ⟨oo,trivial⟩).trans ?_);rw[c];by_cases b:((0:Int)==o.getD i 0)=true
  ·simp_all
  ·rw[if_neg b,if_neg b];exact gP ⟨oo,trivial⟩) (fun g=>if_neg (by simp))
 rw[Nat.sub_zero,<- List.range_eq_range'] at a;refine Eq.trans a ?_
 grind
end
section
variable {b:j7}
theorem u0D{o:List Int}{i N:Nat}{x:Int}(h:o.length=N):(o.set i x).length=N:=by grind
theorem K0l(c:p8 b=true){lv:List Bool}{p:Nat->Bool}:lp (Vd (m9 b,lv) (H6 p (lV b).length)) (0,List.replicate (j6 b) 0)=Ms (m9 b,lv) (((List.range (lV b).length).filter p).foldl (FV (p6 b)) (List.replicate (j6 b) 0)):=by
 have z:=R3 c;obtain⟨y,m⟩:=Ge p (lV b).length;rw[<- Xg,<- m];refine lF (n:=(H6 p (lV b).length).length) (by omega) (fun i (s:List Int)=>((i:Int),s)) (fun i o=>FV (p6 b) o (((List.range (lV b).length).filter p).getD i 0)) (fun i o=>o.length=j6 b/\∀v,0<=o.getD v 0/\o.getD v 0<=(i:Int)) (J:=fun s=>Ms (m9 b,lv) s) (F:=Vd (m9 b,lv) (H6 p (lV b).length)) (fun g i o hi d=>?_) (fun i o hi d=>?_) (fun g s _=>if_neg (by simp)) _ ⟨List.length_replicate,fun v=>?_⟩
 ·have l:((i:Int)).toNat=i:=rfl;obtain⟨h,f⟩:=d;have a:=NC (p:=p) (M:=(lV b).length) (i:=i) (by omega);refine(if_pos (decide_eq_true (by omega))).trans ?_;refine(gP ⟨oo,by omega,trivial⟩).trans ?_;rw[l,Xh];generalize ((List.range (lV b).length).filter p).getD i 0=k at a;have x:Int.toNat ((k:Nat):Int)=k:=rfl;obtain⟨u,e,q,w⟩:=M8 b c a;have j:ix ((k:Nat):Int) (m9 b).2.2.1.length:=⟨by omega,by show((k:Nat):Int) < ((lV b).length:Int); omega⟩;have E:=f (p6 b k);have r:((m9 b).2.2.1.getD (Int.toNat ((k:Nat):Int)) (b7 y80)).2.1=(p6 b k:Int):=e;have t:Int.toNat ((p6 b k:Nat):Int)=p6 b k:=rfl;rw[r,t];refine(gP ⟨j,oo,by omega,oo,oo,by omega,trivial⟩).trans ?_;rw[lE];exact gP ⟨oo,trivial⟩
 ·obtain⟨h,f⟩:=d;have a:=NC (p:=p) (M:=(lV b).length) (i:=i) (by omega);obtain⟨u,e,q,w⟩:=M8 b c a;refine⟨u0D h,fun v=>?_⟩
  grind[FV,Nu,p6,List.range,lV]
 grind
theorem K0k(e:p8 b=true){lv:List Bool}{p:Nat->Bool}{n:Int}{l:List Int}{v:Int}{a:List Int×Int×List Int->Option (List Int×Bool)}{o:List Int}{A:Int}(E:0<=A)(y:A<=1000000000000)(ol:o.length=j6 b)(j:∀w,w<j6 b -> -A<=o.getD w 0/\o.getD w 0<=A):lp (Qf (m9 b,lv) (H6 p (lV b).length) n l v a) (0,o)=Qe n a (l++[v],((List.range (lV b).length).filter p).foldl (HY (p6 b)) o):=by
 have T:=R3 e;obtain⟨Q,h⟩:=Ge p (lV b).length;rw[<- Xg,<- h];refine lF (n:=(H6 p (lV b).length).length) (by omega) (fun i (s:List Int)=>((i:Int),s)) (fun i o=>HY (p6 b) o (((List.range (lV b).length).filter p).getD i 0)) (fun i o=>o.length=j6 b/\∀w,w<j6 b -> -A-(i:Int)<=o.getD w 0/\o.getD w 0<=A) (J:=fun s=>Qe n a (l++[v],s)) (F:=Qf (m9 b,lv) (H6 p (lV b).length) n l v a) (fun g i o hi c=>?_) (fun i o hi c=>?_) (fun g s _=>if_neg (by simp)) _ ⟨ol,fun w G=>by grind⟩
 ·have x:((i:Int)).toNat=i:=rfl;obtain⟨ol,f⟩:=c;have d:=NC (p:=p) (M:=(lV b).length) (i:=i) (by omega);refine(if_pos (decide_eq_true (by omega))).trans ?_;refine(gP ⟨oo,by omega,trivial⟩).trans ?_;rw[x,Xh];generalize ((List.range (lV b).length).filter p).getD i 0=k at d;obtain⟨H,q,z,m⟩:=M8 b e d;have u:ix ((k:Nat):Int) (m9 b).2.2.1.length:=⟨by omega,by show((k:Nat):Int) < ((lV b).length:Int); omega⟩;have P:=f (p6 b k) m;have r:((m9 b).2.2.1.getD (Int.toNat ((k:Nat):Int)) (b7 y80)).2.1=(p6 b k:Int):=q;have t:Int.toNat ((p6 b k:Nat):Int)=p6 b k:=rfl;rw[r,t];refine(gP ⟨u,oo,by omega,oo,oo,by omega,trivial⟩).trans ?_;rw[lE];exact gP ⟨oo,trivial⟩
 ·obtain⟨ol,f⟩:=c;have d:=NC (p:=p) (M:=(lV b).length) (i:=i) (by omega)
  grind[HY]
def M9(b:j7)(lv:List Bool)(out:List Nat)(k:Nat):Option (List Nat):=AN (lV b).length (j6 b) (o6 b) (p6 b) (fun i=>lv.getD i false) k out
theorem Xi(M N:Nat)(fr to:Nat->Nat)(lv:Nat->Bool)(k:Nat)(a:List Nat):AN M N fr to lv (k+1) a=match M4 M N fr to lv a with | none=>none | some v=>AN M N fr to lv k (a++[v]):=rfl
theorem r68(d:p8 b=true){lv:List Bool}(h:lv.length=(lV b).length):Hr (m9 b,lv)=some (T6 (M9 b lv [] (j6 b))):=by
 have P:=R3 d;have x:=Am b d;have o:∀i,i < (lV b).length->p6 b i<j6 b:=fun i hi=>(M8 b d hi).2.2.2;unfold Hr;rw[Xc b d,vS,gP ⟨rfl,⟨by omega,rfl,by omega,by omega⟩,trivial⟩,lE,K0t d h,vS,gP ⟨rfl,trivial⟩,lE,Int.toNat_natCast,K0l d];have u:((List.range (lV b).length).filter fun i=>lv.getD i false).foldl (FV (p6 b)) (List.replicate (j6 b) 0)=CO (lV b).length (j6 b) (o6 b) (p6 b) (fun i=>lv.getD i false) []:=rfl;rw[u];have j:(CO (lV b).length (j6 b) (o6 b) (p6 b) (fun i=>lv.getD i false) []).length=j6 b:=(B0N (fr:=o6 b) o).len;generalize hv6:CO (lV b).length (j6 b) (o6 b) (p6 b) (fun i=>lv.getD i false) []=v6 at j;rw[Ms];have q:=ND (n:=j6 b) (by omega) (fun i (a:List Nat)=>(a.map (fun v:Nat=>(v:Int)),(i:Int),CO (lV b).length (j6 b) (o6 b) (p6 b) (fun i=>lv.getD i false) a))
  (fun _ a=>(M4 (lV b).length (j6 b) (o6 b) (p6 b) (fun i=>lv.getD i false) a).map fun v=>a++[v]) (fun _ _=>some ([],false))
  (fun i a=>a.length=i/\Nv (lV b).length (j6 b) (o6 b) (p6 b) (fun i=>lv.getD i false) a (CO (lV b).length (j6 b) (o6 b) (p6 b) (fun i=>lv.getD i false) a))
  (J:=fun a=>some (a.map (fun v:Nat=>(v:Int)),true)) (F:=F0Z (m9 b,lv) v6)
  (fun g i a hi f=>by
    obtain⟨s,c⟩:=f;have E:((i:Int)).toNat=i:=rfl;refine(if_pos (decide_eq_true (by omega))).trans ?_;rw[N0q _ (by rw[c.len]; omega),v0e c,vS];refine(gP ⟨rfl,trivial⟩).trans ?_;rw[lE];cases hn:M4 (lV b).length (j6 b) (o6 b) (p6 b) (fun i=>lv.getD i false) a with
    | none=>rfl
    | some v =>
      obtain⟨t,G⟩:=Nw hn;have ev:((v:Int)).toNat=v:=rfl;dsimp only;refine(if_neg (by simp)).trans ?_;refine(gP ⟨⟨by omega,by rw[c.len]; omega⟩,by rw[c.len]; omega,trivial⟩).trans ?_;refine(gP ⟨⟨by simp only[List.length_singleton,List.length_map]; omega,by simp only[List.length_singleton,List.length_map]; omega⟩,trivial⟩).trans ?_;show gd ((Hq (m9 b,lv) (v:Int)).isSome=true/\True) (lt (vl (Hq (m9 b,lv) (v:Int))) fun k=>lp (Qf (m9 b,lv) k (i:Int) (a.map fun v:Nat=>(v:Int)) (v:Int) g) (0,(CO (lV b).length (j6 b) (o6 b) (p6 b) (fun i=>lv.getD i false) a).set v (-1)))=g ((a++[v]).map (fun v:Nat=>(v:Int)),(((i+1:Nat)):Int),CO (lV b).length (j6 b) (o6 b) (p6 b) (fun i=>lv.getD i false) (a++[v]));rw[N0p d h,vS,gP ⟨rfl,trivial⟩,lE];have r:(a.length:Int)*((lV b).length:Int)<=1000000*6000:=Int.mul_le_mul (by omega) (by omega) (by omega) (by decide);rw[K0k d (A:=6000000001) (by decide) (by decide) (u0D c.len) (fun w m=>by
       rw[Nu _ (by rw[c.len]; exact t)];have H:=c.lo w m;have z:=c.hi w m;split <;> omega)]
      rw[m0M,List.map_append];exact gP ⟨oo,trivial⟩)
  (fun i a l hi f y=>by
    obtain⟨s,c⟩:=f;cases hn:M4 (lV b).length (j6 b) (o6 b) (p6 b) (fun i=>lv.getD i false) a with
    | none=>grind
    | some v =>
      grind[Nw,m0M,v0d])
  (fun g a f=>by
    refine(if_neg ?_).trans rfl
    grind)
  (fun i a=>some (T6 (M9 b lv a (j6 b-i)))) (fun a _=>by
    rw[Nat.sub_self]; rfl)
  (fun i a hi f=>by
    have e:j6 b-i=(j6 b-(i+1))+1:=by omega
    show some (T6 (AN _ _ _ _ _ (j6 b-i) a))=_;rw[e,Xi];cases M4 (lV b).length (j6 b) (o6 b) (p6 b) (fun i=>lv.getD i false) a <;> rfl)
  0 (Nat.zero_le _) [] ⟨rfl,B0N o⟩
 grind
end
section
variable {b:j7}
theorem N0o(q:p8 b=true){lv:List Bool}(aA:lv.length=(lV b).length):Lh (j6 b:Int) (lV b) lv=some (T6 (M9 b lv [] (j6 b))):=by
 have hM:=R3 q;have hN:=Am b q;have z:∀i,i < (lV b).length->p6 b i<j6 b:=fun i hi=>(M8 b q hi).2.2.2;have l:((j6 b:Int)).toNat=j6 b:=rfl;unfold Lh;rw[l];refine(gP ⟨⟨by omega,rfl,by omega,by omega⟩,trivial⟩).trans ?_;exact ND (n:=j6 b) (by omega) (fun _ (a:List Nat)=>(N9 (j6 b) a,a.map (fun v:Nat=>(v:Int))))
  (fun _ a=>(M4 (lV b).length (j6 b) (o6 b) (p6 b) (fun i=>lv.getD i false) a).map fun v=>a++[v]) (fun _ _=>some ([],false))
  (fun i a=>a.length=i/\∀v∈a,v<j6 b)
  (J:=fun a=>some (a.map (fun v:Nat=>(v:Int)),true)) (F:=ZZ (lV b) lv (j6 b:Int))
  (fun g i a hi j=>by
    obtain⟨x,s⟩:=j;have t:=fun w=>Nx s w;refine(if_pos (decide_eq_true (by rw[List.length_map]; omega))).trans ?_;rw[l];refine(gP ⟨⟨by omega,rfl,by omega,by omega⟩,trivial⟩).trans ?_;refine(lF (n:=(lV b).length) (by omega) (fun k (w:List Bool)=>((k:Int),w)) (FW (o6 b) (p6 b) (fun i=>lv.getD i false) a) (fun _ w=>w.length=j6 b) (J:=fun w=>Lg (N9 (j6 b) a) (a.map fun v:Nat=>(v:Int)) (j6 b:Int) g w) (F:=ZY (lV b) lv (N9 (j6 b) a) (a.map fun v:Nat=>(v:Int)) (j6 b:Int) g) (fun E k w H c=>?_) (fun k w _ c=>?_) (fun E w _=>if_neg (by simp)) (List.replicate (j6 b) false) List.length_replicate).trans ?_
    ·have r:((k:Int)).toNat=k:=rfl;obtain⟨X,P,f3,f4⟩:=M8 b q H;have G:Int.toNat ((o6 b k:Nat):Int)=o6 b k:=rfl;have T:Int.toNat ((p6 b k:Nat):Int)=p6 b k:=rfl;have Y:=(t (o6 b k)).1;refine(if_pos (decide_eq_true (by omega))).trans ?_;rw[r,X,P,G,T,(t (o6 b k)).2];refine(gP ⟨oo,(fun _=>oo),(fun _=>oo),(fun _=>by omega),trivial⟩).trans ?_;unfold FW;by_cases d:(lv.getD k false&&!a.contains (o6 b k))=true
     ·rw[if_pos d,if_pos d];refine(gP ⟨oo,oo,by omega,trivial⟩).trans ?_;exact gP ⟨oo,trivial⟩
     ·rw[if_neg d,if_neg d];exact gP ⟨oo,trivial⟩
    ·unfold FW;split
     ·rw[List.length_set]; exact c
     ·exact c
    ·show Lg _ _ _ g _=_;rw[Lg,<- t0j (lv:=fun i=>lv.getD i false) (fr:=o6 b) z s];have W:=(p0m (fr:=o6 b) (lv:=fun i=>lv.getD i false) z a 0 _ (Nat.le_refl _)).1;generalize fN (FW (o6 b) (p6 b) (fun i=>lv.getD i false) a) (lV b).length (List.replicate (j6 b) false)=w at W;have Y:=(t 0).1;have m:=Ke (n:=j6 b) (by omega) (fun v=>!((N9 (j6 b) a).getD v false||w.getD v false)) (fun v=>IY (N9 (j6 b) a) (a.map fun v:Nat=>(v:Int)) (j6 b:Int) g (v:Int)) (e:=some ([],false)) (F:=ZX (N9 (j6 b) a) (a.map fun v:Nat=>(v:Int)) (j6 b:Int) w g) 0 (Nat.zero_le _) (fun V v _ u=>by
      have r:((v:Int)).toNat=v:=rfl;have f:decide ((v:Int) < (j6 b:Int))=true:=decide_eq_true (by omega);refine(gP ⟨(fun _=>oo),(fun _=>by omega),(fun _=>oo),(fun _=>by omega),trivial⟩).trans ?_;rw[r,f,Bool.true_and];by_cases d:((N9 (j6 b) a).getD v false||w.getD v false)=true
      ·rw[if_pos d,if_neg (by rw[d]; decide)];exact gP ⟨oo,trivial⟩
      ·rw[if_neg d,if_pos (by rw[Bool.eq_false_iff.2 d]; rfl)]) (fun V=>by
      have f:decide ((j6 b:Int) < (j6 b:Int))=false:=decide_eq_false (by omega);refine(gP ⟨(fun h=>by rw[f] at h; cases h.1),(fun h=>by rw[f] at h; cases h.1),(fun h=>by rw[f] at h; cases h.2.1),(fun h=>by rw[f] at h; cases h.2.1),trivial⟩).trans ?_;rw[f,Bool.false_and];refine(if_neg (by decide)).trans ?_;rw[IY];exact if_pos (beq_self_eq_true _))
     rw[Nat.sub_zero,<- List.range_eq_range'] at m;refine Eq.trans m ?_;cases hn:(List.range (j6 b)).find? fun v=>!((N9 (j6 b) a).getD v false||w.getD v false) with
     | none=>rfl
     | some v =>
       have u:=List.mem_range.1 (List.mem_of_find?_eq_some hn);have r:((v:Int)).toNat=v:=rfl;show IY (N9 (j6 b) a) (a.map fun v:Nat=>(v:Int)) (j6 b:Int) g (v:Int)=g (N9 (j6 b) (a++[v]),(a++[v]).map fun v:Nat=>(v:Int));rw[IY,m0Z,List.map_append];refine(if_neg (by rw[beq_iff_eq]; omega)).trans ?_;refine(gP ⟨oo,by omega,trivial⟩).trans ?_;exact gP ⟨⟨by simp only[List.length_singleton,List.length_map]; omega,by simp only[List.length_singleton,List.length_map]; omega⟩,trivial⟩)
  (fun i a y hi j o=>by
    obtain⟨x,s⟩:=j;cases hn:M4 (lV b).length (j6 b) (o6 b) (p6 b) (fun i=>lv.getD i false) a with
    | none=>rw[hn] at o; cases o
    | some v =>
      rw[hn] at o;cases o;obtain⟨Q,n2⟩:=Nw hn;refine⟨by simp[x],fun w c=>?_⟩;rcases List.mem_append.1 c with c | c
      ·exact s w c
      ·cases List.mem_singleton.1 c; exact Q)
  (fun g a j=>by
    refine(if_neg ?_).trans rfl;simp[j.1])
  (fun i a=>some (T6 (M9 b lv a (j6 b-i)))) (fun a _=>by
    rw[Nat.sub_self]; rfl)
  (fun i a hi j=>by
    have e:j6 b-i=(j6 b-(i+1))+1:=by omega
    show some (T6 (AN _ _ _ _ _ (j6 b-i) a))=_;rw[e,Xi];cases M4 (lV b).length (j6 b) (o6 b) (p6 b) (fun i=>lv.getD i false) a <;> rfl)
  0 (Nat.zero_le _) [] ⟨rfl,fun v u=>nomatch u⟩
theorem NE(M:Nat)(br:List Int):(C4 M br).length=M:=FO _ _
end
def DQ(b:j7)(br:List Int):Int:=if p8 b=true then(if An (lV b).length br=true then 0 else 2) else 1
theorem r71(b:j7)(a:wf k8 b)(d:cnt k8 b<=1048576)(br:List Int)(c:br.length<=1048576):Fu b br=some (DQ b br):=by
 unfold Fu DQ;rw[JO b a d,vS,gP ⟨rfl,trivial⟩];cases hb:p8 b with
 | false=>rfl
 | true =>
   have e:=R3 hb;refine(if_neg (by simp)).trans ?_;rw[Nj b a hb,vS,L0L _ br (by omega) c,gP ⟨rfl,rfl,trivial⟩,lE,L0L _ br (by omega) c,vS];cases An (lV b).length br <;> rfl
theorem z0J{b:j7}{br:List Int}(h:DQ b br=0):p8 b=true/\An (lV b).length br=true:=by
 unfold DQ at h;split at h
 ·rename_i c;split at h
  ·rename_i a; exact⟨c,a⟩
  ·cases h
 ·cases h
def Xj(b:j7)(br:List Int):List Int×Int:=if DQ b br=0 then(if(T6 (M9 b (C4 (lV b).length br) [] (j6 b))).2=true then((T6 (M9 b (C4 (lV b).length br) [] (j6 b))).1,0) else([],7)) else([],DQ b br)
theorem r72(b:j7)(c:wf k8 b)(e:cnt k8 b<=1048576)(br:List Int)(d:br.length<=1048576):Lx b br=some (Xj b br):=by
 unfold Lx Xj;rw[r71 b c e br d,vS,gP ⟨rfl,trivial⟩,lE];by_cases h:DQ b br=0
 ·obtain⟨a,f⟩:=z0J h;have g:=R3 a;rw[h];refine(if_neg (by decide)).trans ?_;rw[Nj b c a,vS,gP ⟨rfl,trivial⟩,lE,Rn b c a,vS,Xf _ _ (by omega) d,vS,N0o a (NE _ _),vS];refine(gP ⟨rfl,rfl,rfl,trivial⟩).trans ?_;rw[lE,if_pos rfl];cases h2:(T6 (M9 b (C4 (lV b).length br) [] (j6 b))).2
  ·refine(if_pos (by simp[h2])).trans ?_;rfl
  ·refine(if_neg (by simp[h2])).trans ?_;rfl
 ·rw[if_neg h];exact if_pos (by simp[h])
theorem E0F{M:List l8}(k:M.length<=6000){l:List Int}{s:l6}(h:Sd s)(j:l.length<=6000) :
  (∃r,PX M (s.1,s.2.1,s.2.2,l)=some r/\(Sd r.2/\r.1.length<=6001))/\∃r,PY M (s.1,s.2.1,s.2.2,l)=some r/\(Sd r.2/\r.1.length<=6001):=by
 obtain⟨v,m,d,a,-,-,-⟩:=z7 (n:=12) h (by omega);obtain⟨q,i,e,b,qa,qb,-⟩:=z7 (n:=2) a (by omega);have qb:=qb (by omega);have c:c9 ((M.length:Int)*q):=by
  have g:(M.length:Int)*q<=6000*1:=Int.mul_le_mul (by omega) (by omega) qa (by omega);have f:0<=(M.length:Int)*q:=Int.mul_nonneg (by omega) qa;exact oo
 constructor
 ·unfold PX;simp only[d,vS,Option.isSome_some];refine l5 ⟨trivial,trivial⟩ (x7 ?_);dsimp only;split
  ·simp only[e,vS,Option.isSome_some];refine l5 ⟨trivial,c,⟨by rw[List.length_singleton]; omega,by rw[List.length_singleton]; omega⟩,trivial⟩ (x7 ?_);exact⟨_,rfl,b,by simp only[List.length_append,List.length_singleton]; omega⟩
  ·exact⟨_,rfl,a,by simp only; omega⟩
 ·unfold PY;simp only[d,vS,Option.isSome_some];refine l5 ⟨trivial,trivial⟩ (x7 ?_);dsimp only;split
  ·simp only[e,vS,Option.isSome_some];refine l5 ⟨trivial,c,⟨by rw[List.length_singleton]; omega,by rw[List.length_singleton]; omega⟩,trivial⟩ (x7 ?_);exact⟨_,rfl,b,by simp only[List.length_append,List.length_singleton]; omega⟩
  ·exact⟨_,rfl,a,by simp only; omega⟩
theorem I0w{s:l6}(h:Sd s){b:j7}(q:wf k8 b)(H:cnt k8 b<=20000):∃r,Jn s b=some r/\(Sd r.2/\r.1.length<=6001):=by
 unfold Jn;simp only[JO b q (Nat.le_trans H (by decide)),vS,Option.isSome_some];cases hb:p8 b with
 | false =>
   refine l5 ⟨trivial,trivial⟩ ?_;rw[if_pos (by decide)];refine l5 trivial ?_;rw[if_pos (by decide)];exact⟨_,rfl,h,by simp⟩
 | true =>
   have Q:=R3 hb;obtain⟨v,s0,z,a,-,-,-⟩:=z7 (n:=3) h (by omega);obtain⟨u,s1,P,f,a1,y,-⟩:=z7 (n:=8) a (by omega);have y:=y (by omega);obtain⟨V,s2,F,d,X,o,-⟩:=z7 (n:=1+u) f (by omega);have o:=o (by omega);refine l5 ⟨trivial,trivial⟩ ?_;rw[if_neg (by decide)];simp only[z,vS,Option.isSome_some];refine l5 ⟨⟨trivial,trivial⟩,trivial⟩ ?_;split
   ·exact x7 ⟨_,rfl,a,by simp⟩
   ·simp only[Nj b q hb,vS,Option.isSome_some];refine l5 ⟨trivial,trivial⟩ (x7 ?_);dsimp only;simp only[P,vS,Option.isSome_some];refine l5 ⟨trivial,oo,trivial⟩ (x7 ?_);dsimp only;simp only[F,vS,Option.isSome_some];refine l5 ⟨trivial,trivial⟩ (x7 ?_);dsimp only;refine P2 (fun x=>(7000-x.1).toNat) (fun x=>Sd (x.2.1,x.2.2.1,x.2.2.2.1)/\0<=x.1/\x.1<=6100/\(x.2.2.2.2.length:Int)<=x.1/\x.2.2.2.2.length<=6000) ?_ ⟨d,by simp only; omega,by simp only; omega,by simp; omega,by simp⟩ (by simp only; omega);rintro g ⟨i,c,j,m,l⟩ ⟨k,i2,i3,i4,i5⟩ E;simp only at k i2 i3 i4 i5;unfold G0m;dsimp only;split
    ·rename_i t;have t:=of_decide_eq_true t;obtain⟨T,Y,G,e,W,w,-⟩:=z7 (n:=1+u) k (by omega);have w:=w (by omega);refine l5 ⟨⟨by rw[List.length_singleton]; omega,by rw[List.length_singleton]; omega⟩,trivial⟩ ?_;simp only[G,vS,Option.isSome_some];refine l5 ⟨trivial,oo,oo,trivial⟩ (x7 ?_);exact E _ ⟨e,by simp only; omega,by simp only; omega,by simp only[List.length_append,List.length_singleton]; omega,by simp only[List.length_append,List.length_singleton]; omega⟩ (by simp only; omega)
    ·exact(E0F Q (s:=(c,j,m)) k i5).2
theorem wf9{v:j7×l6}(h:Ic (QE v)):wf k8 v.1:=⟨h.1,⟨h.2.1,h.2.2.1,h.2.2.2.1⟩,h.2.2.2.2.1⟩
section
variable [Alw]
end
section
variable {b:j7}
end
theorem Ro{b:j7}(c:p8 b=true)(a:Int):Y4 (m9 b) a=some (m0 a 0 ((j6 b:Int)-1)):=by
 have d:=Am b c;unfold Y4;rw[Xc b c,vS];refine(gP ⟨rfl,oo,rfl,trivial⟩).trans ?_;rw[Y7,vS]
section
variable {b:j7}
theorem y0q(c:p8 b=true){lv:List Bool}(k:lv.length=(lV b).length)(a:Nat):Qh (m9 b,lv) (a:Int)=some (H6 (fun i=>lv.getD i false&&p6 b i==a) (lV b).length):=by
 have m:=R3 c;refine(lF (n:=(lV b).length) (by omega) (fun i (s:List Int)=>(s,(i:Int))) (fun i s=>if(lv.getD i false&&p6 b i==a)=true then s++[(i:Int)] else s) (fun i s=>s.length<=i) (J:=fun s=>some s) (F:=j0W (m9 b,lv) (a:Int)) (fun g i s hi e=>?_) (fun i s _ e=>?_) (fun g s _=>if_neg (by simp[m9])) [] (Nat.le_refl _)).trans (congrArg some (Gd _ _))
 ·have l:((i:Int)).toNat=i:=rfl;have d:ix (i:Int) (m9 b).2.2.1.length:=⟨by omega,by show(i:Int) < ((lV b).length:Int); omega⟩;refine(if_pos (decide_eq_true d.2)).trans ((gP ⟨d,trivial⟩).trans ?_);rw[lE];refine(gP ⟨⟨by omega,by show(i:Int) < (lv.length:Int); omega⟩,(fun _=>rfl),trivial⟩).trans ?_;obtain⟨_,f,_⟩:=M8 b c hi;have j:(((lV b).getD i (b7 y80)).2.1==(a:Int))=(p6 b i==a):=by
   rw[f,Bool.eq_iff_iff,beq_iff_eq,beq_iff_eq]; omega
  show(if(lv.getD i false&&(((lV b).getD i (b7 y80)).2.1==(a:Int)))=true then _ else _)=_;rw[j];by_cases h:(lv.getD i false&&p6 b i==a)=true
  ·rw[if_pos h,if_pos h];refine(gP ⟨⟨by simp only[List.length_singleton]; omega,by simp only[List.length_singleton]; omega⟩,trivial⟩).trans ?_;exact gP ⟨oo,trivial⟩
  ·rw[if_neg h,if_neg h];exact gP ⟨oo,trivial⟩
 ·show(if(lv.getD i false&&p6 b i==a)=true then s++[(i:Int)] else s).length<=i+1;split
  ·rw[List.length_append,List.length_singleton]; omega
  ·omega
theorem r98(d:p8 b=true){lv:List Bool}(c:lv.length=(lV b).length)(a:Nat):Mv (m9 b,lv) (a:Int)=some (H6 (fun i=>lv.getD i false&&p6 b i==a) (lV b).length):=by
 unfold Mv;rw[y0q d c,vS,gP ⟨rfl,trivial⟩,lE]
end
theorem Ie{e:Ty}:wf (.sl e) []:=⟨Nat.zero_le _,fun _ h=>nomatch h⟩
theorem Rp:∀(N:Nat) (l:List Nat),l.Nodup->(∀v∈l,v<N)->l.length<=N
 | 0,l,_,h=>by
   cases l with
   | nil=>exact Nat.le_refl _
   | cons a r=>exact(Nat.not_lt_zero _ (h a (by simp))).elim
 | N+1,l,hd,h=>by
   by_cases c:N∈l
   ·have f:=Rp N (l.erase N) (hd.erase N) (fun v b=>by
     have d:=(hd.mem_erase_iff).1 b;have:=h v d.2;have:=d.1;omega)
    have:=List.length_erase_of_mem c;have:0<l.length:=List.length_pos_of_mem c;omega
   ·have:=Rp N l hd (fun v b=>by
     have f:=h v b;have:v≠N:=fun e=>c (e ▸ b);omega)
    omega
theorem y0G{l:List Nat}(h:l.Nodup){p q:Nat}(b:p<q)(a:q<l.length):l.getD p 0≠l.getD q 0:=by
 have:=List.pairwise_iff_getElem.1 h p q (by omega) a b;rw[gq,List.getElem?_eq_getElem (by omega),gq,List.getElem?_eq_getElem a];exact this
theorem D0J{l:List Nat}{v:Nat}(h:v∈l):∃p,p<l.length/\l.getD p 0=v:=by
 obtain⟨p,a,e⟩:=List.getElem_of_mem h;exact⟨p,a,by rw[gq,List.getElem?_eq_getElem a]; exact e⟩
structure OGood(M N:Nat)(fr to:Nat->Nat)(lv:Nat->Bool)(out:List Nat):Prop where
 nd:out.Nodup
 lt:∀v∈out,v<N
 bef:∀i,i<M->lv i=true->∀q,q<out.length->out.getD q 0=to i->∃p,p<q/\out.getD p 0=fr i
theorem Xk{l:List Nat}{v q:Nat}(h:q<l.length):(l++[v]).getD q 0=l.getD q 0:=by
 rw[gq,gq,List.getElem?_append_left h]
theorem v0R{l:List Nat}{v:Nat}:(l++[v]).getD l.length 0=v:=by
 rw[gq,List.getElem?_append_right (Nat.le_refl _),Nat.sub_self];rfl
theorem OGood.snoc{M N:Nat}{fr to:Nat->Nat}{lv:Nat->Bool}{d:List Nat}(h:OGood M N fr to lv d){v:Nat}(t:v<N)(r:v ∉ d)(k:X3 M fr to lv d v=0):OGood M N fr to lv (d++[v]):=by
 refine⟨?_,fun w f=>?_,fun i hi l q u e=>?_⟩
 ·rw[List.nodup_append];exact⟨h.nd,by simp,fun a o b m=>fun e=>r (by rw[<- List.mem_singleton.1 m,<- e]; exact o)⟩
 ·rcases List.mem_append.1 f with f | f
  ·exact h.lt w f
  ·rw[List.mem_singleton.1 f]; exact t
 ·rw[List.length_append,List.length_singleton] at u;by_cases c:q<d.length
  ·rw[Xk c] at e;obtain⟨p,g,j⟩:=h.bef i hi l q c e;exact⟨p,g,by rw[Xk (by omega)]; exact j⟩
  ·have c:q=d.length:=by omega
   subst c;rw[v0R] at e;unfold X3 at k;rw[List.countP_eq_zero] at k;have n:=k i (List.mem_range.2 hi);have s:fr i∈d:=by simpa [l,e] using n
   obtain⟨p,g,j⟩:=D0J s;exact⟨p,g,by rw[Xk g]; exact j⟩
theorem y0u{M N:Nat}{fr to:Nat->Nat}{lv:Nat->Bool}:∀(k:Nat) (out l:List Nat),OGood M N fr to lv out->AN M N fr to lv k out=some l->OGood M N fr to lv l/\l.length=out.length+k:=by
 intro k
 induction k with
 | zero=>intro out l h e; cases e; exact⟨h,rfl⟩
 | succ k g =>
   intro out l h e;rw[Xi] at e;cases hn:M4 M N fr to lv out with
   | none=>rw[hn] at e; cases e
   | some v =>
     rw[hn] at e;obtain⟨d,c⟩:=Nw hn;have f:X3 M fr to lv out v=0:=by
      unfold M4 at hn;have:=List.find?_some hn;simp only[ba,beq_iff_eq] at this;exact this.2
     obtain⟨b,a⟩:=g (out++[v]) l (h.snoc d c f) e;exact⟨b,by rw[a,List.length_append,List.length_singleton]; omega⟩
theorem n13(b:j7)(a:wf k8 b)(d:cnt k8 b<=1048576)(c:p8 b=true):Me b=some (j6 b:Int):=by
 unfold Me;rw[JO b a d,vS,c,Rn b a c,vS,gP ⟨rfl,trivial⟩];exact(if_neg (by decide)).trans (gP ⟨rfl,trivial⟩)
theorem r0e(l:List Nat)(i:Nat):(l.map (fun v:Nat=>(v:Int))).getD i 0=(l.getD i 0:Int):=by
 rw[gq,gq,List.getElem?_map];cases l[i]? <;> rfl
section
variable {b:j7}
def F1(b:j7)(c:p7)(k:Nat)(sp:Sp):Sp×Sp:=vl (Dv (m9 b) c (k:Int) sp)
theorem Xm{k:Nat}(a:k < (lV b).length):m0 (k:Int) 0 (((lV b).length:Int)-1)=true:=z8.2 oo
theorem Xn(g:wf k8 b)(j:cnt k8 b<=1048576)(f:p8 b=true){c:p7}(a:wf p5 c)(i:F6 c=true){k:Nat}(d:k < (lV b).length):∃dv lv,SpanV b c (k:Int) dv lv/\∀sp,B0 sp=true->F1 b c k sp=AP dv lv sp/\Dv (m9 b) c (k:Int) sp=some (F1 b c k sp):=by
 obtain⟨dv,lv,h⟩:=H0y g j f a i (Xm d);refine⟨dv,lv,h,fun sp e=>?_⟩;have:=h.spans (Xm d) e;unfold F1;rw[this];exact⟨rfl,rfl⟩
theorem Rq(i:wf k8 b)(l:cnt k8 b<=1048576)(f:p8 b=true){c:p7}(a:wf p5 c)(j:F6 c=true){k:Nat}(g:k < (lV b).length){sp:Sp}(d:B0 sp=true):0<=(F1 b c k sp).1.1/\(F1 b c k sp).1.1<=(F1 b c k sp).1.2/\(F1 b c k sp).1.2<=5000000/\B0 (F1 b c k sp).2=true:=by
 obtain⟨m,n,h,e⟩:=Xn i l f a j g;rw[(e sp d).1];exact h.ok d
theorem m0w{s t:Sp}(a:B0 s=true)(b:B0 t=true):B0 (M5 s t)=true:=by
 grind[B0,C1,M5]
def Bx(x:r6):Bool:=C1 x.1
abbrev J7(b:j7)(br:List Int):Nat->Bool:=fun i=>(C4 (lV b).length br).getD i false
def O2(b:j7)(c:p7)(br:List Int)(ss:List M6)(T:Nat->Option r6)(v:Nat):Option r6:=AO (lV b).length (o6 b) (p6 b) (J7 b br) (F1 b c) (M7 ss) T v
def By(b:j7)(c:p7)(br:List Int)(ss:List M6)(out:List Nat):Option (Nat->Option r6):=Aj (lV b).length (o6 b) (p6 b) (J7 b br) (F1 b c) (M7 ss) Bx out fun _=>none
structure OrdOk(b:j7)(br:List Int)(out:List Nat):Prop where
 nd:out.Nodup
 ahead:JY (lV b).length (o6 b) (p6 b) (J7 b br) [] out
 all:∀v,v<j6 b->v∈out
 lt:∀v∈out,v<j6 b
theorem z0Q{M:Nat}{fr to:Nat->Nat}{lv:Nat->Bool}{N:Nat}{a:List Nat}(h:OGood M N fr to lv a):JY M fr to lv [] a:=by
 have c:∀(r d:List Nat),a=d++r->JY M fr to lv d r:=by
  intro r
  induction r with
  | nil=>intro d _; trivial
  | cons v r l =>
    intro d e;refine⟨fun k i m j=>?_,l (d++[v]) (by rw[e,List.append_assoc]; rfl)⟩;have n:a.getD d.length 0=v:=by rw[e,gq,List.getElem?_append_right (Nat.le_refl _),Nat.sub_self]; rfl
    have f:d.length<a.length:=by rw[e,List.length_append,List.length_cons]; omega
    obtain⟨p,b,g⟩:=h.bef k i m d.length f (by rw[n,j]);rw[<- g,e,gq,List.getElem?_append_left b,List.getElem?_eq_getElem b];exact List.getElem_mem b
 exact c a [] rfl
theorem H0O(_:p8 b=true){br:List Int}{a:List Nat}(h:M9 b (C4 (lV b).length br) [] (j6 b)=some a):OrdOk b br a:=by
 have g:OGood (lV b).length (j6 b) (o6 b) (p6 b) (J7 b br) []:=⟨List.nodup_nil,fun _ h=>(by cases h),fun i _ _ q k=>(Nat.not_lt_zero _ k).elim⟩;obtain⟨c,j⟩:=y0u (j6 b) [] a g h;rw[List.length_nil,Nat.zero_add] at j;refine⟨c.nd,z0Q c,fun v l=>?_,c.lt⟩;by_cases f:v∈a
 ·exact f
 ·have:=Rp (j6 b) (v :: a) (List.nodup_cons.2 ⟨f,c.nd⟩) (fun w d=>by
   rcases List.mem_cons.1 d with e | d
   ·omega
   ·exact c.lt w d)
  rw[List.length_cons] at this;omega
theorem p0P{ss:List M6}(h:∀s∈ss,C1 s.2.1=true/\B0 s.2.2=true)(v:Nat)(x:r6)(a:M7 ss v=some x):C1 x.1=true/\B0 x.2=true:=by
 grind[p0Q]
theorem Xo{c:p7}{br:List Int}{ss:List M6}{a:List Nat}(d:OrdOk b br a){T:Nat->Option r6}(h:By b c br ss a=some T):∀v,v<j6 b->T v=O2 b c br ss T v/\CP Bx (T v)=true:=fun v e=>k0g a [] (fun _=>none) T d.nd d.ahead h v (d.all v e)
theorem r0X(l:wf k8 b)(n:cnt k8 b<=1048576)(i:p8 b=true){c:p7}(g:wf p5 c)(m:F6 c=true){br:List Int}{ss:List M6}(f:∀s∈ss,C1 s.2.1=true/\B0 s.2.2=true){d:List Nat}{T:Nat->Option r6}(h:By b c br ss d=some T)(v:Nat)(x:r6)(a:T v=some x):B0 x.2=true :=
 p0Z (fun x=>B0 x.2=true) (fun v x a=>(p0P f v x a).2) (fun x y a o=>m0w a o) (fun k x j _ a=>(Rq l n i g m j a).2.2.2) d (fun _=>none) T (fun _ _ e=>by cases e) h v x a
end
theorem s0o{a:Type}(p:Nat->Bool)(g:Nat->a->a)(M:Nat)(s:a):fN (fun i s=>g (((List.range M).filter p).getD i 0) s) ((List.range M).filter p).length s=fN (fun k s=>if p k=true then g k s else s) M s:=by
 rw[Xg (fun s k=>g k s)]
 induction M with
 | zero=>rfl
 | succ M b =>
   rw[List.range_succ,List.filter_append,List.foldl_append,b];show _=if p M=true then g M (fN (fun k s=>if p k=true then g k s else s) M s) else fN (fun k s=>if p k=true then g k s else s) M s
   by_cases c:p M=true
   ·rw[if_pos c,List.filter_cons_of_pos c]; rfl
   ·rw[if_neg c,List.filter_cons_of_neg c]; rfl
theorem k0s(a b:Sp):M5 a b=M5 b a:=by
 unfold M5;rw[Int.min_comm,Int.max_comm]
section
variable {M:Nat} {fr to:Nat->Nat} {lv:Nat->Bool} {sp:Nat->Sp->Sp×Sp} {src:Nat->Option r6}
theorem y0s(P Q:r6->Prop)(g:∀v x,src v=some x->Q x)(h:∀x y,Q x->Q y->Q (M5 x.1 y.1,M5 x.2 y.2))(i:∀k x,k<M->lv k=true->P x->Q (O0 x.1 (sp k x.2).1,(sp k x.2).2)){T:Nat->Option r6}(f:∀v x,T v=some x->P x)(v:Nat):∀m,m<=M->∀x,fN (Cc fr to lv sp T v) m (src v)=some x->Q x:=by
 intro m l;refine WR (fun o:Option r6=>∀x,o=some x->Q x) m _ (g v) fun k o j b=>?_;unfold Cc;split
 ·rename_i c;simp only[ba,beq_iff_eq] at c;cases e:T (fr k) with
  | none=>exact b
  | some y =>
    intro x a;have d:=i k y (by omega) c.1 (f _ _ e);cases o with
    | none =>
      have a:some (O0 y.1 (sp k y.2).1,(sp k y.2).2)=some x:=a;cases a;exact d
    | some z =>
      have a:some (M5 z.1 (O0 y.1 (sp k y.2).1),M5 z.2 (sp k y.2).2)=some x:=a;cases a;exact h _ _ (b z rfl) d
 ·exact b
end
section
variable {b:j7}
def F0t(x:r6):Prop:=(-1000000000<=x.1.1/\x.1.1<=x.1.2/\x.1.2<=1005000000)/\B0 x.2=true
theorem NF{s:Sp}:C1 s=true ↔ -1000000000<=s.1/\s.1<=s.2/\s.2<=1000000000:=by
 unfold C1;simp only[ba,dq,z8];omega
theorem y0H(n:wf k8 b)(r:cnt k8 b<=1048576)(j:p8 b=true){c:p7}(f:wf p5 c)(q:F6 c=true){br:List Int}{ss:List M6}(e:∀s∈ss,C1 s.2.1=true/\B0 s.2.2=true){T:Nat->Option r6}(i:∀v x,T v=some x->C1 x.1=true/\B0 x.2=true)(v:Nat):∀m,m<=(lV b).length->∀x,fN (Cc (o6 b) (p6 b) (J7 b br) (F1 b c) T v) m (M7 ss v)=some x->F0t x :=
 y0s (fun x=>C1 x.1=true/\B0 x.2=true) F0t (fun v x a=>by
  have h:=p0P e v x a;have d:=NF.1 h.1;exact⟨⟨d.1,d.2.1,by omega⟩,h.2⟩) (fun x y a g=>by
  refine⟨?_,m0w a.2 g.2⟩;have:=a.1;have:=g.1;unfold M5;simp only;omega) (fun k x l _ a=>by
  have o:=Rq n r j f q l a.2;refine⟨?_,o.2.2.2⟩;have d:=NF.1 a.1;unfold O0;simp only;omega) i v
structure Kg(N:Nat)(t:Kb):Prop where
 l1:t.1.length=N
 l2:t.2.1.length=N
 l3:t.2.2.length=N
 vals:∀v,v<N->C1 (t.2.1.getD v (0,0))=true/\B0 (t.2.2.getD v (0,0))=true/\(t.1.getD v false=false->t.2.1.getD v (0,0)=(0,0)/\t.2.2.getD v (0,0)=(0,0))
theorem Xp{N:Nat}{T:Nat->Option r6}(h:∀v,v<N->∀x,T v=some x->C1 x.1=true/\B0 x.2=true):Kg N (r7 N T):=by
 refine⟨FZ.1,FZ.2.1,FZ.2.2,fun v a=>?_⟩;unfold r7;simp only;rw[DO _ N _ a,DO _ N _ a,DO _ N _ a];cases e:T v with
 | none=>exact⟨rfl,rfl,fun _=>⟨rfl,rfl⟩⟩
 | some x=>exact⟨(h v a x e).1,(h v a x e).2,fun b=>(by cases b)⟩
theorem u0M(i:wf k8 b)(k:cnt k8 b<=1048576)(g:p8 b=true){c:p7}(e:wf p5 c)(j:F6 c=true){br:List Int}{ss:List M6}(d:∀s∈ss,C1 s.2.1=true/\B0 s.2.2=true){a:List Nat}(m:OrdOk b br a){T:Nat->Option r6}(h:By b c br ss a=some T):Kg (j6 b) (r7 (j6 b) T) :=
 Xp fun v l x f=>by
  refine⟨?_,r0X i k g e j d h v x f⟩;have:=(Xo m h v l).2;rw[f] at this;exact this
end
theorem E0b{d:List Nat}{v:Nat}(h:v ∉ d)(r:List Nat):(d++v :: r).idxOf v=d.length:=by
 rw[List.idxOf_append,if_neg h,List.idxOf_cons_self];omega
theorem I0f{d:List Nat}{v:Nat}(h:v∈d)(r:List Nat):(d++r).idxOf v<d.length:=by
 rw[List.idxOf_append,if_pos h];exact List.idxOf_lt_length_of_mem h
theorem n0P{M:Nat}{fr to:Nat->Nat}{lv:Nat->Bool}{k:Nat}(b:k<M)(c:lv k=true):∀(r d:List Nat),(d++r).Nodup->JY M fr to lv d r->to k∈r->fr k∈d++r/\(d++r).idxOf (fr k) < (d++r).idxOf (to k)
 | [],_,_,_,h=>by cases h
 | v :: r,d,hd,ha,h=>by
   by_cases e:to k=v
   ·have a:=ha.1 k b c e;have g:v ∉ d:=fun f=>(List.nodup_append.1 hd).2.2 v f v List.mem_cons_self rfl;rw[e,E0b g];exact⟨List.mem_append_left _ a,I0f a _⟩
   ·have:=n0P b c r (d++[v]) (by rw[List.append_assoc]; exact hd) ha.2 (List.mem_of_ne_of_mem e h)
    rwa [List.append_assoc] at this
theorem OrdOk.pos{b:j7}{br:List Int}{a:List Nat}(h:OrdOk b br a){k:Nat}(c:k < (lV b).length)(e:J7 b br k=true)(d:p6 b k<j6 b):a.idxOf (o6 b k)<a.idxOf (p6 b k)/\o6 b k<j6 b:=by
 have:=n0P c e a [] h.nd h.ahead (h.all _ d);exact⟨this.2,h.lt _ this.1⟩
theorem OrdOk.idx{b:j7}{br:List Int}{a:List Nat}(h:OrdOk b br a){v:Nat}(c:v<j6 b):a.idxOf v<a.length:=List.idxOf_lt_length_of_mem (h.all v c)
theorem Gf(s:Int×Int):K5 s=some (C1 s)/\Dp s=some (C1 s):=by
 have e:∀x,Fx x=some (m0 x (-1000000000) 1000000000):=fun _=>rfl;refine⟨?_,?_⟩
 ·unfold K5;rw[e,e,vS,vS];exact gP ⟨rfl,fun _=>rfl,trivial⟩
 ·unfold Dp;rw[S9,S9,vS,vS];exact gP ⟨rfl,fun _=>rfl,trivial⟩
def Gg(n:Int)(l:List m6)(i:Nat):Bool:=!m0 (l.getD i (b7 y53)).1 0 (n-1)||!C1 (l.getD i (b7 y53)).2.1||!B0 (l.getD i (b7 y53)).2.2||decide (0 < (i:Int))&&decide ((l.getD i (b7 y53)).1<=(l.getD ((i:Int)-1).toNat (b7 y53)).1)
def J9(b:j7):Int:=2*((p9 b.2.1).length:Int)
def Bz(b:j7)(l:List m6):Bool:=!(List.range l.length).any (Gg (J9 b) l)
theorem R0q(b:j7)(c:p8 b=true)(a:Int):Y4 (m9 b) a=some (m0 a 0 (J9 b-1)):=by
 have e:J9 b=(j6 b:Int):=by
  unfold J9 j6;omega
 rw[e];exact Ro c a
theorem r66(b:j7)(d:p8 b=true)(l:List m6)(c:l.length<=9223372036854775807):Ho (m9 b) l=some (Bz b l):=by
 have a:=H2 (n:=l.length) c (Gg (J9 b) l) (some false) (e:=some true) (F:=G0e (m9 b) l) (fun g i hi=>by
  have f:((i:Int)).toNat=i:=rfl;refine(if_pos (by simpa using hi)).trans ?_;rw[f,gP ⟨oo,trivial⟩,lE,R0q b d,vS,(Gf _).1,vS,(WO _).1,vS,gP ⟨rfl,(fun _=>rfl),(fun _=>rfl),(fun h=>⟨by have:=of_decide_eq_true h.1; omega,by omega⟩),(fun h=>⟨by have:=of_decide_eq_true h.1; omega,by omega⟩),trivial⟩,gP ⟨oo,trivial⟩];rfl) (fun g=>aE)
 unfold Ho Bz;refine a.trans ?_;cases(List.range l.length).any (Gg (J9 b) l) <;> rfl
theorem r44(b:j7)(k:wf k8 b)(d:p8 b=true)(l:List m6)(m:l.length<=9223372036854775807):Jb b l=some (Bz b l):=by
 have a:=T4 (V5 d).1;have f:(L7 b.2.1.1.length b.2.1.2.2.length (m7 b.2.1) (A6 b.2.1)).length<=78:=a.len;have e:U5 b=some (J9 b):=by
  unfold U5;rw[DI b.2.1 k.2.1 a.fac.ni14 a.fac.np8 a.pin,vS,gP ⟨rfl,oo,trivial⟩,lE];rfl
 have o:0<=J9 b/\J9 b<=156:=by
  have:(p9 b.2.1).length<=78:=f;unfold J9;omega
 have c:=H2 (n:=l.length) m (Gg (J9 b) l) (some false) (e:=some true) (F:=G0q l (J9 b)) (fun g i hi=>by
  have j:((i:Int)).toNat=i:=rfl;refine(if_pos (by simpa using hi)).trans ?_;rw[j,S9,vS,(Gf _).2,vS,(WO _).2,vS,gP ⟨oo,oo,rfl,(fun h=>⟨by have:=of_decide_eq_true h.1; omega,by omega⟩),(fun h=>⟨by have:=of_decide_eq_true h.1; omega,by omega⟩),(fun _=>oo),(fun _=>oo),(fun _=>rfl),(fun _=>oo),(fun _=>rfl),trivial⟩,gP ⟨oo,trivial⟩];unfold Gg;cases m0 (l.getD i (b7 y53)).1 0 (J9 b-1) <;> cases C1 (l.getD i (b7 y53)).2.1 <;> cases B0 (l.getD i (b7 y53)).2.2 <;> cases decide (0 < (i:Int)) <;> cases decide ((l.getD i (b7 y53)).1<=(l.getD ((i:Int)-1).toNat (b7 y53)).1) <;> rfl) (fun g=>aE)
 unfold Jb;rw[e,vS,gP ⟨rfl,trivial⟩,lE];refine c.trans ?_;unfold Bz;cases(List.range l.length).any (Gg (J9 b) l) <;> rfl
def zs(s:Int×Int):Bool:=s.1==0&&(s.2==0&&true)
def NG(t:B3)(i:Nat):Bool:=!C1 (t.2.1.getD i (b7 y51))||!B0 (t.2.2.getD i (b7 y51))||!t.1.getD i false&&(!zs (t.2.1.getD i (b7 y51))||!zs (t.2.2.getD i (b7 y51)))
def DR(n:Int)(t:B3):Bool:=(t.1.length:Int) != n||(t.2.1.length:Int) != n||(t.2.2.length:Int) != n
def Gi(n:Int)(t:B3):Bool:=!DR n t&&!(List.range t.1.length).any (NG t)
theorem u0l{n:Int}{t:B3}(h:DR n t=false):t.2.1.length=t.1.length/\t.2.2.length=t.1.length:=by
 unfold DR at h;simp only[Bool.or_eq_false_iff,bne_eq_false_iff_eq] at h;omega
theorem r38(b:j7)(h:p8 b=true)(t:B3)(l:wf y44 t):GZ (m9 b) t=some (Gi (J9 b) t):=by
 have q:=(T4 (V5 h).1).len;have e:∀s:List B9,Jd s=some (s.length:Int):=fun _=>rfl;have j:∀s:List Bool,Jc s=some (s.length:Int):=fun _=>rfl;have d:∀s:List s9,GY s=some (s.length:Int):=fun _=>rfl;have f:O7 (m9 b)=some (J9 b):=by
  unfold O7;rw[e,vS,gP ⟨rfl,⟨by show _<=2*((p9 b.2.1).length:Int); omega,by show 2*((p9 b.2.1).length:Int)<=_; omega⟩,trivial⟩,lE];rfl
 have a:t.1.length<=9223372036854775807:=l.1.1;unfold GZ;rw[f,vS,gP ⟨rfl,trivial⟩,lE,j,d,d,vS,vS,vS,gP ⟨rfl,(fun _=>rfl),(fun _=>rfl),trivial⟩,lE];show(if DR (J9 b) t=true then some false else _)=_;unfold Gi;cases hc:DR (J9 b) t with
 | true=>rfl
 | false =>
   obtain⟨o,m⟩:=u0l hc;have c:=H2 (n:=t.1.length) a (NG t) (some false) (e:=some true) (F:=G0w t) (fun g i hi=>by
    have k:((i:Int)).toNat=i:=rfl;refine(if_pos (by simpa using hi)).trans ?_;rw[k,gP ⟨oo,trivial⟩,(Gf _).1,vS,(WO _).1,vS,gP ⟨oo,rfl,(fun _=>oo),(fun _=>rfl),(fun _=>oo),(fun _=>oo),trivial⟩,lE,gP ⟨oo,trivial⟩];rfl) (fun g=>aE)
   refine(if_neg (by simp)).trans (c.trans ?_);cases(List.range t.1.length).any (NG t) <;> rfl
section
variable {b:j7}
theorem q0v:J9 b=(j6 b:Int):=by
 unfold J9 j6;omega
theorem k0d{n:Int}{l:List m6}{i:Nat}:Gg n l i=false↔((0<=(l.getD i (b7 y53)).1/\(l.getD i (b7 y53)).1<n)/\C1 (l.getD i (b7 y53)).2.1=true/\B0 (l.getD i (b7 y53)).2.2=true)/\(0<i->(l.getD (i-1) (b7 y53)).1 < (l.getD i (b7 y53)).1):=by
 have e:((i:Int)-1).toNat=i-1:=by omega
 unfold Gg;rw[e];simp only[Bool.or_eq_false_iff,Bool.not_eq_false',Bool.and_eq_false_iff,decide_eq_false_iff_not,z8];constructor
 ·rintro⟨⟨⟨a,c⟩,d⟩,f⟩;exact⟨⟨⟨a.1,by omega⟩,c,d⟩,fun b=>by rcases f with f | f <;> omega⟩
 ·rintro⟨⟨a,c,d⟩,f⟩;refine⟨⟨⟨⟨a.1,by omega⟩,c⟩,d⟩,?_⟩;by_cases b:0<i
  ·exact .inr (by have:=f b; omega)
  ·exact .inl (by omega)
theorem x0N{l:List m6}:Bz b l=true↔∀i,i<l.length->((0<=(l.getD i (b7 y53)).1/\(l.getD i (b7 y53)).1 < (j6 b:Int))/\C1 (l.getD i (b7 y53)).2.1=true/\B0 (l.getD i (b7 y53)).2.2=true)/\(0<i->(l.getD (i-1) (b7 y53)).1 < (l.getD i (b7 y53)).1):=by
 unfold Bz;rw[Bo,q0v];exact⟨fun h i hi=>k0d.1 (h i hi),fun h i hi=>k0d.2 (h i hi)⟩
theorem u0u{l:List m6}(h:Bz b l=true):HZ l/\∀s∈l,(0<=s.1/\s.1 < (j6 b:Int))/\C1 s.2.1=true/\B0 s.2.2=true:=by
 have f:=x0N.1 h;constructor
 ·refine List.pairwise_iff_getElem.2 fun i j hi d a=>?_;have c:∀k,i<k->k<l.length->(l.getD i (b7 y53)).1 < (l.getD k (b7 y53)).1:=by
   intro k
   induction k with
   | zero=>intro o; omega
   | succ k m =>
     intro q n;have s:=(f (k+1) n).2 (by omega);rw[Nat.add_sub_cancel] at s;by_cases e:i=k
     ·subst e; exact s
     ·exact Int.lt_trans (m (by omega) (by omega)) s
  have:=c j a d
  rwa [gq,List.getElem?_eq_getElem hi,gq,List.getElem?_eq_getElem d] at this
 ·intro s g;obtain⟨i,hi,rfl⟩:=List.mem_iff_getElem.1 g;have:=(f i hi).1
  rwa [gq,List.getElem?_eq_getElem hi] at this
theorem z0U{s:Int×Int}:zs s=true↔s=(0,0):=by
 obtain⟨x,y⟩:=s;unfold zs;simp
theorem p0G{t:B3}:Gi (J9 b) t=true↔Kg (j6 b) t:=by
 have g:b7 y51=((0:Int),(0:Int)):=rfl;unfold Gi;rw[ba,Bo,q0v];have e:∀i,NG t i=false↔(C1 (t.2.1.getD i (0,0))=true/\B0 (t.2.2.getD i (0,0))=true/\(t.1.getD i false=false->t.2.1.getD i (0,0)=(0,0)/\t.2.2.getD i (0,0)=(0,0))):=fun i=>by
  unfold NG;rw[g,<- z0U,<- z0U];generalize zs (t.2.1.getD i (0,0))=z1;generalize zs (t.2.2.getD i (0,0))=z2;generalize C1 (t.2.1.getD i (0,0))=s1;generalize B0 (t.2.2.getD i (0,0))=s2;generalize t.1.getD i false=r;cases z1 <;> cases z2 <;> cases s1 <;> cases s2 <;> cases r <;> simp
 constructor
 ·rintro⟨f,j⟩;have f:DR (j6 b:Int) t=false:=by simpa using f
  unfold DR at f;simp only[Bool.or_eq_false_iff,bne_eq_false_iff_eq] at f;obtain⟨⟨a,c⟩,d⟩:=f;exact⟨by omega,by omega,by omega,fun v k=>(e v).1 (j v (by omega))⟩
 ·rintro⟨a,c,d,h⟩;refine⟨?_,fun i hi=>(e i).2 (h i (by omega))⟩;have:DR (j6 b:Int) t=false:=by
   unfold DR;rw[a,c,d];simp
  rw[this];rfl
theorem E0o{N:Nat}{T:Nat->Option r6}{v:Nat}(h:v<N):(r7 N T).1.getD v false=(T v).isSome/\(r7 N T).2.1.getD v (0,0)=((T v).getD ((0,0),(0,0))).1/\(r7 N T).2.2.getD v (0,0)=((T v).getD ((0,0),(0,0))).2:=by
 unfold r7;exact⟨DO _ N _ h,DO _ N _ h,DO _ N _ h⟩
theorem Xq{c:p7}{br:List Int}{ss:List M6}(d:p8 b=true){T U:Nat->Option r6}(h:∀v,v<j6 b->T v=U v)(v:Nat):O2 b c br ss T v=O2 b c br ss U v :=
 i0h fun _ a _ _=>h _ (M8 b d a).2.2.1
end
end Go.Proofs.YtdjgagoledoaaaaGreatDoor
end

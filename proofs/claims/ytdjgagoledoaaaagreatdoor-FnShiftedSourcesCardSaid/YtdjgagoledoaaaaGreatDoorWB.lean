/- What a table says at a place: the program's function and the reference's agree. -/
import Derived.Test.YtdjgagoledoaaaaGreatDoorWA
import Derived.Test.YtdjgagoledoaaaaGreatDoorF84c
import Derived.Test.YtdjgagoledoaaaaGreatDoorXF
import Derived.Test.YtdjgagoledoaaaaGreatDoorG84
set_option maxHeartbeats 0
section
namespace Go.Proofs.YtdjgagoledoaaaaGreatDoor
open Go Go.Proofs Go.Proofs.Xv Go.Proofs.Xl Go.Proofs.Xd
def J7(t:w8)(r q:Nat):Int:=t.2.2.getD (r*t.2.1.length+q) 0
def r4(t:w8)(r q:Nat)(w c d:Int):Int:=J7 t r q*w*c+J7 t r (q+1)*w*d
theorem Hs{t:w8}(a:C8 t=true){r q:Nat}(b:r<t.1.length)(j:q<t.2.1.length){w c:Int}(e:0<=w)(f:w<=100000)(g:0<=c)(d:c<=100000) :
  (-100000000000<=J7 t r q*w/\J7 t r q*w<=100000000000) /\ -10000000000000000<=J7 t r q*w*c/\J7 t r q*w*c<=10000000000000000:=by
 obtain⟨_,_,_,_,k,_,_⟩:=Fz a;have h:=p0M a (i:=r*t.2.1.length+q) (by have:=QN b j; omega);have m:=K9 (A:=1000000) h.1 h.2 e f (by decide);have l:=K9 (A:=100000000000) (B:=100000) (x:=J7 t r q*w) (by grind[J7]) (by grind[J7]) g d (by decide)
 grind[J7]
def Sh(n q:Nat)(c d:Int)(M:List (Int×Int)):Prop:=(c=1/\d=0/\M=[((q:Int),1)])∨(q+1<n/\0<c/\0<d/\c+d<=100000/\M=[((q:Int),c),((q:Int)+1,d)])
theorem u0S{t:w8}(a:C8 t=true){r q:Nat}(b:r<t.1.length)(g:q<t.2.1.length){w c d:Int}{M:List (Int×Int)}(h:Sh t.2.1.length q c d M)(e:0<=w)(f:w<=100000) : -20000000000000000<=r4 t r q w c d/\r4 t r q w c d<=20000000000000000:=by
 unfold r4;rcases h with ⟨rfl,rfl,_⟩ | ⟨hq1,c0,d0,hcd,_⟩
 ·have i:=(Hs a b g e f (c:=1) (by decide) (by decide)).2;rw[Int.mul_zero]; omega
 ·have i:=(Hs a b g e f (c:=c) (by omega) (by omega)).2;have j:=(Hs a b hq1 e f (c:=d) (by omega) (by omega)).2;omega
theorem Wo{t:w8}(e:C8 t=true){r q:Nat}(d:r<t.1.length)(f:q<t.2.1.length){w c:Int}(j:0<=w)(k:w<=100000)(l:0<=c)(h:c<=100000){R:Int}(u:R=(r:Int)){v1:List BN×Int}{v11:Int}{z a:Int×Int->Option Int}{s:Int}(F : -100000000000000000<=s)(T:s<=100000000000000000){i:Nat}(hi:i<v1.1.length)(H:v1.1.length<=2)
  {Q:Int} (o:Q=(q:Int)) (n:v1.1.getD i (a6 U6)=(Q,c)):IH t (R,w) v1 v11 z a (s,(i:Int))=a (s+J7 t r q*w*c,(i:Int)+1):=by
 subst u; subst o;obtain⟨_,G,_,V,P,_,v⟩:=Fz e;have m:=QN d f;have g:=Hs e d f j k l h;have x:((i:Int)).toNat=i:=rfl;have E:(r:Int)*(t.2.1.length:Int)=((r*t.2.1.length:Nat):Int):=by simp
 have y:(((r*t.2.1.length:Nat):Int)+(q:Int)).toNat=r*t.2.1.length+q:=by omega
 rw[IH,if_pos (by grind),x,gP ⟨oo,hi,trivial⟩,lE,n];unfold J7 at g ⊢;show gd (j0 ((r:Int)*(t.2.1.length:Int))/\j0 ((r:Int)*(t.2.1.length:Int)+(q:Int))/\ix ((r:Int)*(t.2.1.length:Int)+(q:Int)) t.2.2.length/\j0 (t.2.2.getD ((r:Int)*(t.2.1.length:Int)+(q:Int)).toNat 0*w)/\j0 (t.2.2.getD ((r:Int)*(t.2.1.length:Int)+(q:Int)).toNat 0*w*c)/\j0 (s+t.2.2.getD ((r:Int)*(t.2.1.length:Int)+(q:Int)).toNat 0*w*c)/\True) (lt (s+t.2.2.getD ((r:Int)*(t.2.1.length:Int)+(q:Int)).toNat 0*w*c) fun b=>gd _ (a (b,(i:Int)+1)))=_;rw[E,y,gP ⟨oo,oo,oo,oo,oo,oo,trivial⟩,lE,gP ⟨oo,trivial⟩]
theorem I0j{t:w8}{a:BN}{v1:List BN×Int}{v11:Nat}(d:v11<=2){b c:Int×Int->Option Int}{s:Int}:IH t a v1 (v11:Int) b c (s,(v1.1.length:Int))=b (s,(v11:Int)+1):=by
 rw[IH,if_neg (by simp),Ur,gP ⟨oo,trivial⟩]
theorem O4{a ρ:Type}{F:(a->Option ρ)->a->Option ρ}{n:Nat}{s:a}:J6 F (n+1) s=F (J6 F n) s:=rfl
theorem Ht:((0:Nat):Int)+1=((1:Nat):Int):=rfl
theorem Hu:((1:Nat):Int)+1=((2:Nat):Int):=rfl
theorem Wp{t:w8}(a:C8 t=true){r q:Nat}(b:r<t.1.length)(g:q<t.2.1.length){w c d:Int}{M:List (Int×Int)}(l:Sh t.2.1.length q c d M)(e:0<=w)(f:w<=100000){R T:Int}(h:R=(r:Int)){v11:Nat}(k:v11<=2){j:Int×Int->Option Int}{s:Int}(u : -50000000000000000<=s)(o:s<=50000000000000000) :
  lp (IH t (R,w) (M,T) (v11:Int) j) (s,0)=j (s+r4 t r q w c d,(v11:Int)+1):=by
 unfold r4;rcases l with ⟨rfl,rfl,rfl⟩ | ⟨hq1,c0,d0,hcd,rfl⟩
 ·refine FH 2 (by decide) fun n=>?_;rw[O4];refine(Wo (v1:=([((q:Int),1)],T)) (i:=0) (s:=s) (c:=1) a b g e f (by decide) (by decide) h (by omega) (by omega) (Nat.le_refl 1) (Nat.le_succ 1) rfl rfl).trans ?_;rw[Int.mul_zero,Int.add_zero,O4,Ht];exact I0j (v1:=([((q:Int),1)],T)) k
 ·have m:=(Hs a b g e f (c:=c) (by omega) (by omega)).2;refine FH 3 (by decide) fun n=>?_;rw[O4];refine(Wo (v1:=([((q:Int),c),((q:Int)+1,d)],T)) (i:=0) (s:=s) (c:=c) a b g e f (by omega) (by omega) h (by omega) (by omega) (Nat.le_succ 1) (Nat.le_refl 2) rfl rfl).trans ?_;rw[O4,Ht];refine(Wo (v1:=([((q:Int),c),((q:Int)+1,d)],T)) (i:=1) (s:=s+J7 t r q*w*c) (c:=d) (q:=q+1) a b hq1 e f (by omega) (by omega) h (by omega) (by omega) (Nat.le_refl 2) (Nat.le_refl 2) (Int.natCast_succ q).symm rfl).trans ?_;rw[<- Int.add_assoc,O4,Hu];exact I0j (v1:=([((q:Int),c),((q:Int)+1,d)],T)) k
theorem B0H{t:w8}(i:C8 t=true){p u r q k:Nat}(b:r=p+u)(d:r<t.1.length)(j:q<t.2.1.length){w c W:Int}(e:0<=w)(n:w<=100000)(f:0<=c)(m:c<=100000)(hW:W=w*c){h v1:Int×Int×Int}(x:h.1=(p:Int)){q0:Nat}(F:v1.1=(q0:Int))(y:q=q0+k)(E:k<=1)(V:u<=1){g:Int×Int->Option Int}{s:Int}(Q : -100000000000000000<=s)(s1:s<=100000000000000000) :
  Dl (k:Int) s t h (u:Int) v1 g W=g (s+J7 t r q*w*c,(k:Int)+1):=by
 obtain⟨_,T,_,b4,X,_,z⟩:=Fz i;have o:=QN d j;have l:=Hs i d j e n f m;subst b; subst y;have P:((p:Int)+(u:Int))*(t.2.1.length:Int)=(((p+u)*t.2.1.length:Nat):Int):=by simp
 have H:((((p+u)*t.2.1.length:Nat):Int)+(q0:Int)+(k:Int)).toNat=(p+u)*t.2.1.length+(q0+k):=by omega
 have a:W*J7 t (p+u) (q0+k)=J7 t (p+u) (q0+k)*w*c:=by grind
 rw[Dl];by_cases Y:0<W
 ·unfold J7 at l a ⊢;rw[if_pos (by grind),x,F,P,H,a,gP ⟨oo,oo,oo,oo,oo,oo,oo,trivial⟩,lE,Ir,gP ⟨oo,trivial⟩]
 ·have G:W=0:=by
   have:0<=w*c:=Int.mul_nonneg e f;omega
  have v:J7 t (p+u) (q0+k)*w*c=0:=by grind
  rw[if_neg (by grind),Ir,gP ⟨oo,trivial⟩,v,Int.add_zero]
theorem Wq{t:w8}{u k:Nat}{b v1:Int×Int×Int}(c:k<=1){a:Int×Int->Option Int}{s W:Int}(d:W=0):Dl (k:Int) s t b (u:Int) v1 a W=a (s,(k:Int)+1):=by
 subst d;rw[Dl,if_neg (by simp),Ir,gP ⟨oo,trivial⟩]
theorem B0Z{w c:Int}(e:0<=w)(d:w<=100000)(b:0<=c)(a:c<=100000):j0 (w*c)/\True:=by
 have:=K9 (A:=100000) (B:=100000) (x:=w) (y:=c) (by omega) d b a (by decide);exact⟨oo,trivial⟩
theorem QQ{t:w8}{u k:Nat}(o:k<=1){a v1:Int×Int×Int}{l b:Int×Int->Option Int}{s w e:Int}(q:(if(u:Int)=1 then a.2.2 else a.2.1)=w)(c:(if k=0 then v1.2.1 else v1.2.2)=e)(h:0<=w)(i:w<=100000)(f:0<=e)(j:e<=100000) :
  Gx t a (u:Int) v1 l b (s,(k:Int))=Dl (k:Int) s t a (u:Int) v1 b (w*e):=by
 have m:∀W,W=w->KB (k:Int) s t a (u:Int) v1 b W=Dl (k:Int) s t a (u:Int) v1 b (w*e):=by
  intro W n;subst n;rw[KB];by_cases g:k=0
  ·subst g;have d:v1.2.1=e:=c;rw[if_pos (by rfl),d,gP (B0Z h i f j)]
  ·rw[if_neg g] at c;rw[if_neg (by grind),c,gP (B0Z h i f j)]
 grind[Gx]
theorem Ws{t:w8}{u:Nat}(d:u<=1){b v1:Int×Int×Int}{a c:Int×Int->Option Int}{s:Int}:Gx t b (u:Int) v1 a c (s,((2:Nat):Int))=a (s,(u:Int)+1):=by
 rw[Gx,if_neg (by simp),Tt,gP ⟨oo,trivial⟩]
theorem B0G{t:w8}(i:C8 t=true){p u r q:Nat}(f:r=p+u)(v:u<=1)(j:r<t.1.length)(G:q<t.2.1.length){a b w c d:Int}{M:List (Int×Int)}(y:Sh t.2.1.length q c d M)(F:(if(u:Int)=1 then b else a)=w)(g:0<=w)(h:w<=100000){E:Int×Int->Option Int}{s:Int}(P : -50000000000000000<=s)(Q:s<=50000000000000000) :
  lp (Gx t ((p:Int),a,b) (u:Int) ((q:Int),c,d) E) (s,0)=E (s+r4 t r q w c d,(u:Int)+1):=by
 have o:0<=c/\c<=100000/\0<=d/\d<=100000:=by
  rcases y with ⟨rfl,rfl,_⟩ | ⟨_,_,_,_,_⟩ <;> omega
 obtain⟨m,l,x,z⟩:=o;have H:=(Hs i j G g h m l).2;refine FH 3 (by decide) fun n=>?_;rw[O4];refine(QQ (k:=0) (e:=c) (by decide) F rfl g h m l).trans ?_;refine(B0H i f j G g h m l rfl rfl (q0:=q) rfl (k:=0) rfl (by decide) v (by omega) (by omega)).trans ?_;rw[O4,Ht];refine(QQ (k:=1) (e:=d) (by decide) F rfl g h x z).trans ?_;unfold r4;rcases y with ⟨rfl,rfl,_⟩ | ⟨hq1,_,_,_,_⟩
 ·refine(Wq (by decide) (Int.mul_zero w)).trans ?_;rw[O4,Hu,Ws v,Int.mul_zero,Int.add_zero]
 ·refine(B0H i f j hq1 g h x z rfl rfl (q0:=q) rfl (k:=1) rfl (by decide) v (by omega) (by omega)).trans ?_
  grind[O4,Hu,Ws,Int.add_assoc]
theorem H0K{t:w8}{p u q:Nat}(m:u<=1){a b c d:Int}(g:(if(u:Int)=1 then b else a)=0)(j:0<=c)(h:c<=100000)(i:0<=d)(l:d<=100000){f:Int×Int->Option Int}{s:Int} :
  lp (Gx t ((p:Int),a,b) (u:Int) ((q:Int),c,d) f) (s,0)=f (s,(u:Int)+1):=by
 refine FH 3 (by decide) fun n=>?_;rw[O4];refine(QQ (k:=0) (e:=c) (by decide) g rfl (by decide) (by decide) j h).trans ?_;refine(Wq (by decide) (Int.zero_mul _)).trans ?_;rw[O4,Ht];refine(QQ (k:=1) (e:=d) (by decide) g rfl (by decide) (by decide) i l).trans ?_;refine(Wq (by decide) (Int.zero_mul _)).trans ?_
 grind[O4,Hu,Ws]
theorem Hv{xs:List Int}(x:Int)(h:G6 xs=true):∃(p:Nat) (a b:Int) (L:List (Int×Int)),p<xs.length/\Sh xs.length p a b L/\Dk xs x=some ((p:Int),a,b)/\P2 xs x=some (L,a+b):=by
 obtain⟨p,a,b,d,e,f⟩:=N0L x h;rcases f with ⟨rfl,rfl,c⟩ | ⟨c,h4,h5,h6,h7⟩
 ·exact⟨p,1,0,_,d,.inl ⟨rfl,rfl,rfl⟩,e,c⟩
 ·exact⟨p,a,b,_,d,.inr ⟨c,h4,h5,h6,rfl⟩,e,h7⟩
theorem Wt{t:w8}(e:C8 t=true){p q:Nat}(h:p<t.1.length)(g:q<t.2.1.length){a b c d:Int}{L M:List (Int×Int)}(i:Sh t.1.length p a b L)(f:Sh t.2.1.length q c d M)(T U m:Int) :
  lp (GO t (M,U) (L,T) m) (0,0)=IG (L,T) (M,U) m (r4 t p q a c d+(if b=0 then 0 else r4 t (p+1) q b c d)):=by
 have k:∀n:Nat,((n:Int)).toNat=n:=fun _=>rfl;rcases i with ⟨rfl,rfl,rfl⟩ | ⟨hp1,a0,b0,hab,rfl⟩
 ·refine FH 2 (by decide) fun n=>?_;rw[O4,GO,if_pos (by simp),gP ⟨⟨by decide,by simp⟩,by simp,trivial⟩,lE];refine(Wp (v11:=0) e h g f (w:=1) (by decide) (by decide) rfl (by decide) (by decide) (by decide)).trans ?_;rw[O4,Ht,GO,if_neg (by simp),if_pos rfl,Int.zero_add,Int.add_zero]
 ·have j:=u0S e h g f (w:=a) (by omega) (by omega);refine FH 3 (by decide) fun n=>?_;rw[O4,GO,if_pos (by simp),gP ⟨⟨by decide,by simp⟩,by simp,trivial⟩,lE];refine(Wp (v11:=0) e h g f (w:=a) (by omega) (by omega) rfl (by decide) (by decide) (by decide)).trans ?_;rw[O4,Ht,GO,if_pos (by simp),gP ⟨⟨by decide,by simp⟩,by simp,trivial⟩,lE];refine(Wp (v11:=1) e hp1 g f (w:=b) (by omega) (by omega) (Int.natCast_succ p).symm (by decide) (by omega) (by omega)).trans ?_;rw[O4,Hu,GO,if_neg (by simp),if_neg (by omega),Int.zero_add]
theorem H0L{t:w8}(f:C8 t=true){p q:Nat}(k:p<t.1.length)(j:q<t.2.1.length){a b c d:Int}{L M:List (Int×Int)}(E:Sh t.1.length p a b L)(e:Sh t.2.1.length q c d M)(m:Int) :
  lp (Is t ((p:Int),a,b) ((q:Int),c,d) m) (0,0)=OH ((p:Int),a,b) ((q:Int),c,d) m (r4 t p q a c d+(if b=0 then 0 else r4 t (p+1) q b c d)):=by
 have h:0<=a/\a<=100000/\0<=b/\b<=100000/\(b≠0->p+1<t.1.length):=by
  rcases E with ⟨rfl,rfl,_⟩ | ⟨_,_,_,_,_⟩ <;> omega
 obtain⟨o,l,x,F,i⟩:=h;have g:0<=c/\c<=100000/\0<=d/\d<=100000:=by
  rcases e with ⟨rfl,rfl,_⟩ | ⟨_,_,_,_,_⟩ <;> omega
 obtain⟨y,s,v,z⟩:=g;have G:=u0S f k j e o l;refine FH 3 (by decide) fun n=>?_;rw[O4,Is,if_pos (by simp)];refine(B0G (u:=0) (p:=p) (r:=p) (w:=a) f rfl (by decide) k j e rfl o l (by decide) (by decide)).trans ?_;rw[O4,Ht,Is,if_pos (by simp)];by_cases hz:b=0
 ·subst hz;refine(H0K (u:=1) (by decide) rfl y s v z).trans ?_;rw[O4,Hu,Is,if_neg (by simp),if_pos rfl,Int.zero_add,Int.add_zero]
 ·refine(B0G (u:=1) (p:=p) (r:=p+1) (w:=b) f rfl (by decide) (i hz) j e rfl x F (by omega) (by omega)).trans ?_;rw[O4,Hu,Is,if_neg (by simp),if_neg hz,Int.zero_add]
theorem C0j{t:w8}(a:C8 t=true){r q:Nat}(b:r<t.1.length)(c:q<t.2.1.length) : -1000000<=J7 t r q/\J7 t r q<=1000000:=by
 obtain⟨_,_,_,_,d,_,_⟩:=Fz a;exact p0M a (i:=r*t.2.1.length+q) (by have:=QN b c; omega)
theorem Wu{v w c:Int}(f : -1000000<=v)(b:v<=1000000)(d:0<=w)(e:0<=c) : -(1000000*(w*c))<=v*w*c/\v*w*c<=1000000*(w*c):=by
 have a:0<=w*c:=Int.mul_nonneg d e;rw[Int.mul_assoc];refine⟨?_,Int.mul_le_mul_of_nonneg_right b a⟩;have:=Int.mul_le_mul_of_nonneg_right f a;rw[Int.neg_mul] at this;exact this
theorem Js{t:w8}(e:C8 t=true){r q:Nat}(f:r<t.1.length)(j:q<t.2.1.length){w c d:Int}{M:List (Int×Int)}(i:Sh t.2.1.length q c d M)(b:0<=w) : -(1000000*(w*(c+d)))<=r4 t r q w c d/\r4 t r q w c d<=1000000*(w*(c+d)):=by
 unfold r4;have a:=C0j e f j;rcases i with ⟨rfl,rfl,_⟩ | ⟨hq1,c0,d0,hcd,_⟩
 ·have h:=Wu a.1 a.2 b (c:=1) (by decide);rw[Int.mul_zero,Int.add_zero,Int.add_zero]; exact h
 ·have g:=C0j e f hq1;have h:=Wu a.1 a.2 b (c:=c) (by omega);have k:=Wu g.1 g.2 b (c:=d) (by omega);rw[Int.mul_add w,Int.mul_add 1000000];omega
theorem Jt{t:w8}(f:C8 t=true)(s l m:Int):∃r,K6 t s l m=some r/\BI t s l m=some r /\ -1000000<=r/\r<=1000000:=by
 have h:G6 t.1=true/\G6 t.2.1=true:=by
  simp only[C8,ba] at f;exact⟨f.1.1.1,f.1.1.2⟩
 obtain⟨p,a,b,L,k,v,H,E⟩:=Hv s h.1;obtain⟨q,c,d,M,i,g,P,G⟩:=Hv l h.2;have n:0<=a/\0<=b/\1<=a+b/\a+b<=100000/\a<=100000/\b<=100000/\(b≠0->p+1<t.1.length):=by
  rcases v with ⟨rfl,rfl,_⟩ | ⟨_,_,_,_,_⟩ <;> omega
 have F:1<=c+d/\c+d<=100000:=by
  rcases g with ⟨rfl,rfl,_⟩ | ⟨_,_,_,_,_⟩ <;> omega
 have V:=K9 (A:=100000) (B:=100000) (x:=a+b) (y:=c+d) (by omega) (by omega) (by omega) (by omega) (by decide);have e:0 < (a+b)*(c+d):=Int.mul_pos (by omega) (by omega);have T:=Js f k i g (w:=a) (by omega);have W : -(1000000*(b*(c+d)))<=(if b=0 then 0 else r4 t (p+1) q b c d)/\(if b=0 then 0 else r4 t (p+1) q b c d)<=1000000*(b*(c+d)):=by
  by_cases hz:b=0
  ·rw[if_pos hz,hz,Int.zero_mul]; decide
  ·rw[if_neg hz]; exact Js f (n.2.2.2.2.2.2 hz) i g (by omega)
 have Q:1000000*((a+b)*(c+d))=1000000*(a*(c+d))+1000000*(b*(c+d)):=by rw[Int.add_mul,Int.mul_add 1000000]
 obtain⟨o,j⟩:=V9 (r4 t p q a c d+(if b=0 then 0 else r4 t (p+1) q b c d)) ((a+b)*(c+d)) m (by omega) (by omega) e;have u:=FI (a:=r4 t p q a c d+(if b=0 then 0 else r4 t (p+1) q b c d)) (K:=1000000) m e (by omega) (by omega);have z:j0 ((a+b)*(c+d)):=oo;have i2:j0 (a+b):=oo;have i3:j0 (c+d):=oo;refine⟨_,?_,?_,u⟩
 ·unfold K6;rw[E,gP ⟨rfl,trivial⟩,vS,lE,G,gP ⟨rfl,trivial⟩,vS,lE,Wt f k i v g,IG,o,gP ⟨z,rfl,trivial⟩,vS,lE]
 ·unfold BI;rw[H,gP ⟨rfl,trivial⟩,vS,lE,P,gP ⟨rfl,trivial⟩,vS,lE,H0L f k i v g,OH,j,gP ⟨i2,i3,z,rfl,trivial⟩,vS,lE]
end Go.Proofs.YtdjgagoledoaaaaGreatDoor
end
section
namespace Go.Proofs.YtdjgagoledoaaaaGreatDoor
open Go Go.Proofs Go.Proofs.Sv Go.Proofs.Xv Go.Proofs.Xl Go.Proofs.Xd
section
variable {b:j9}
theorem Hw(b:j9){n:Nat}(h:n<b.2.2.length):(o5 b).2.2.2.1.getD ((n:Int)).toNat 0=(z8 b n).getD 0 0/\ix (n:Int) (o5 b).2.2.2.1.length:=by
 have a:(o5 b).2.2.2.1.length=b.2.2.length:=FD _ _;exact⟨MK _ 0 _ n h,oo⟩
theorem Hx(b:j9){n:Nat}(h:n<b.2.2.length):(o5 b).2.2.2.2.1.getD ((n:Int)).toNat []=Z6 b n/\ix (n:Int) (o5 b).2.2.2.2.1.length:=by
 have a:(o5 b).2.2.2.2.1.length=b.2.2.length:=FD _ _;exact⟨MK _ [] _ n h,oo⟩
theorem H0W(i:wf l9 b)(g:p9 b=true){n k:Nat}(h:n<b.2.2.length)(X:k < (y9 b.2.1 n).length){s m:Int}(e:0<=s)(u:s<=1000000)(t:m=0∨m=1) :
  ∃r,X0 s ((Z6 b n).getD k 0) m=some r/\KA b (n:Int) (k:Int) s m=some r/\0<=r:=by
 have d:=Bq g h;obtain⟨F,G⟩:=d.delays;have c:=G (w9 b n k).toNat;have Q:=d.sn;have w:=d.wf.snkIn k (by omega);obtain⟨Y,f2,W⟩:=QP s ((B0 b n).getD (w9 b n k).toNat 0);have hs:=K9 (A:=1000000) (B:=1000000) (x:=s) (y:=s) (by omega) (by omega) (by omega) (by omega) (by decide);have q:=K9 (A:=301000000) (B:=301000000) (x:=(B0 b n).getD (w9 b n k).toNat 0) (y:=(B0 b n).getD (w9 b n k).toNat 0) (by omega) (by omega) (by omega) (by omega) (by decide);have v:0<=s*s:=Int.mul_nonneg e e;have T:0<=(B0 b n).getD (w9 b n k).toNat 0*(B0 b n).getD (w9 b n k).toNat 0:=Int.mul_nonneg c.1 c.1;obtain⟨r,z,V,P,E,o,_⟩:=K0J e u c.1 c.2 t;refine⟨r,by grind[Hl],?_,o⟩;have H:((n:Int)).toNat=n:=rfl;have f:((k:Int)).toNat=k:=rfl;have a:0<=(b.2.2.getD n (a6 l7)).2.2.2.getD k 0/\((b.2.2.getD n (a6 l7)).2.2.2.getD k 0).toNat < (B0 b n).length:=by rw[F]; exact w
 have l:k < (b.2.2.getD n (a6 l7)).2.2.2.length:=by
  show k < (m3 b n).2.2.2.length;omega
 unfold KA;rw[M0c b i d,vS,H,f,gP ⟨rfl,oo,oo,⟨a.1,by omega⟩,a.2,trivial⟩,lE];show gd (j0 (1000000*s)/\j0 (1000000*s*s)/\j0 (4*(B0 b n).getD (w9 b n k).toNat 0)/\j0 (4*(B0 b n).getD (w9 b n k).toNat 0*(B0 b n).getD (w9 b n k).toNat 0)/\j0 (1000000*s*s+4*(B0 b n).getD (w9 b n k).toNat 0*(B0 b n).getD (w9 b n k).toNat 0)/\(Cr (1000000*s*s+4*(B0 b n).getD (w9 b n k).toNat 0*(B0 b n).getD (w9 b n k).toNat 0) m).isSome=true/\(W4 (vl (Cr (1000000*s*s+4*(B0 b n).getD (w9 b n k).toNat 0*(B0 b n).getD (w9 b n k).toNat 0) m)) 1000 m).isSome=true/\True) (lt (vl (W4 (vl (Cr (1000000*s*s+4*(B0 b n).getD (w9 b n k).toNat 0*(B0 b n).getD (w9 b n k).toNat 0) m)) 1000 m)) fun j=>some j)=_;rw[P,vS,E,vS,gP ⟨oo,oo,oo,oo,oo,rfl,rfl,trivial⟩,lE]
theorem MY(g:wf l9 b)(f:p9 b=true){q:Int}(j:m0 q 0 (((lV b).length:Int)-1)=true){s m:Int}(v:0<=s)(F:s<=1000000)(E:m=0∨m=1) :
  ∃r,F9 (o5 b) q s m=some r/\Be b ((lV b).getD q.toNat (a6 y80)) s m=some r/\r<=1000000:=by
 have j:=A4.1 j;have e:ix q (o5 b).2.2.1.length:=⟨j.1,by show q < ((lV b).length:Int); omega⟩;generalize hl:(lV b).getD q.toNat (a6 y80)=l;have d:(o5 b).2.2.1.getD q.toNat (a6 y80)=l:=hl;have c:l∈lV b:=by rw[<- hl]; exact H8 (by omega)
 rcases Hq f c with ⟨a,n,h⟩ | ⟨n,k,h⟩
 ·obtain⟨t,w⟩:=CJ h.slw h.trs;obtain⟨r,P,G,V,H⟩:=Jt w s ((z8 b n).getD 0 0) m;obtain⟨i,o⟩:=Hw b h.nlt;refine⟨r,?_,?_,H⟩
  ·unfold F9;refine(gP ⟨e,trivial⟩).trans ?_;rw[lE,d,Z7 h.pix h.net,vS,gP ⟨rfl,trivial⟩,lE];refine(if_pos (by rw[h.kind]; rfl)).trans ?_;rw[Hr h,vS,i,P,vS];refine(gP ⟨rfl,by decide,t,o,rfl,trivial⟩).trans ?_;rw[lE];have:min r 1000000=r:=by omega
   rw[this]
  ·unfold Be;refine(if_pos (by rw[h.kind]; rfl)).trans ?_;rw[M0f g f h,vS,gP ⟨rfl,trivial⟩,lE];show gd (_/\ix (l.2.1.tmod 2) a.2.2.2.2.2.length/\(BI (a.2.2.2.2.2.getD (l.2.1.tmod 2).toNat (a6 y70)) s ((z8 b n).getD 0 0) m).isSome=true/\True) (lt (vl (BI (a.2.2.2.2.2.getD (l.2.1.tmod 2).toNat (a6 y70)) s ((z8 b n).getD 0 0) m)) fun T=>some T)=_;rw[G,vS,gP ⟨by decide,t,rfl,trivial⟩,lE]
 ·obtain⟨r,y,Q,W⟩:=H0W g f h.nlt h.klt v F E;obtain⟨i,o⟩:=Hx b h.nlt;have x:=Hm b n;have z:=h.klt;refine⟨min r 1000000,?_,?_,by omega⟩
  ·unfold F9;refine(gP ⟨e,trivial⟩).trans ?_;rw[lE,d,Z7 h.pix h.net,vS,gP ⟨rfl,trivial⟩,lE];refine(if_neg (by rw[h.kind]; decide)).trans ?_;rw[i,h.idx];have u:((k:Int)).toNat=k:=rfl;rw[u,y,vS];refine(gP ⟨o,oo,rfl,trivial⟩).trans ?_;rw[lE]
  ·unfold Be;refine(if_neg (by rw[h.kind]; decide)).trans ?_;rw[M0e g f h,vS,h.idx,Q,vS,gP ⟨rfl,rfl,trivial⟩,lE,Int.min_comm]
def C1(c:p8)(k m:Int):Int:=if(k==1)=true then(if(m==0)=true then c.2.1 else c.2.2.1) else(if(m==0)=true then c.2.2.2.1 else c.2.2.2.2)
theorem MZ(c:p8)(k m:Int):IJ c k m=some (C1 c k m):=by
 grind[IJ,C1]
theorem N0M(c:p8)(k m:Int):Gz c k m=some (C1 c k m):=by
 grind[Gz,C1]
def G8(c:p8):Bool:=J0 c.1&&(decide (100<=c.2.1)&&decide (c.2.1<=c.2.2.1)&&decide (c.2.2.1<=5000))&&(decide (100<=c.2.2.2.1)&&decide (c.2.2.2.1<=c.2.2.2.2)&&decide (c.2.2.2.2<=5000))
theorem DG{c:p8}(h:G8 c=true)(k m:Int):0<=C1 c k m/\C1 c k m<=5000:=by
 grind[G8,C1]
theorem QR(o:wf l9 b)(j:p9 b=true){c:p8}(hc:G8 c=true){q:Int}(F:m0 q 0 (((lV b).length:Int)-1)=true)(s m:Int) :
  ∃r,M3 (o5 b) c q s m=some r/\Bf b c ((lV b).getD q.toNat (a6 y80)) s m=some r /\ -6000000<=r/\r<=6000000:=by
 have F:=A4.1 F;have i:ix q (o5 b).2.2.1.length:=⟨F.1,by show q < ((lV b).length:Int); omega⟩;generalize hl:(lV b).getD q.toNat (a6 y80)=l;have g:(o5 b).2.2.1.getD q.toNat (a6 y80)=l:=hl;have f:l∈lV b:=by rw[<- hl]; exact H8 (by omega)
 have hf:=DG hc l.2.2.1 m;have d:∀p:Int,-1000000<=p->p<=1000000->AE c l m p=some (u6 (p*C1 c l.2.2.1 m) 1000 m)/\It c l m p=some (u6 (p*C1 c l.2.2.1 m) 1000 m) /\ -6000000<=u6 (p*C1 c l.2.2.1 m) 1000 m/\u6 (p*C1 c l.2.2.1 m) 1000 m<=6000000:=fun p p0 p1=>by
  have hp:=K9 (A:=1000000) (B:=5000) (x:=p) (y:=C1 c l.2.2.1 m) (by omega) (by omega) (by omega) (by omega) (by decide);have t:=V9 (p*C1 c l.2.2.1 m) 1000 m (by omega) (by omega) (by decide);have P:=FI (a:=p*C1 c l.2.2.1 m) (b:=1000) (K:=6000000) m (by decide) (by omega) (by omega);have v:AD p (C1 c l.2.2.1 m) m=some (u6 (p*C1 c l.2.2.1 m) 1000 m):=by
   unfold AD;rw[t.1,vS,gP ⟨oo,rfl,trivial⟩,lE]
  refine⟨?_,?_,P⟩
  ·rw[AE,MZ,vS,v,vS,gP ⟨rfl,rfl,trivial⟩,lE]
  ·rw[It,N0M,vS,t.2,vS,gP ⟨rfl,oo,rfl,trivial⟩,lE]
 rcases Hq j f with ⟨a,n,h⟩ | ⟨n,k,h⟩
 ·obtain⟨Q,V⟩:=CJ h.del h.trs;obtain⟨r,l1,l2,X,l4⟩:=Jt V s ((z8 b n).getD 0 0) m;obtain⟨E,G⟩:=Hw b h.nlt;obtain⟨u,z,w⟩:=d r X l4;refine⟨_,?_,?_,w⟩
  ·unfold M3;refine(gP ⟨i,trivial⟩).trans ?_;rw[lE,g,Z7 h.pix h.net,vS,gP ⟨rfl,trivial⟩,lE];refine(if_pos (by rw[h.kind]; rfl)).trans ?_;rw[Hr h,vS,E,l1,vS];refine(gP ⟨rfl,by decide,Q,G,rfl,trivial⟩).trans ?_;rw[lE];exact u
  ·unfold Bf;refine(if_pos (by rw[h.kind]; rfl)).trans ?_;rw[M0f o j h,vS,gP ⟨rfl,trivial⟩,lE];show gd (_/\ix (l.2.1.tmod 2) a.2.2.2.2.1.length/\(BI (a.2.2.2.2.1.getD (l.2.1.tmod 2).toNat (a6 y70)) s ((z8 b n).getD 0 0) m).isSome=true/\True) (lt (vl (BI (a.2.2.2.2.1.getD (l.2.1.tmod 2).toNat (a6 y70)) s ((z8 b n).getD 0 0) m)) fun v1=>It c l m v1)=_;rw[l2,vS,gP ⟨by decide,Q,rfl,trivial⟩,lE];exact z
 ·have T:=Bq j h.nlt;obtain⟨dl,db⟩:=T.delays;have t:=db (w9 b n k).toNat;obtain⟨E,G⟩:=Hx b h.nlt;have W:=Hm b n;have e:=h.klt;have Y:=u0K b n m;have H:((k:Int)).toNat=k:=rfl;have P:=FI (a:=(B0 b n).getD (w9 b n k).toNat 0) (b:=1000) (K:=301000) m (by decide) (by omega) (by omega);obtain⟨u,z,w⟩:=d (u6 ((B0 b n).getD (w9 b n k).toNat 0) 1000 m) (by omega) (by omega);refine⟨_,?_,?_,w⟩
  ·unfold M3;refine(gP ⟨i,trivial⟩).trans ?_;rw[lE,g,Z7 h.pix h.net,vS,gP ⟨rfl,trivial⟩,lE];refine(if_neg (by rw[h.kind]; decide)).trans ?_;rw[E,h.idx,H,Hl e,(V9 _ 1000 m (by omega) (by omega) (by decide)).1,vS];refine(gP ⟨G,oo,rfl,trivial⟩).trans ?_;rw[lE];exact u
  ·unfold Bf;refine(if_neg (by rw[h.kind]; decide)).trans ?_;rw[M0e o j h,vS,N0N b o T,vS,h.idx,H,gP ⟨rfl,rfl,oo,by omega,trivial⟩,lE,u0L e];exact z
theorem M0j(s:Int):Fi s=some (m0 s 0 1000000):=by
 unfold Fi;rw[Z2,vS,gP ⟨rfl,trivial⟩]
end
theorem Wv{b:j9}{q:Int}(h:m0 q 0 (((lV b).length:Int)-1)=true):ix q (lV b).length/\q.toNat < (lV b).length:=by
 have:=A4.1 h;exact⟨oo,by omega⟩
theorem r54(c:p8)(e:wf r7 c):LO c=some (G8 c):=by
 have d:∀a b,GR a b=some (decide (100<=a)&&decide (a<=b)&&decide (b<=5000)):=fun _ _=>rfl;unfold LO G8;rw[VQ _ e.1,vS,d,vS,d,vS,gP ⟨rfl,(fun _=>rfl),(fun _=>rfl),trivial⟩]
def Ww(c:p8)(i:Nat):Bool:=!m0 ([c.2.1,c.2.2.1,c.2.2.2.1,c.2.2.2.2].getD i 0) 100 5000
theorem r70(c:p8)(m:wf r7 c):Lb c=some (G8 c):=by
 unfold Lb;rw[lE];have b:=H9 (n:=4) (by decide) (Ww c) (some false) (e:=La c ()) (F:=Pd [c.2.1,c.2.2.1,c.2.2.2.1,c.2.2.2.2] c) (fun g i hi=>by
  have l:((i:Int)).toNat=i:=rfl;have d:([c.2.1,c.2.2.1,c.2.2.2.1,c.2.2.2.2]:List Int).length=4:=rfl;refine(if_pos (decide_eq_true (by rw[d]; omega))).trans ?_;rw[l,S8,vS,gP ⟨⟨by omega,by rw[d]; omega⟩,hi,rfl,trivial⟩,gP ⟨oo,trivial⟩];rfl) (fun g=>by
  show Pd [c.2.1,c.2.2.1,c.2.2.2.1,c.2.2.2.2] c g (((4:Nat):Int))=_;rw[Pd];exact if_neg (by simp))
 refine b.trans ?_;have k:La c ()=some (J0 c.1&&decide (c.2.1<=c.2.2.1)&&decide (c.2.2.2.1<=c.2.2.2.2)):=by
  unfold La;rw[QD _ m.1,vS,gP ⟨rfl,trivial⟩]
 rw[k];have j:(List.range 4).any (Ww c)=(!m0 c.2.1 100 5000||(!m0 c.2.2.1 100 5000||(!m0 c.2.2.2.1 100 5000||(!m0 c.2.2.2.2 100 5000||false)))):=rfl;have o:(if(List.range 4).any (Ww c)=true then false else(J0 c.1&&decide (c.2.1<=c.2.2.1)&&decide (c.2.2.2.1<=c.2.2.2.2)))=G8 c:=by
  rw[j,Bool.eq_iff_iff];unfold G8 m0;by_cases h:(!(decide (100<=c.2.1)&&decide (c.2.1<=5000))||(!(decide (100<=c.2.2.1)&&decide (c.2.2.1<=5000))||(!(decide (100<=c.2.2.2.1)&&decide (c.2.2.2.1<=5000))||(!(decide (100<=c.2.2.2.2)&&decide (c.2.2.2.2<=5000))||false))))=true
  ·rw[if_pos h];simp only[Bool.or_eq_true,Bool.not_eq_true',Bool.and_eq_false_iff,decide_eq_false_iff_not,Bool.false_eq_true,or_false] at h;simp only[ba,dq,Bool.false_eq_true,false_iff];rintro⟨⟨_,a⟩,f⟩;omega
  ·rw[if_neg h];simp only[Bool.or_eq_true,Bool.not_eq_true',Bool.and_eq_false_iff,decide_eq_false_iff_not,Bool.false_eq_true,or_false] at h;simp only[ba,dq];constructor
   ·rintro⟨⟨a,f⟩,q⟩;exact⟨⟨a,by omega⟩,by omega⟩
   ·rintro⟨⟨a,f⟩,q⟩;exact⟨⟨a,by omega⟩,by omega⟩
 rw[<- o];split <;> rfl
end Go.Proofs.YtdjgagoledoaaaaGreatDoor
end
section
namespace Go.Proofs.YtdjgagoledoaaaaGreatDoor
open Go Go.Proofs Go.Proofs.Xv Go.Proofs.Xl Go.Proofs.Xd
theorem Ju{a b:Int}(m:Int)(c:0<=a)(d:0<b):0<=u6 a b m:=by
 unfold u6;have e:=Int.emod_nonneg a (Int.ne_of_gt d);have f:0<=a / b:=Int.ediv_nonneg c (Int.le_of_lt d);rw[Int.tdiv_eq_ediv_of_nonneg c,Int.tmod_eq_emod_of_nonneg c,if_neg (by rw[ba,dq]; omega)];split <;> omega
theorem v0u(xs:List Int):∀n i,i<=n->fN (fun i m=>min m (xs.getD (i+1) 0)) n (xs.getD 0 0)<=xs.getD i 0
 | 0,i,h=>by
   have:i=0:=by omega
   subst this;exact Int.le_refl _
 | n+1,i,h=>by
   show min (fN (fun i m=>min m (xs.getD (i+1) 0)) n (xs.getD 0 0)) (xs.getD (n+1) 0)<=_;rcases Nat.lt_or_ge n i with a | a
   ·have:i=n+1:=by omega
    subst this;omega
   ·have:=v0u xs n i a;omega
theorem QS{l:List Dv}(h:F2 l true=true){t:Dv}(a:t∈l):∀i,i<t.2.2.length->0<=t.2.2.getD i 0:=fun i hi=>by
 unfold F2 at h;rw[ba] at h;have:=List.all_eq_true.1 h.2 t a;simp only[Bool.true_and,ba,Bool.not_eq_true',decide_eq_false_iff_not] at this;have c:=v0u t.2.2 (t.2.2.length-1) i (by omega);have b:¬AF t.2.2<0:=this.2;unfold AF at b;omega
theorem QT{t:w8}(e:∀i,i<t.2.2.length->0<=t.2.2.getD i 0){r q:Nat}{w c d:Int}(a:0<=w)(g:0<=c)(f:0<=d):0<=r4 t r q w c d:=by
 have b:∀r q,0<=J7 t r q:=fun r q=>by
  unfold J7;rcases Nat.lt_or_ge (r*t.2.1.length+q) t.2.2.length with h | h
  ·exact e _ h
  ·rw[gq,List.getElem?_eq_none h]; exact Int.le_refl _
 unfold r4;have k:=Int.mul_nonneg (Int.mul_nonneg (b r q) a) g;have j:=Int.mul_nonneg (Int.mul_nonneg (b r (q+1)) a) f;omega
theorem q0D{t:w8}(h:C8 t=true)(E:∀i,i<t.2.2.length->0<=t.2.2.getD i 0)(s l m:Int):∀r,K6 t s l m=some r->0<=r:=by
 intro r z;have k:G6 t.1=true/\G6 t.2.1=true:=by
  simp only[C8,ba] at h;exact⟨h.1.1.1,h.1.1.2⟩
 obtain⟨p,a,b,L,j,F,W,G⟩:=Hv s k.1;obtain⟨q,c,d,M,v,n,X,H⟩:=Hv l k.2;have g:0<=a/\0<=b/\1<=a+b/\a+b<=100000/\a<=100000/\b<=100000/\(b≠0->p+1<t.1.length):=by
  rcases F with ⟨rfl,rfl,_⟩ | ⟨_,_,_,_,_⟩ <;> omega
 have e:0<=c/\0<=d/\1<=c+d/\c+d<=100000:=by
  rcases n with ⟨rfl,rfl,_⟩ | ⟨_,_,_,_,_⟩ <;> omega
 have V:=K9 (A:=100000) (B:=100000) (x:=a+b) (y:=c+d) (by omega) (by omega) (by omega) (by omega) (by decide);have f:0 < (a+b)*(c+d):=Int.mul_pos (by omega) (by omega);have T:=Js h j v n (w:=a) (by omega);have x2 : -(1000000*(b*(c+d)))<=(if b=0 then 0 else r4 t (p+1) q b c d)/\(if b=0 then 0 else r4 t (p+1) q b c d)<=1000000*(b*(c+d)):=by
  by_cases hz:b=0
  ·rw[if_pos hz,hz,Int.zero_mul]; decide
  ·rw[if_neg hz]; exact Js h (g.2.2.2.2.2.2 hz) v n (by omega)
 have y1:=QT E (r:=p) (q:=q) g.1 e.1 e.2.1;have Y:0<=(if b=0 then 0 else r4 t (p+1) q b c d):=by
  split
  ·exact Int.le_refl _
  ·exact QT E g.2.1 e.1 e.2.1
 have Q:1000000*((a+b)*(c+d))=1000000*(a*(c+d))+1000000*(b*(c+d)):=by rw[Int.add_mul,Int.mul_add 1000000]
 have o:=(V9 (r4 t p q a c d+(if b=0 then 0 else r4 t (p+1) q b c d)) ((a+b)*(c+d)) m (by omega) (by omega) f).1;have P:j0 ((a+b)*(c+d)):=oo;have u:K6 t s l m=some (u6 (r4 t p q a c d+(if b=0 then 0 else r4 t (p+1) q b c d)) ((a+b)*(c+d)) m):=by
  unfold K6;rw[G,gP ⟨rfl,trivial⟩,vS,lE,H,gP ⟨rfl,trivial⟩,vS,lE,Wt h j v F n,IG,o,gP ⟨P,rfl,trivial⟩,vS,lE]
 rw[u] at z;cases z;exact Ju m (by omega) f
end Go.Proofs.YtdjgagoledoaaaaGreatDoor
end
section
namespace Go.Proofs.YtdjgagoledoaaaaGreatDoor
open Go Go.Proofs Go.Proofs.Sv Go.Proofs.Xv Go.Proofs.Xl Go.Proofs.Xd
theorem QU{a:Int}(m:Int)(h:0<=a):u6 a 1000 m=if 0<a % 1000/\m=1 then a / 1000+1 else a / 1000:=by
 unfold u6;have b:=Int.emod_nonneg a (show(1000:Int)≠0 by decide);rw[Int.tdiv_eq_ediv_of_nonneg h,Int.tmod_eq_emod_of_nonneg h,if_neg (by rw[ba,dq]; omega)];by_cases c:0<a % 1000/\m=1
 ·rw[if_pos c,if_pos (by rw[ba,dq,beq_iff_eq]; exact c)]
 ·rw[if_neg c,if_neg (by rw[ba,dq,beq_iff_eq]; exact c)]
theorem w0h{a b:Int}(m:Int)(h:0<=a)(c:a<=b):u6 a 1000 m<=u6 b 1000 m:=by
 rw[QU m h,QU m (by omega)];split <;> split <;> omega
theorem Wx{a b:Int}(h:0<=a)(c:a<=b):u6 a 1000 0<=u6 b 1000 1:=by
 rw[QU 0 h,QU 1 (by omega)];rw[if_neg (by omega)];split <;> omega
theorem v0t{p x y:Int}(a:0<=p)(h:x<=y):p*x<=p*y:=Int.mul_le_mul_of_nonneg_left h a
section
variable {b:j9}
structure R0H(b:j9)(q:Int)(B:Int->Int->Int):Prop where
 bd:∀s m,0<=B s m/\B s m<=1000000
 val:∀c,G8 c=true->∀s m,M3 (o5 b) c q s m=some (u6 (B s m*C1 c ((lV b).getD q.toNat (a6 y80)).2.2.1 m) 1000 m)
theorem E0C(T:p9 b=true){q:Int}(P:m0 q 0 (((lV b).length:Int)-1)=true):∃B,R0H b q B:=by
 have P:=A4.1 P;have j:ix q (o5 b).2.2.1.length:=⟨P.1,by show q < ((lV b).length:Int); omega⟩;generalize hl:(lV b).getD q.toNat (a6 y80)=l;have g:(o5 b).2.2.1.getD q.toNat (a6 y80)=l:=hl;have f:l∈lV b:=by rw[<- hl]; exact H8 (by omega)
 have e:∀(c:p8) (m p:Int),G8 c=true -> -1000000<=p->p<=1000000->AE c l m p=some (u6 (p*C1 c l.2.2.1 m) 1000 m):=fun c m p i p0 p1=>by
  have hf:=DG i l.2.2.1 m;have hp:=K9 (A:=1000000) (B:=5000) (x:=p) (y:=C1 c l.2.2.1 m) (by omega) (by omega) (by omega) (by omega) (by decide);have W:=V9 (p*C1 c l.2.2.1 m) 1000 m (by omega) (by omega) (by decide);have v:AD p (C1 c l.2.2.1 m) m=some (u6 (p*C1 c l.2.2.1 m) 1000 m):=by
   unfold AD;rw[W.1,vS,gP ⟨oo,rfl,trivial⟩,lE]
  rw[AE,MZ,vS,v,vS,gP ⟨rfl,rfl,trivial⟩,lE]
 rcases Hq T f with ⟨a,n,h⟩ | ⟨n,k,h⟩
 ·obtain⟨F,t⟩:=CJ h.del h.trs;have z:(l.2.1.tmod 2).toNat<a.2.2.2.2.1.length:=by have:=F.1; have:=F.2; omega
  have G:=QS h.del (H8 (d:=a6 y70) z);obtain⟨H,Q⟩:=Hw b h.nlt;refine⟨fun s m=>vl (K6 (a.2.2.2.2.1.getD (l.2.1.tmod 2).toNat (a6 y70)) s ((z8 b n).getD 0 0) m),⟨fun s m=>?_,fun c i s m=>?_⟩⟩
  ·obtain⟨r,o,l2,V,X⟩:=Jt t s ((z8 b n).getD 0 0) m;have:=q0D t G s ((z8 b n).getD 0 0) m r o;rw[o,vS];omega
  ·obtain⟨r,o,l2,V,X⟩:=Jt t s ((z8 b n).getD 0 0) m;show _=some (u6 (vl (K6 (a.2.2.2.2.1.getD (l.2.1.tmod 2).toNat (a6 y70)) s ((z8 b n).getD 0 0) m)*C1 c ((lV b).getD q.toNat (a6 y80)).2.2.1 m) 1000 m);rw[hl];unfold M3;refine(gP ⟨j,trivial⟩).trans ?_;rw[lE,g,Z7 h.pix h.net,vS,gP ⟨rfl,trivial⟩,lE];refine(if_pos (by rw[h.kind]; rfl)).trans ?_;rw[Hr h,vS,H,o,vS];refine(gP ⟨rfl,by decide,F,Q,rfl,trivial⟩).trans ?_;rw[lE];exact e c m r i V X
 ·have no:=Bq T h.nlt;obtain⟨dl,db⟩:=no.delays;have W:=db (w9 b n k).toNat;obtain⟨H,Q⟩:=Hx b h.nlt;have aA:=Hm b n;have u:=h.klt;have Y:((k:Int)).toNat=k:=rfl;have E:=fun m=>FI (a:=(B0 b n).getD (w9 b n k).toNat 0) (b:=1000) (K:=301000) m (by decide) (by omega) (by omega);have w:=fun m=>Ju (a:=(B0 b n).getD (w9 b n k).toNat 0) (b:=1000) m (by omega) (by decide);refine⟨fun _ m=>u6 ((B0 b n).getD (w9 b n k).toNat 0) 1000 m,⟨fun s m=>⟨w m,by have:=(E m).2; omega⟩,fun c i s m=>?_⟩⟩;show _=some (u6 (u6 ((B0 b n).getD (w9 b n k).toNat 0) 1000 m*C1 c ((lV b).getD q.toNat (a6 y80)).2.2.1 m) 1000 m);rw[hl];unfold M3;refine(gP ⟨j,trivial⟩).trans ?_;rw[lE,g,Z7 h.pix h.net,vS,gP ⟨rfl,trivial⟩,lE];refine(if_neg (by rw[h.kind]; decide)).trans ?_;rw[H,h.idx,Y,Hl u,(V9 _ 1000 m (by omega) (by omega) (by decide)).1,vS];refine(gP ⟨Q,oo,rfl,trivial⟩).trans ?_;rw[lE];exact e c m _ i (by have:=E m; omega) (by have:=E m; omega)
end
theorem E0M{a b c:Int}(g:0<=a)(f:0<b)(h:a<=c*b):u6 a b 1<=c:=by
 rw[Bu g f];have e:=Int.mul_ediv_add_emod a b;split
 ·rename_i hz;rcases Int.lt_or_le (a / b) c with d | d
  ·omega
  ·have:=Int.mul_le_mul_of_nonneg_right d (show 0<=b by omega);have:b*(a / b)=a / b*b:=Int.mul_comm _ _;omega
 ·exact Int.ediv_le_of_le_mul f h
theorem E0e{a b:Int}(d:0<=a)(c:0<b):a<=u6 a b 1*b:=by
 rw[Bu d c];have e:=Int.mul_ediv_add_emod a b;have g:=Int.emod_lt_of_pos a c;have f:=Int.emod_nonneg a (show b≠0 by omega);have:b*(a / b)=a / b*b:=Int.mul_comm _ _;split
 ·grind
 ·omega
theorem Jv{a b c d:Int}(j:0<=a)(f:0<b)(i:0<=c)(e:0<d)(h:a*d<=c*b){m:Int}(k:m=0∨m=1):u6 a b m<=u6 c d m:=by
 rcases k with rfl | rfl
 ·rw[DD j f,DD i e,Int.le_ediv_iff_mul_le e];have l:=Int.mul_le_mul_of_nonneg_right (Int.ediv_mul_le a (show b≠0 by omega)) (show 0<=d by omega);have g:a / b*d*b<=c*b:=by rw[Int.mul_assoc,Int.mul_comm d b,<- Int.mul_assoc]; omega
  exact Int.le_of_mul_le_mul_right g f
 ·refine E0M j f ?_;have l:=Int.mul_le_mul_of_nonneg_right (E0e i e) (show 0<=b by omega);have g:a*d<=u6 c d 1*b*d:=by rw[Int.mul_assoc,Int.mul_comm b d,<- Int.mul_assoc]; omega
  exact Int.le_of_mul_le_mul_right g e
theorem E0r{a b:Int}(d:0<=a)(c:0<b):u6 a b 0<=u6 a b 1:=by
 grind[DD,Bu]
theorem F0v{xs:List Int}(h:G6 xs=true){p:Nat}(a:p<xs.length):P2 xs (xs.getD p 0)=some ([((p:Int),1)],1):=by
 obtain⟨k,m⟩:=CE h;have f:((xs.length:Int)-1).toNat=xs.length-1:=by omega
 have l:xs.getD 0 0<=xs.getD p 0:=by
  rcases Nat.eq_zero_or_pos p with e | e
  ·grind
  ·have:=CI h e a; omega
 have j:xs.getD p 0<=xs.getD (xs.length-1) 0:=by
  rcases Nat.lt_or_ge p (xs.length-1) with e | e
  ·have:=CI h e (by omega); omega
  ·grind
 have b:A5 xs (xs.getD p 0)=xs.getD p 0:=by unfold A5; omega
 have g:∀i,i<p->xs.getD i 0<A5 xs (xs.getD p 0):=fun i hi=>by rw[b]; exact CI h hi a
 have d:∀i,p<=i->i<xs.length->A5 xs (xs.getD p 0)<=xs.getD i 0:=fun i hi c=>by
  rw[b];rcases Nat.eq_or_lt_of_le hi with e | e
  ·grind
  ·have:=CI h e c; omega
 unfold P2;rw[gP ⟨oo,oo,oo,trivial⟩,f];change lt (A5 xs (xs.getD p 0)) _=_;rw[lE,MX (by omega) a g d,gP ⟨rfl,trivial⟩,vS,lE,if_pos (by grind)]
theorem QV{t:w8}(h:C8 t=true)(_:∀i,i<t.2.2.length->0<=t.2.2.getD i 0){s l:Int}{p q:Nat}{a b c d:Int}{L M:List (Int×Int)}(e:p<t.1.length)(o:Sh t.1.length p a b L)(r:P2 t.1 s=some (L,a+b))(n:q<t.2.1.length)(g:Sh t.2.1.length q c d M)(v:P2 t.2.1 l=some (M,c+d))(m:Int) :
  K6 t s l m=some (u6 (r4 t p q a c d+(if b=0 then 0 else r4 t (p+1) q b c d)) ((a+b)*(c+d)) m):=by
 have j:0<=a/\0<=b/\1<=a+b/\a+b<=100000/\a<=100000/\b<=100000/\(b≠0->p+1<t.1.length):=by
  rcases o with ⟨rfl,rfl,_⟩ | ⟨_,_,_,_,_⟩ <;> omega
 have u:0<=c/\0<=d/\1<=c+d/\c+d<=100000:=by
  rcases g with ⟨rfl,rfl,_⟩ | ⟨_,_,_,_,_⟩ <;> omega
 have H:=K9 (A:=100000) (B:=100000) (x:=a+b) (y:=c+d) (by omega) (by omega) (by omega) (by omega) (by decide);have f:0 < (a+b)*(c+d):=Int.mul_pos (by omega) (by omega);have F:=Js h e n g (w:=a) (by omega);have G : -(1000000*(b*(c+d)))<=(if b=0 then 0 else r4 t (p+1) q b c d)/\(if b=0 then 0 else r4 t (p+1) q b c d)<=1000000*(b*(c+d)):=by
  by_cases hz:b=0
  ·grind
  ·rw[if_neg hz]; exact Js h (j.2.2.2.2.2.2 hz) n g (by omega)
 have E:1000000*((a+b)*(c+d))=1000000*(a*(c+d))+1000000*(b*(c+d)):=by grind
 have k:=(V9 (r4 t p q a c d+(if b=0 then 0 else r4 t (p+1) q b c d)) ((a+b)*(c+d)) m (by omega) (by omega) f).1;have z:j0 ((a+b)*(c+d)):=oo;unfold K6;rw[r,gP ⟨rfl,trivial⟩,vS,lE,v,gP ⟨rfl,trivial⟩,vS,lE,Wt h e n o g,IG,k,gP ⟨z,rfl,trivial⟩,vS,lE]
theorem Na(t:w8)(r q:Nat)(w c d:Int):r4 t r q w c d=w*r4 t r q 1 c d:=by
 grind[r4]
structure Nb(t:w8)(l:Int)(V:Int->Int->Int):Prop where
 val:∀s m,K6 t s l m=some (V s m)
 pos:∀s m,0<=V s m
 two:∀s,V s 0<=V s 1
 lo:∀s,∃i,i<t.1.length/\V (t.1.getD i 0) 0<=V s 0
 hi:∀s,∃i,i<t.1.length/\V s 1<=V (t.1.getD i 0) 1
theorem D0Z{t:w8}(E:C8 t=true)(G:∀i,i<t.2.2.length->0<=t.2.2.getD i 0)(l:Int):∃V,Nb t l V:=by
 have w:G6 t.1=true/\G6 t.2.1=true:=by
  simp only[C8,ba] at E;exact⟨E.1.1.1,E.1.1.2⟩
 obtain⟨q,c,d,M,T,H,Y,P⟩:=Hv l w.2;have y:0<=c/\0<=d/\1<=c+d/\c+d<=100000:=by
  rcases H with ⟨rfl,rfl,_⟩ | ⟨_,_,_,_,_⟩ <;> omega
 have F:∀r,0<=r4 t r q 1 c d:=fun r=>QT G (by decide) y.1 y.2.1;have j:∀s,∃(p:Nat) (a b:Int),p<t.1.length/\0<=a/\0<=b/\1<=a+b/\(b≠0->p+1<t.1.length)/\∀m,K6 t s l m=some (u6 (a*r4 t p q 1 c d+b*r4 t (p+1) q 1 c d) ((a+b)*(c+d)) m):=fun s=>by
  obtain⟨p,a,b,L,g,Q,X,W⟩:=Hv s w.1;have e:0<=a/\0<=b/\1<=a+b/\(b≠0->p+1<t.1.length):=by
   rcases Q with ⟨rfl,rfl,_⟩ | ⟨_,_,_,_,_⟩ <;> omega
  refine⟨p,a,b,g,e.1,e.2.1,e.2.2.1,e.2.2.2,fun m=>?_⟩;rw[QV E G g Q W T H P m];by_cases hz:b=0
  ·rw[if_pos hz,Na t p q a,hz,Int.zero_mul]
  ·rw[if_neg hz,Na t p q a,Na t (p+1) q b]
 have z:∀p,p<t.1.length->∀m,K6 t (t.1.getD p 0) l m=some (u6 (r4 t p q 1 c d) (c+d) m):=fun p g m=>by
  have:=QV E G (a:=1) (b:=0) g (.inl ⟨rfl,rfl,rfl⟩) (F0v w.1 g) T H P m;rw[this,if_pos rfl,Int.add_zero,Int.add_zero,Int.one_mul]
 have u:∀{a b:Int} (p:Nat),0<=a->0<=b->0<=a*r4 t p q 1 c d+b*r4 t (p+1) q 1 c d:=fun p n k=>by
  have:=Int.mul_nonneg n (F p);have:=Int.mul_nonneg k (F (p+1));omega
 have j6:∀{a b:Int},1<=a+b->0 < (a+b)*(c+d):=fun h=>Int.mul_pos (by omega) (by omega);refine⟨fun s m=>vl (K6 t s l m),⟨fun s m=>?_,fun s m=>?_,fun s=>?_,fun s=>?_,fun s=>?_⟩⟩
 ·obtain⟨p,a,b,_,_,_,_,_,h⟩:=j s
  grind[vl,K6,vS]
 ·obtain⟨p,a,b,_,n,k,e,_,h⟩:=j s;show 0<=vl (K6 t s l m);rw[h,vS];exact Ju m (u p n k) (j6 e)
 ·obtain⟨p,a,b,_,n,k,e,_,h⟩:=j s;show vl (K6 t s l 0)<=vl (K6 t s l 1);rw[h,h,vS,vS];exact E0r (u p n k) (j6 e)
 ·obtain⟨p,a,b,g,n,k,e,v,h⟩:=j s;have o:∀r,r<t.1.length->(a+b)*r4 t r q 1 c d<=a*r4 t p q 1 c d+b*r4 t (p+1) q 1 c d->∃i,i<t.1.length/\vl (K6 t (t.1.getD i 0) l 0)<=vl (K6 t s l 0):=fun r x f=>by
   refine⟨r,x,?_⟩;rw[h,z r x,vS,vS];refine Jv (F r) (by omega) (u p n k) (j6 e) ?_ (.inl rfl);have:=Int.mul_le_mul_of_nonneg_right f (show 0<=c+d by omega)
   grind
  by_cases hz:b=0
  ·grind
  ·rcases Int.le_total (r4 t p q 1 c d) (r4 t (p+1) q 1 c d) with f | f
   ·refine o p g ?_;have:=Int.mul_le_mul_of_nonneg_left f k
    grind
   ·refine o (p+1) (v hz) ?_;have:=Int.mul_le_mul_of_nonneg_left f n
    grind
 ·obtain⟨p,a,b,g,n,k,e,v,h⟩:=j s;have o:∀r,r<t.1.length->a*r4 t p q 1 c d+b*r4 t (p+1) q 1 c d<=(a+b)*r4 t r q 1 c d->∃i,i<t.1.length/\vl (K6 t s l 1)<=vl (K6 t (t.1.getD i 0) l 1):=fun r x f=>by
   refine⟨r,x,?_⟩;rw[h,z r x,vS,vS];refine Jv (u p n k) (j6 e) (F r) (by omega) ?_ (.inr rfl);have:=Int.mul_le_mul_of_nonneg_right f (show 0<=c+d by omega)
   grind
  by_cases hz:b=0
  ·grind
  ·rcases Int.le_total (r4 t p q 1 c d) (r4 t (p+1) q 1 c d) with f | f
   ·refine o (p+1) (v hz) ?_;have:=Int.mul_le_mul_of_nonneg_left f n
    grind
   ·refine o p g ?_;have:=Int.mul_le_mul_of_nonneg_left f k
    grind
theorem t0f{s d:Int}(c:0<=s)(t:s<=1000000)(e:0<=d)(v:d<=301000000):∃r z,X0 s d 0=some r/\X0 s d 1=some z/\r<=z:=by
 obtain⟨j,q,o⟩:=QP s d;have u:=K9 (A:=1000000) (B:=1000000) (x:=s) (y:=s) (by omega) (by omega) (by omega) (by omega) (by decide);have w:=K9 (A:=301000000) (B:=301000000) (x:=d) (y:=d) (by omega) (by omega) (by omega) (by omega) (by decide);have i:0<=s*s:=Int.mul_nonneg c c;have l:0<=d*d:=Int.mul_nonneg e e;obtain⟨R,h,k,g⟩:=Wn (n:=250000*(s*s)+d*d) (by omega) (by omega);have b:=h.1;have f:=K9 (A:=3000000000) (B:=3000000000) (x:=R) (y:=R) (by omega) (by omega) (by omega) (by omega) (by decide);have a:∀m,X0 s d m=some (O3 (250000*(s*s)+d*d) m R):=fun m=>by
  unfold X0;rw[j,g,vS,gP ⟨oo,oo,oo,oo,oo,trivial⟩,gP ⟨rfl,trivial⟩,lE,gP ⟨(fun _=>oo),trivial⟩];unfold O3;split
  ·have:R.tdiv 500=R / 500:=Int.tdiv_eq_ediv_of_nonneg b;exact gP ⟨by decide,oo,trivial⟩
  ·rw[(V9 R 500 m (by omega) (by omega) (by decide)).1,vS,gP ⟨rfl,trivial⟩,lE]
 refine⟨_,_,a 0,a 1,?_⟩;unfold O3;rw[if_neg (by simp),DD b (by decide)]
 grind[Int.tdiv_eq_ediv_of_nonneg,Bu]
def C2(s:Int×Int):Bool:=m0 s.1 (-1000000000) 1000000000&&m0 s.2 (-1000000000) 1000000000&&decide (s.1<=s.2)
def A6(s:Int×Int):Bool:=C2 s&&m0 s.1 0 1000000&&m0 s.2 0 1000000
theorem R0y(s:Int×Int):Bh s=some (A6 s):=by
 have e:∀x,Fj x=some (m0 x (-1000000000) 1000000000):=fun _=>rfl;have a:M8 s=some (C2 s):=by
  unfold M8;rw[e,e,vS,vS];exact gP ⟨rfl,fun _=>rfl,trivial⟩
 unfold Bh;rw[a,vS,M0j,M0j,vS,vS];exact gP ⟨rfl,fun _=>rfl,fun _=>rfl,trivial⟩
theorem r56(s:Int×Int):Bh s=some (A6 s)/\KZ s=some (A6 s):=by
 refine⟨R0y s,?_⟩;unfold KZ;refine congrArg some ?_;unfold A6 C2 m0;rw[Bool.eq_iff_iff];simp only[ba,dq];omega
theorem s0A{b:j9}(e:wf l9 b)(d:p9 b=true){c:p8}(g:G8 c=true){q:Int}(a:m0 q 0 (((lV b).length:Int)-1)=true)(sp:Int×Int)(i:A6 sp=true) :
  ∃v:(Int×Int)×Int×Int,Dp (o5 b) c q sp=some v/\Iu b c ((lV b).getD q.toNat (a6 y80)) sp=some v:=by
 unfold A6 at i;rw[ba,ba] at i;have h:=A4.1 i.1.2;have f:=A4.1 i.2;have k:=A4.1 a;have j:ix q (o5 b).2.2.1.length:=⟨k.1,by show q < ((lV b).length:Int); omega⟩;obtain⟨r,W,b1,_⟩:=QR e d g a sp.1 0;obtain⟨o,u,y,_⟩:=QR e d g a sp.2 0;obtain⟨n,z,H,_⟩:=QR e d g a sp.1 1;obtain⟨l,t,b4,_⟩:=QR e d g a sp.2 1;obtain⟨F,E,P,_⟩:=MY e d a h.1 h.2 (m:=0) (.inl rfl);obtain⟨Q,G,V,_⟩:=MY e d a f.1 f.2 (m:=0) (.inl rfl);obtain⟨x,X,w,_⟩:=MY e d a h.1 h.2 (m:=1) (.inr rfl);obtain⟨Y,s,T,_⟩:=MY e d a f.1 f.2 (m:=1) (.inr rfl);refine⟨((min r o,max n l),min F Q,max x Y),?_,?_⟩
 ·unfold Dp;rw[W,u,z,t];refine(gP ⟨rfl,rfl,rfl,rfl,trivial⟩).trans ?_;rw[lE];refine(gP ⟨j,trivial⟩).trans ?_;rw[lE];refine(if_neg ?_).trans ?_
  ·show ¬(decide ((0:Int)<0)&&_)=true;simp
  ·show GP (o5 b) q sp (min r o,max n l)=_;rw[GP,E,G,X,s];rfl
 ·unfold Iu;rw[b1,H,P,w,y,b4,V,T];rfl
section
variable {b:j9}
theorem q0W(_:p9 b=true){q:Int}(j:m0 q 0 (((lV b).length:Int)-1)=true){a:F0}{n:Nat}(h:MW b ((lV b).getD q.toNat (a6 y80)) a n){V:Int->Int->Int}(i:Nb (a.2.2.2.2.1.getD (((lV b).getD q.toNat (a6 y80)).2.1.tmod 2).toNat (a6 y70)) ((z8 b n).getD 0 0) V)(d:∀s m,V s m<=1000000){c:p8}(t:G8 c=true)(s m:Int) :
  M3 (o5 b) c q s m=some (u6 (V s m*C1 c ((lV b).getD q.toNat (a6 y80)).2.2.1 m) 1000 m):=by
 have j:=A4.1 j;have g:ix q (o5 b).2.2.1.length:=⟨j.1,by show q < ((lV b).length:Int); omega⟩;generalize hl:(lV b).getD q.toNat (a6 y80)=l at h i;have e:(o5 b).2.2.1.getD q.toNat (a6 y80)=l:=hl;have z:=i.pos s m;have F:=d s m;have E:=DG t l.2.2.1 m;have v:=K9 (A:=1000000) (B:=5000) (x:=V s m) (y:=C1 c l.2.2.1 m) (by omega) (by omega) (by omega) (by omega) (by decide);have u:=V9 (V s m*C1 c l.2.2.1 m) 1000 m (by omega) (by omega) (by decide);have f:AD (V s m) (C1 c l.2.2.1 m) m=some (u6 (V s m*C1 c l.2.2.1 m) 1000 m):=by
  unfold AD;rw[u.1,vS,gP ⟨oo,rfl,trivial⟩,lE]
 obtain⟨k,w⟩:=CJ h.del h.trs;obtain⟨o,r⟩:=Hw b h.nlt;unfold M3;refine(gP ⟨g,trivial⟩).trans ?_;rw[lE,e,Z7 h.pix h.net,vS,gP ⟨rfl,trivial⟩,lE];refine(if_pos (by rw[h.kind]; rfl)).trans ?_;rw[Hr h,vS,o,i.val,vS];refine(gP ⟨rfl,by decide,k,r,rfl,trivial⟩).trans ?_;rw[lE];show AE c l m (V s m)=_;rw[AE,MZ,vS,f,vS,gP ⟨rfl,rfl,trivial⟩,lE]
theorem QW(_:p9 b=true){T:List w8}(g:F2 T true=true){x:Int}(i:x=0∨x=1)(l:Int):∃V,Nb (T.getD x.toNat (a6 y70)) l V/\∀s m,V s m<=1000000:=by
 obtain⟨f,c⟩:=CJ g i;have a:x.toNat<T.length:=by have:=f.1; have:=f.2; omega
 obtain⟨V,e⟩:=D0Z c (QS g (H8 (d:=a6 y70) a)) l;refine⟨V,e,fun s m=>?_⟩;obtain⟨r,h,_,_,j⟩:=Jt c s l m;have:=e.val s m;rw[h] at this;cases this;exact j
theorem x0Z(_:wf l9 b)(i:p9 b=true){q:Int}(Y:m0 q 0 (((lV b).length:Int)-1)=true){s:Int}(y:0<=s)(P:s<=1000000):∃r z,F9 (o5 b) q s 0=some r/\F9 (o5 b) q s 1=some z/\r<=z:=by
 obtain⟨H,W⟩:=Wv Y;have e:ix q (o5 b).2.2.1.length:=H;have d:(lV b).getD q.toNat (a6 y80)∈lV b:=H8 W;rcases Hq i d with ⟨a,n,h⟩ | ⟨n,k,h⟩
 ·obtain⟨V,t,j⟩:=QW i h.slw h.trs ((z8 b n).getD 0 0);obtain⟨v,E⟩:=CJ h.slw h.trs;obtain⟨f,g⟩:=Hw b h.nlt;generalize hl:(lV b).getD q.toNat (a6 y80)=l at h t v E f g;have c:(o5 b).2.2.1.getD q.toNat (a6 y80)=l:=hl;have val:∀m,F9 (o5 b) q s m=some (V s m):=fun m=>by
   unfold F9;refine(gP ⟨e,trivial⟩).trans ?_;rw[lE,c,Z7 h.pix h.net,vS,gP ⟨rfl,trivial⟩,lE];refine(if_pos (by rw[h.kind]; rfl)).trans ?_;rw[Hr h,vS,f,t.val,vS];refine(gP ⟨rfl,by decide,v,g,rfl,trivial⟩).trans ?_;rw[lE];have:=j s m;have:min (V s m) 1000000=V s m:=by omega
   rw[this]
  exact⟨_,_,val 0,val 1,t.two s⟩
 ·have Q:=Bq i h.nlt;obtain⟨dl,T⟩:=Q.delays;have u:=T (w9 b n k).toNat;obtain⟨f,g⟩:=Hx b h.nlt;have F:=Hm b n;have o:=h.klt;generalize hl:(lV b).getD q.toNat (a6 y80)=l at h;have c:(o5 b).2.2.1.getD q.toNat (a6 y80)=l:=hl;obtain⟨r,z,G,X,w3⟩:=t0f y P u.1 u.2;have val:∀m r,X0 s ((B0 b n).getD (w9 b n k).toNat 0) m=some r->F9 (o5 b) q s m=some (min r 1000000):=fun m r w=>by
   unfold F9;refine(gP ⟨e,trivial⟩).trans ?_;rw[lE,c,Z7 h.pix h.net,vS,gP ⟨rfl,trivial⟩,lE];refine(if_neg (by rw[h.kind]; decide)).trans ?_;rw[f,h.idx];have x:((k:Int)).toNat=k:=rfl;rw[x,Hl o,w,vS];refine(gP ⟨g,oo,rfl,trivial⟩).trans ?_;rw[lE]
  exact⟨_,_,val 0 r G,val 1 z X,by omega⟩
end
theorem t0e{xs:List Int}(x:Int)(h:G6 xs=true):∃p:Nat,p<xs.length/\((A5 xs x=xs.getD p 0/\P2 xs x=some ([((p:Int),1)],1)) ∨
  (p+1<xs.length/\xs.getD p 0<A5 xs x/\A5 xs x<xs.getD (p+1) 0/\P2 xs x=some ([((p:Int),xs.getD (p+1) 0-A5 xs x),((p:Int)+1,A5 xs x-xs.getD p 0)],(xs.getD (p+1) 0-A5 xs x)+(A5 xs x-xs.getD p 0)))):=by
 obtain⟨u,t⟩:=CE h;have g:((xs.length:Int)-1).toNat=xs.length-1:=by omega
 have k:xs.getD 0 0<=A5 xs x:=by
  have:xs.getD 0 0<=xs.getD (xs.length-1) 0:=by
   by_cases s:xs.length=1
   ·grind
   ·have:=CI h (by omega:0<xs.length-1) (by omega); omega
  unfold A5; omega
 have j:A5 xs x<=xs.getD (xs.length-1) 0:=by unfold A5; omega
 obtain⟨p,a,e,b⟩:=w0F h k j;by_cases f:xs.getD p 0=A5 xs x
 ·refine⟨p,a,.inl ⟨f.symm,?_⟩⟩;unfold P2;rw[gP ⟨oo,oo,oo,trivial⟩,g];change lt (A5 xs x) _=_;rw[lE,MX (by omega) a e b,gP ⟨rfl,trivial⟩,vS,lE,if_pos (by simpa using f)]
 ·have d:A5 xs x<xs.getD p 0:=by have:=b p (Nat.le_refl _) a; omega
  have o:0<p:=by
   apply Nat.pos_of_ne_zero;intro l; subst l; omega
  obtain⟨q,rfl⟩:∃q,p=q+1:=⟨p-1,by omega⟩;have c:=e q (by omega);have v:=MV h a;have r:=MV h (by omega:q<xs.length);have i:(((q+1:Nat):Int))-1=(q:Int):=by omega
  have n:(((q+1:Nat):Int)).toNat=q+1:=rfl;have m:((q:Int)).toNat=q:=rfl;refine⟨q,by omega,.inr ⟨a,c,d,?_⟩⟩;unfold P2;rw[gP ⟨oo,oo,oo,trivial⟩,g];change lt (A5 xs x) _=_;rw[lE,MX (by omega) a e b,gP ⟨rfl,trivial⟩,vS,lE,if_neg (by grind)];simp only[i,n,m];refine(gP ⟨oo,oo,oo,oo,oo,oo,oo,oo,oo,oo,trivial⟩).trans ?_;rw[lE]
  grind
theorem v0G{t:w8}(ht:C8 t=true)(hp:∀i,i<t.2.2.length->0<=t.2.2.getD i 0)(aB:∀r q,r+1<t.1.length->q<t.2.1.length->J7 t r q<=J7 t (r+1) q)(l:Int){V:Int->Int->Int}(hV:Nb t l V){s o m:Int}(hm:m=0∨m=1)(hs:s<=o):V s m<=V o m:=by
 have v:G6 t.1=true/\G6 t.2.1=true:=by
  simp only[C8,ba] at ht;exact⟨ht.1.1.1,ht.1.1.2⟩
 obtain⟨q,c,d,M,hq,hM,h3,h4⟩:=Hv l v.2;have u:0<=c/\0<=d/\1<=c+d/\c+d<=100000/\(d≠0->q+1<t.2.1.length):=by
  rcases hM with ⟨rfl,rfl,_⟩ | ⟨_,_,_,_,_⟩ <;> omega
 have Q:∀r,0<=r4 t r q 1 c d:=fun r=>QT hp (by decide) u.1 u.2.1;have Y:∀r,r+1<t.1.length->r4 t r q 1 c d<=r4 t (r+1) q 1 c d:=fun r hr=>by
  unfold r4;rw[Int.mul_one,Int.mul_one,Int.mul_one,Int.mul_one];have x1:=Int.mul_le_mul_of_nonneg_right (aB r q hr hq) u.1;have x2:J7 t r (q+1)*d<=J7 t (r+1) (q+1)*d:=by
   by_cases hz:d=0
   ·rw[hz,Int.mul_zero,Int.mul_zero]; exact Int.le_refl _
   ·exact Int.mul_le_mul_of_nonneg_right (aB r (q+1) hr (u.2.2.2.2 hz)) u.2.1
  omega
 have aC:∀k r,r+k<t.1.length->r4 t r q 1 c d<=r4 t (r+k) q 1 c d:=by
  intro k
  induction k with
  | zero=>intro r _; exact Int.le_refl _
  | succ k ih =>
    intro r hr;have:=ih r (by omega);have:=Y (r+k) (by omega);rw[show r+(k+1)=r+k+1 by omega];omega
 have f:∀i j,i<=j->j<t.1.length->r4 t i q 1 c d<=r4 t j q 1 c d:=fun i j g T=>by
  have:=aC (j-i) i (by omega);rw[show i+(j-i)=j by omega] at this;exact this
 have y:∀{s:Int} {p:Nat},p<t.1.length->P2 t.1 s=some ([((p:Int),1)],1)->V s m=u6 (r4 t p q 1 c d) (c+d) m:=fun {s p} E h2=>by
  have h1:=QV ht hp (a:=1) (b:=0) E (.inl ⟨rfl,rfl,rfl⟩) h2 hq hM h4 m;rw[hV.val] at h1;rw[Option.some.inj h1,if_pos rfl,Int.add_zero,Int.add_zero,Int.one_mul]
 have z:∀{s:Int} {p:Nat} {a b:Int},p+1<t.1.length->0<a->0<b->a+b<=100000->P2 t.1 s=some ([((p:Int),a),((p:Int)+1,b)],a+b)->V s m=u6 (a*r4 t p q 1 c d+b*r4 t (p+1) q 1 c d) ((a+b)*(c+d)) m:=fun {s p a b} E ha W aD h2=>by
  have h1:=QV ht hp (a:=a) (b:=b) (show p<t.1.length by omega) (.inr ⟨E,ha,W,aD,rfl⟩) h2 hq hM h4 m;rw[hV.val] at h1;rw[Option.some.inj h1,if_neg (by omega),Na t p q a,Na t (p+1) q b]
 have j6:∀{a b:Int},1<=a+b->0 < (a+b)*(c+d):=fun h=>Int.mul_pos (by omega) (by omega);have x:∀{a b:Int} (p:Nat),0<=a->0<=b->0<=a*r4 t p q 1 c d+b*r4 t (p+1) q 1 c d:=fun p ha W=>by
  have:=Int.mul_nonneg ha (Q p);have:=Int.mul_nonneg W (Q (p+1));omega
 -- below a line, above a line
 have up:∀{a b:Int} (p i:Nat),0<a->0<b->p+1<=i->i<t.1.length->u6 (a*r4 t p q 1 c d+b*r4 t (p+1) q 1 c d) ((a+b)*(c+d)) m<=u6 (r4 t i q 1 c d) (c+d) m:=fun {a b} p i ha W F hi=>by
  refine Jv (x p (by omega) (by omega)) (j6 (by omega)) (Q i) (by omega) ?_ hm;have x1:=Int.mul_le_mul_of_nonneg_left (f p i (by omega) hi) (show 0<=a by omega);have x2:=Int.mul_le_mul_of_nonneg_left (f (p+1) i F hi) (show 0<=b by omega);have x3:a*r4 t p q 1 c d+b*r4 t (p+1) q 1 c d<=(a+b)*r4 t i q 1 c d:=by rw[Int.add_mul]; omega
  have:=Int.mul_le_mul_of_nonneg_right x3 (show 0<=c+d by omega);rw[<- Int.mul_assoc,Int.mul_comm (r4 t i q 1 c d)];exact this
 have dn:∀{a b:Int} (p i:Nat),0<a->0<b->i<=p->p+1<t.1.length->u6 (r4 t i q 1 c d) (c+d) m<=u6 (a*r4 t p q 1 c d+b*r4 t (p+1) q 1 c d) ((a+b)*(c+d)) m:=fun {a b} p i ha W F hi=>by
  refine Jv (Q i) (by omega) (x p (by omega) (by omega)) (j6 (by omega)) ?_ hm;have x1:=Int.mul_le_mul_of_nonneg_left (f i p F (by omega)) (show 0<=a by omega);have x2:=Int.mul_le_mul_of_nonneg_left (f i (p+1) (by omega) hi) (show 0<=b by omega);have x3:(a+b)*r4 t i q 1 c d<=a*r4 t p q 1 c d+b*r4 t (p+1) q 1 c d:=by rw[Int.add_mul]; omega
  have:=Int.mul_le_mul_of_nonneg_right x3 (show 0<=c+d by omega);rw[<- Int.mul_assoc,Int.mul_comm (r4 t i q 1 c d)];exact this
 have aF:∀i j,i<=j->j<t.1.length->u6 (r4 t i q 1 c d) (c+d) m<=u6 (r4 t j q 1 c d) (c+d) m:=fun i j g T=>Jv (Q i) (by omega) (Q j) (by omega) (Int.mul_le_mul_of_nonneg_right (f i j g T) (show 0<=c+d by omega)) hm
 have hx:A5 t.1 s<=A5 t.1 o:=by unfold A5; omega
 have aA:=fun {i j:Nat} (g:i<j) (T:j<t.1.length)=>CI v.1 g T;have G:∀{i j:Nat},i<=j->j<t.1.length->t.1.getD i 0<=t.1.getD j 0:=fun {i j} g T=>by
  rcases Nat.eq_or_lt_of_le g with e | e
  ·rw[e]; exact Int.le_refl _
  ·have:=aA e T; omega
 obtain⟨p,p1,p2⟩:=t0e s v.1;obtain⟨n,w,X⟩:=t0e o v.1;have P:=fun {i:Nat} (hi:i<t.1.length)=>MV v.1 hi;rcases p2 with ⟨e1,w1⟩ | ⟨b1,b2,b3,w1⟩
 ·rw[y p1 w1];rcases X with ⟨e2,H⟩ | ⟨c1,c2,c3,H⟩
  ·rw[y w H];refine aF p n ?_ w;rcases Nat.lt_or_ge n p with h | h
   ·have:=aA h p1; omega
   ·exact h
  ·have:=P (show n<t.1.length by omega);have:=P c1;rw[z c1 (by omega) (by omega) (by omega) H];refine dn n p (by omega) (by omega) ?_ c1;rcases Nat.lt_or_ge n p with h | h
   ·have:=G (show n+1<=p by omega) p1; omega
   ·exact h
 ·have:=P (show p<t.1.length by omega);have:=P b1;rw[z b1 (by omega) (by omega) (by omega) w1];rcases X with ⟨e2,H⟩ | ⟨c1,c2,c3,H⟩
  ·rw[y w H];refine up p n (by omega) (by omega) ?_ w;rcases Nat.lt_or_ge p n with h | h
   ·exact h
   ·have:=G h (show p<t.1.length by omega); omega
  ·have:=P (show n<t.1.length by omega);have:=P c1;rw[z c1 (by omega) (by omega) (by omega) H];rcases Nat.lt_trichotomy p n with h | h | h
   ·refine Int.le_trans (up p (p+1) (by omega) (by omega) (Nat.le_refl _) b1) ?_;exact dn n (p+1) (by omega) (by omega) (by omega) c1
   ·subst h;refine Jv (x p (by omega) (by omega)) (j6 (by omega)) (x p (by omega) (by omega)) (j6 (by omega)) ?_ hm;have e1:(t.1.getD (p+1) 0-A5 t.1 s)+(A5 t.1 s-t.1.getD p 0)=(t.1.getD (p+1) 0-A5 t.1 o)+(A5 t.1 o-t.1.getD p 0):=by omega
    rw[e1];refine Int.mul_le_mul_of_nonneg_right ?_ (by have:=j6 (a:=t.1.getD (p+1) 0-A5 t.1 o) (b:=A5 t.1 o-t.1.getD p 0) (by omega); omega);obtain⟨k,hk⟩:∃k,A5 t.1 o=A5 t.1 s+k:=⟨A5 t.1 o-A5 t.1 s,by omega⟩;have x1:=Int.mul_le_mul_of_nonneg_left (Y p b1) (show 0<=k by omega);have x2:(t.1.getD (p+1) 0-A5 t.1 o)*r4 t p q 1 c d=(t.1.getD (p+1) 0-A5 t.1 s)*r4 t p q 1 c d-k*r4 t p q 1 c d:=by rw[<- Int.sub_mul]; congr 1; omega
    have x3:(A5 t.1 o-t.1.getD p 0)*r4 t (p+1) q 1 c d=(A5 t.1 s-t.1.getD p 0)*r4 t (p+1) q 1 c d+k*r4 t (p+1) q 1 c d:=by rw[<- Int.add_mul]; congr 1; omega
    omega
   ·have:=G (show n+1<=p by omega) (show p<t.1.length by omega); omega
theorem Wl{a b:Int}(e:0<=a)(d:0<=b)(h:a*a<b*b):a<b:=by
 rcases Int.lt_or_le a b with c | c
 ·exact c
 ·have:=Int.mul_le_mul c c d (by omega);omega
theorem t0h{n R:Int}(h:Bt n R):n<=(500*O3 n 1 R)*(500*O3 n 1 R):=by
 obtain⟨c,g,f⟩:=h;have b:∀v,R<500*v∨(R<=500*v/\R*R=n)->n<=(500*v)*(500*v):=fun v a=>by
  rcases a with a | ⟨a,e⟩
  ·have:=Int.mul_le_mul (show R+1<=500*v by omega) (show R+1<=500*v by omega) (by omega) (by omega);omega
  ·have:=Int.mul_le_mul a a c (by omega);omega
 refine b _ ?_;unfold O3;split
 ·grind
 ·rename_i d;simp only[beq_self_eq_true,Bool.true_and,dq] at d;rw[Bu c (by decide)];omega
theorem t0g{n R w:Int}(h:Bt n R)(f:0<=w)(i:n<=(500*w)*(500*w)):O3 n 1 R<=w:=by
 obtain⟨b,g,d⟩:=h;unfold O3;split
 ·rename_i a;simp only[beq_self_eq_true,Bool.true_and,dq] at a;have:=Wl b (show 0<=500*w by omega) (by omega)
  grind
 ·rename_i a;simp only[beq_self_eq_true,Bool.true_and,dq] at a;have e:R<=500*w:=by
   rcases Int.lt_or_le (500*w) R with c | c
   ·have:=Int.mul_lt_mul' (show 500*w<=R by omega) c (by omega) (by omega);omega
   ·exact c
  grind[Bu]
theorem k0I{n R:Int}(a:0<=R):0<=O3 n 1 R:=by
 grind[O3,Int.tdiv_eq_ediv_of_nonneg,Bu]
theorem o0f{n b R R' m:Int}(h:Bt n R)(a:Bt b R')(e:n<=b)(d:m=0∨m=1):O3 n m R<=O3 b m R':=by
 rcases d with rfl | rfl
 ·have c:R<=R':=by
   have:=Wl h.1 (show 0<=R'+1 by have:=a.1; omega) (by have:=h.2.1; have:=a.2.2; omega);omega
  unfold O3;rw[if_neg (by simp),if_neg (by simp),DD h.1 (by decide),DD a.1 (by decide)];omega
 ·exact t0g h (k0I a.1) (by have:=t0h a; omega)
theorem r0x{s f d m:Int}(a:0<=s)(h:s<=f)(j:f<=1000000)(k:0<=d)(Q:d<=301000000)(t:m=0∨m=1):∃r z,X0 s d m=some r/\X0 f d m=some z/\r<=z:=by
 have b:∀s,0<=s->s<=1000000->∃R,Bt (250000*(s*s)+d*d) R/\X0 s d m=some (O3 (250000*(s*s)+d*d) m R):=fun s a j=>by
  obtain⟨v,P,G⟩:=QP s d;have h:=K9 (A:=1000000) (B:=1000000) (x:=s) (y:=s) (by omega) (by omega) (by omega) (by omega) (by decide);have F:=K9 (A:=301000000) (B:=301000000) (x:=d) (y:=d) (by omega) (by omega) (by omega) (by omega) (by decide);have u:0<=s*s:=Int.mul_nonneg a a;have E:0<=d*d:=Int.mul_nonneg k k;obtain⟨R,c,w,q⟩:=Wn (n:=250000*(s*s)+d*d) (by omega) (by omega);have i:=c.1;have o:=K9 (A:=3000000000) (B:=3000000000) (x:=R) (y:=R) (by omega) (by omega) (by omega) (by omega) (by decide);refine⟨R,c,?_⟩;unfold X0;rw[v,q,vS,gP ⟨oo,oo,oo,oo,oo,trivial⟩,gP ⟨rfl,trivial⟩,lE,gP ⟨(fun _=>oo),trivial⟩];unfold O3;split
  ·have:R.tdiv 500=R / 500:=Int.tdiv_eq_ediv_of_nonneg i;exact gP ⟨by decide,oo,trivial⟩
  ·rw[(V9 R 500 m (by omega) (by omega) (by decide)).1,vS,gP ⟨rfl,trivial⟩,lE]
 obtain⟨R,c,e⟩:=b s a (by omega);obtain⟨H,g,l⟩:=b f (by omega) j;refine⟨_,_,e,l,o0f c g ?_ t⟩;have:=Int.mul_le_mul h h a (by omega);omega
variable {b:j9}
theorem I0O(r:p9 b=true){c:p8}(u:G8 c=true){q:Int}(P:m0 q 0 (((lV b).length:Int)-1)=true) :
  ∃d:Int->Int->Int,(∀s m,M3 (o5 b) c q s m=some (d s m))/\∀s,d s 0<=d s 1:=by
 obtain⟨X,x2⟩:=Wv P;have j:(lV b).getD q.toNat (a6 y80)∈lV b:=H8 x2;have t:=fun k=>DG u k 0;have e:∀k,C1 c k 0<=C1 c k 1:=fun k=>by
  have h:=u;unfold G8 at h;simp only[ba,dq] at h;unfold C1;have W:((0:Int)==0)=true:=rfl;have Y:((1:Int)==0)=false:=rfl;rw[W,Y];split <;> simp only[if_true,Bool.false_eq_true,if_false] <;> omega
 rcases Hq r j with ⟨a,n,h⟩ | ⟨n,k,h⟩
 ·obtain⟨t1,H⟩:=CJ h.del h.trs;obtain⟨F,G,_⟩:=Fz H;obtain⟨V,i,v⟩:=QW r h.del h.trs ((z8 b n).getD 0 0);have g:=fun s m=>q0W r P h i v u s m;generalize hlk:(lV b).getD q.toNat (a6 y80)=l at h i g t1 H F G;refine⟨fun s m=>u6 (V s m*C1 c l.2.2.1 m) 1000 m,g,fun s=>?_⟩;refine Wx (Int.mul_nonneg (i.pos _ _) (t _).1) ?_;exact Int.le_trans (Int.mul_le_mul_of_nonneg_right (i.two s) (t _).1) (v0t (i.pos _ _) (e _))
 ·have no:=Bq r h.nlt;obtain⟨dl,db⟩:=no.delays;have g:=db (w9 b n k).toNat;obtain⟨F,G⟩:=Hx b h.nlt;have T:=Hm b n;have w:=h.klt;have Q:((k:Int)).toNat=k:=rfl;have hv:=fun m=>FI (a:=(B0 b n).getD (w9 b n k).toNat 0) (b:=1000) (K:=301000) m (by decide) (by omega) (by omega);have f:=fun m=>Ju (a:=(B0 b n).getD (w9 b n k).toNat 0) (b:=1000) m (by omega) (by decide);generalize hlk:(lV b).getD q.toNat (a6 y80)=l at h;have E:(o5 b).2.2.1.getD q.toNat (a6 y80)=l:=hlk;have o:∀s m,M3 (o5 b) c q s m=some (u6 (u6 ((B0 b n).getD (w9 b n k).toNat 0) 1000 m*C1 c l.2.2.1 m) 1000 m):=fun s m=>by
   have p0:=f m;have p1:=hv m;have hf:=DG u l.2.2.1 m;have hp:=K9 (A:=1000000) (B:=5000) (x:=u6 ((B0 b n).getD (w9 b n k).toNat 0) 1000 m) (y:=C1 c l.2.2.1 m) (by omega) (by omega) (by omega) (by omega) (by decide);have g:=V9 (u6 ((B0 b n).getD (w9 b n k).toNat 0) 1000 m*C1 c l.2.2.1 m) 1000 m (by omega) (by omega) (by decide);have z:AD (u6 ((B0 b n).getD (w9 b n k).toNat 0) 1000 m) (C1 c l.2.2.1 m) m=some (u6 (u6 ((B0 b n).getD (w9 b n k).toNat 0) 1000 m*C1 c l.2.2.1 m) 1000 m):=by
    unfold AD;rw[g.1,vS,gP ⟨oo,rfl,trivial⟩,lE]
   unfold M3;refine(gP ⟨X,trivial⟩).trans ?_;rw[lE,E,Z7 h.pix h.net,vS,gP ⟨rfl,trivial⟩,lE];refine(if_neg (by rw[h.kind]; decide)).trans ?_;rw[F,h.idx,Q,Hl w,(V9 _ 1000 m (by omega) (by omega) (by decide)).1,vS];refine(gP ⟨G,oo,rfl,trivial⟩).trans ?_;rw[lE];show AE c l m _=_;rw[AE,MZ,vS,z,vS,gP ⟨rfl,rfl,trivial⟩,lE]
  refine⟨fun s m=>u6 (u6 ((B0 b n).getD (w9 b n k).toNat 0) 1000 m*C1 c l.2.2.1 m) 1000 m,o,fun s=>?_⟩;refine Wx (Int.mul_nonneg (f 0) (t _).1) ?_;exact Int.le_trans (Int.mul_le_mul_of_nonneg_right (Wx g.1 (Int.le_refl _)) (t _).1) (v0t (f 1) (e _))
theorem y0a{b:j9}(H:wf l9 b)(w:p9 b=true){q:Int}(u:m0 q 0 (((lV b).length:Int)-1)=true){s m:Int}(E:0<=s)(T:s<=1000000)(Q:m=0∨m=1){r:Int}(g:F9 (o5 b) q s m=some r):0<=r:=by
 have u:=A4.1 u;have f:ix q (o5 b).2.2.1.length:=⟨u.1,by show q < ((lV b).length:Int); omega⟩;generalize hl:(lV b).getD q.toNat (a6 y80)=l;have e:(o5 b).2.2.1.getD q.toNat (a6 y80)=l:=hl;have d:l∈lV b:=by rw[<- hl]; exact H8 (by omega)
 rcases Hq w d with ⟨a,n,h⟩ | ⟨n,k,h⟩
 ·obtain⟨o,x⟩:=CJ h.slw h.trs;obtain⟨i,y,X,V,Y⟩:=Jt x s ((z8 b n).getD 0 0) m;obtain⟨t,v⟩:=Hw b h.nlt;have j:(l.2.1.tmod 2).toNat<a.2.2.2.2.2.length:=by have:=o.1; have:=o.2; omega
  have W:=q0D x (QS h.slw (H8 j)) s ((z8 b n).getD 0 0) m i y;have c:F9 (o5 b) q s m=some (min i 1000000):=by
   unfold F9;refine(gP ⟨f,trivial⟩).trans ?_;rw[lE,e,Z7 h.pix h.net,vS,gP ⟨rfl,trivial⟩,lE];refine(if_pos (by rw[h.kind]; rfl)).trans ?_;rw[Hr h,vS,t,y,vS];refine(gP ⟨rfl,by decide,o,v,rfl,trivial⟩).trans ?_;rw[lE]
  rw[c] at g;cases g;omega
 ·obtain⟨i,G,w2,w3⟩:=H0W H w h.nlt h.klt E T Q;obtain⟨t,v⟩:=Hx b h.nlt;have F:=Hm b n;have P:=h.klt;have c:F9 (o5 b) q s m=some (min i 1000000):=by
   unfold F9;refine(gP ⟨f,trivial⟩).trans ?_;rw[lE,e,Z7 h.pix h.net,vS,gP ⟨rfl,trivial⟩,lE];refine(if_neg (by rw[h.kind]; decide)).trans ?_;rw[t,h.idx];have z:((k:Int)).toNat=k:=rfl;rw[z,G,vS];refine(gP ⟨v,oo,rfl,trivial⟩).trans ?_;rw[lE]
  rw[c] at g;cases g;omega
section
variable {b:j9}
end
end Go.Proofs.YtdjgagoledoaaaaGreatDoor
end
section
namespace Go.Proofs.Xd
open Go.Proofs.Xl
theorem q0O{b:Type}{l:List b}{p q:b->Bool}(h:∀a∈l,p a=q a):l.find? p=l.find? q:=by
 induction l with
 | nil=>rfl
 | cons a r c =>
   grind
theorem n0E{b:Type}(l:List b)(p q r:b->Bool)(h:∀a∈l,(p a).toNat=(q a).toNat+(r a).toNat):l.countP p=l.countP q+l.countP r:=by
 induction l with
 | nil=>rfl
 | cons a t c =>
   grind
theorem s0x{b:Type}(l:List b)(p q:b->Bool)(h:∀a∈l,p a=q a):l.countP p=l.countP q:=by
 induction l with
 | nil=>rfl
 | cons a t c =>
   grind
section
variable (M N:Nat) (fr to:Nat->Nat) (lv:Nat->Bool)
def X6(out:List Nat)(v:Nat):Nat:=(List.range M).countP fun i=>lv i&&to i==v&&!out.contains (fr i)
def Hy(o:List Int)(i:Nat):List Int:=o.set (to i) (o.getD (to i) 0-1)
def FJ(o:List Int)(i:Nat):List Int:=o.set (to i) (o.getD (to i) 0+1)
def Jw:List Int:=((List.range M).filter lv).foldl (FJ to) (List.replicate N 0)
def Nc(o:List Int)(v:Nat):List Int:=((List.range M).filter fun i=>lv i&&fr i==v).foldl (Hy to) (o.set v (-1))
def CK(out:List Nat):List Int:=out.foldl (Nc M fr to lv) (Jw M N to lv)
def N0(out:List Nat):Option Nat:=(List.range N).find? fun v=>!out.contains v&&X6 M fr to lv out v==0
def AJ:Nat->List Nat->Option (List Nat)
 | 0,out=>some out
 | k+1,out=>match N0 M N fr to lv out with
   | none=>none
   | some v=>AJ k (out++[v])
theorem m0O(a:List Nat)(v:Nat):CK M N fr to lv (a++[v])=Nc M fr to lv (CK M N fr to lv a) v:=by
 grind[CK]
theorem Nd{o:List Int}{i v:Nat}(x:Int)(hi:i<o.length):(o.set i x).getD v 0=if v=i then x else o.getD v 0:=by
 grind
theorem E0D(a:List Nat)(o:List Int)(h:∀i∈a,to i<o.length)(v:Nat):(a.foldl (Hy to) o).length=o.length/\(a.foldl (Hy to) o).getD v 0=o.getD v 0-(a.countP fun i=>to i==v):=by
 induction a generalizing o with
 | nil=>simp
 | cons i r b =>
   grind[Hy,Nd]
theorem E0j(a:List Nat)(o:List Int)(h:∀i∈a,to i<o.length)(v:Nat):(a.foldl (FJ to) o).length=o.length/\(a.foldl (FJ to) o).getD v 0=o.getD v 0+(a.countP fun i=>to i==v):=by
 induction a generalizing o with
 | nil=>simp
 | cons i r b =>
   grind[FJ,Nd]
variable {M N fr to lv}
theorem k0z(p:Nat->Bool):(List.range M).countP p<=M:=by
 grind[List.countP_le_length,List.range,List.length_range]
theorem v0e(d:∀i,i<M->to i<N)(v:Nat):(Jw M N to lv).length=N/\(Jw M N to lv).getD v 0=X6 M fr to lv [] v:=by
 have c:∀i∈(List.range M).filter lv,to i < (List.replicate N (0:Int)).length:=fun i hi=>by
  grind
 obtain⟨e,b⟩:=E0j to ((List.range M).filter lv) (List.replicate N 0) c v;refine⟨by grind[Jw,List.length_replicate],?_⟩;rw[Jw,b,List.countP_filter];have a:(List.replicate N (0:Int)).getD v 0=0:=by
  rw[gq,List.getElem?_replicate];split <;> rfl
 rw[a,Int.zero_add];congr 1;refine s0x _ _ _ (fun i _=>?_)
 grind
structure Nf(M N:Nat)(fr to:Nat->Nat)(lv:Nat->Bool)(out:List Nat)(o:List Int):Prop where
 len:o.length=N
 un:∀v,v<N->v ∉ out->o.getD v 0=X6 M fr to lv out v
 li:∀v,v<N->v∈out->o.getD v 0<0
 lo:∀v,v<N -> -(1+(out.length:Int)*M)<=o.getD v 0
 hi:∀v,v<N->o.getD v 0<=M
theorem z0M{a:List Nat}{v:Nat}(b:v ∉ a)(w:Nat):X6 M fr to lv a w=((List.range M).countP fun i=>to i==w&&(lv i&&fr i==v))+X6 M fr to lv (a++[v]) w:=by
 unfold X6;refine n0E _ _ _ _ (fun i _=>?_)
 grind
theorem B0P(a:∀i,i<M->to i<N):Nf M N fr to lv [] (Jw M N to lv):=by
 have h:=fun v=>v0e (fr:=fr) (lv:=lv) a v;refine⟨(h 0).1,fun v _ _=>(h v).2,fun v _ b=>(nomatch b),fun v _=>?_,fun v _=>?_⟩
 ·grind
 grind[X6,k0z]
theorem v0h(l:∀i,i<M->to i<N){a:List Nat}{o:List Int}(h:Nf M N fr to lv a o){v:Nat}(s:v<N)(n:v ∉ a):Nf M N fr to lv (a++[v]) (Nc M fr to lv o v):=by
 have j:(o.set v (-1)).length=N:=by rw[List.length_set,h.len]
 have f:=fun w=>E0D to ((List.range M).filter fun i=>lv i&&fr i==v) (o.set v (-1)) (fun i hi=>by
  rw[List.mem_filter,List.mem_range] at hi;rw[j];exact l i hi.1) w
 have d:∀w,(Nc M fr to lv o v).getD w 0=(if w=v then -1 else o.getD w 0)-((List.range M).countP fun i=>to i==w&&(lv i&&fr i==v)):=fun w=>by
  grind[Nc,Nd,List.countP_filter]
 have k:∀w,(((List.range M).countP fun i=>to i==w&&(lv i&&fr i==v):Nat):Int)<=M:=fun w=>by
  have:=k0z (M:=M) (fun i=>to i==w&&(lv i&&fr i==v));omega
 have c:((a++[v]).length:Int)*M=(a.length:Int)*M+M:=by
  rw[List.length_append,List.length_singleton,Int.natCast_add,Int.add_mul];simp
 have r:(0:Int)<=(a.length:Int)*M:=Int.mul_nonneg (Int.natCast_nonneg _) (Int.natCast_nonneg _);refine⟨(f 0).1.trans j,fun w b g=>?_,fun w b g=>?_,fun w b=>?_,fun w b=>?_⟩
 ·rw[d,if_neg (fun e=>g (by simp[e])),h.un w b (fun e=>g (by simp[e])),z0M n w];omega
 ·rw[d];by_cases e:w=v
  ·omega
  ·rw[if_neg e];have:=h.li w b (by
    grind)
   omega
 ·rw[d,c];have q:=k w;have m:=h.lo w b;omega
 ·rw[d];have q:=k w;have m:=h.hi w b;omega
theorem v0i{a:List Nat}{o:List Int}(h:Nf M N fr to lv a o):(List.range o.length).find? (fun v=>(0:Int)==o.getD v 0)=N0 M N fr to lv a:=by
 unfold N0;rw[h.len];refine q0O (fun v c=>?_);have c:=List.mem_range.1 c;by_cases b:v∈a
 ·have e:=h.li v c b;have d:a.contains v=true:=List.contains_iff_mem.2 b;have f:((0:Int)==o.getD v 0)=false:=beq_eq_false_iff_ne.2 (by omega);rw[d,f]; rfl
 ·have e:=h.un v c b;have d:a.contains v=false:=by rw[<- Bool.not_eq_true,List.contains_iff_mem]; exact b
  rw[e,d,Bool.not_false,Bool.true_and,Bool.eq_iff_iff];simp only[beq_iff_eq];omega
theorem Ng{a:List Nat}{v:Nat}(h:N0 M N fr to lv a=some v):v<N/\v ∉ a:=by
 grind[N0]
def O5(N:Nat)(out:List Nat):List Bool:=out.foldl (fun l v=>l.set v true) (List.replicate N false)
theorem Jx{o:List Bool}{i v:Nat}(x:Bool)(hi:i<o.length):(o.set i x).getD v false=if v=i then x else o.getD v false:=by
 grind
theorem n0c(a:List Nat)(v:Nat):O5 N (a++[v])=(O5 N a).set v true:=by
 grind[O5]
theorem u0F(a:List Nat)(o:List Bool)(h:∀v∈a,v<o.length)(w:Nat):(a.foldl (fun l v=>l.set v true) o).length=o.length/\(a.foldl (fun l v=>l.set v true) o).getD w false=(a.contains w||o.getD w false):=by
 induction a generalizing o with
 | nil=>simp
 | cons v r b =>
   grind
theorem Nh{a:List Nat}(h:∀v∈a,v<N)(w:Nat):(O5 N a).length=N/\(O5 N a).getD w false=a.contains w:=by
 obtain⟨b,d⟩:=u0F a (List.replicate N false) (fun v c=>by grind) w
 grind[List.replicate,O5]
def FK(fr to:Nat->Nat)(lv:Nat->Bool)(out:List Nat)(k:Nat)(w:List Bool):List Bool:=if(lv k&&!out.contains (fr k))=true then w.set (to k) true else w
theorem p0r(b:∀i,i<M->to i<N)(a:List Nat)(v:Nat):∀m,m<=M->(fN (FK fr to lv a) m (List.replicate N false)).length=N/\(fN (FK fr to lv a) m (List.replicate N false)).getD v false=(List.range m).any fun i=>lv i&&to i==v&&!a.contains (fr i):=by
 intro m
 induction m with
 | zero =>
   intro _;refine⟨List.length_replicate,?_⟩;show(List.replicate N false).getD v false=false
   grind
 | succ m c =>
   grind[FK,fN,List.replicate]
theorem t0n(b:∀i,i<M->to i<N){a:List Nat}(c:∀v∈a,v<N):(List.range N).find? (fun v=>!((O5 N a).getD v false||(fN (FK fr to lv a) M (List.replicate N false)).getD v false))=N0 M N fr to lv a:=by
 unfold N0;refine q0O (fun v _=>?_);rw[(Nh c v).2,(p0r b a v M (Nat.le_refl _)).2,Bool.not_or]
 grind[X6]
end
inductive Rch(M:Nat)(fr to:Nat->Nat)(lv:Nat->Bool)(s:Nat):Nat->Prop
 | refl:Rch M fr to lv s s
 | step {i:Nat}:Rch M fr to lv s (fr i)->i<M->lv i=true->Rch M fr to lv s (to i)
theorem Rch.trans{M:Nat}{fr to:Nat->Nat}{lv:Nat->Bool}{a b c:Nat}(h:Rch M fr to lv a b)(k:Rch M fr to lv b c):Rch M fr to lv a c:=by
 induction k with
 | refl=>exact h
 | step _ hi d e=>exact e.step hi d
theorem Rch.one{M:Nat}{fr to:Nat->Nat}{lv:Nat->Bool}{i:Nat}(hi:i<M)(a:lv i=true):Rch M fr to lv (fr i) (to i):=Rch.refl.step hi a
theorem Rch.head{M:Nat}{fr to:Nat->Nat}{lv:Nat->Bool}{i c:Nat}(hi:i<M)(a:lv i=true)(k:Rch M fr to lv (to i) c):Rch M fr to lv (fr i) c:=(Rch.one hi a).trans k
theorem Rch.back{M:Nat}{fr to:Nat->Nat}{lv:Nat->Bool}{a b:Nat}(h:Rch M fr to lv a b):Rch M to fr lv b a:=by
 induction h with
 | refl=>exact .refl
 | step _ hi c d=>grind[Rch.head]
theorem Rch.lt{M N:Nat}{fr to:Nat->Nat}{lv:Nat->Bool}(d:∀i,i<M->to i<N){a b:Nat}(h:Rch M fr to lv a b)(c:a<N):b<N:=by
 cases h with
 | refl=>exact c
 | step _ hi _=>grind
section
variable (M N:Nat) (fr to:Nat->Nat) (lv:Nat->Bool)
def RB(s:Nat)(L:List Bool):Prop:=L.length=N/\∀v,v<N->(L.getD v false=true↔Rch M fr to lv s v)
theorem RB.uniq{M N:Nat}{fr to:Nat->Nat}{lv:Nat->Bool}{s:Nat}{L K:List Bool}(h:RB M N fr to lv s L)(k:RB M N fr to lv s K):L=K :=
 Jy false (h.1.trans k.1.symm) fun i hi=>by
  have a:i<N:=by rw[<- h.1]; exact hi
  rw[Bool.eq_iff_iff,h.2 i a,k.2 i a]
structure RI(s:Nat)(r:List Bool):Prop where
 len:r.length=N
 src:r.getD s false=true
 snd:∀v,r.getD v false=true->Rch M fr to lv s v
theorem RI.done{M N:Nat}{fr to:Nat->Nat}{lv:Nat->Bool}{s:Nat}{r:List Bool}(h:RI M N fr to lv s r)(e:∀i,i<M->lv i=true->r.getD (fr i) false=true->r.getD (to i) false=true):RB M N fr to lv s r :=
 ⟨h.len,fun v b=>⟨h.snd v,fun a=>by
   clear b
   induction a with
   | refl=>exact h.src
   | step _ hi c d=>grind⟩⟩
def C9(r:List Bool):Nat:=r.countP id
theorem q0Y{r:List Bool}{i:Nat}(hi:i<r.length)(h:r.getD i false=false):C9 (r.set i true)=C9 r+1:=by
 grind[List.getD_cons_zero,C9]
theorem Wy(r:List Bool):C9 r<=r.length:=List.countP_le_length
def H2(k:Nat)(s:List Bool×Bool):List Bool×Bool:=if(lv k&&s.1.getD (fr k) false&&!s.1.getD (to k) false)=true then(s.1.set (to k) true,true) else s
theorem D0p(f:∀i,i<M->to i<N){s:Nat}{r:List Bool}(h:RI M N fr to lv s r):∀m,m<=M->RI M N fr to lv s (fN (H2 fr to lv) m (r,false)).1 /\
  ((fN (H2 fr to lv) m (r,false)).2=false->(fN (H2 fr to lv) m (r,false)).1=r/\∀i,i<m->lv i=true->r.getD (fr i) false=true->r.getD (to i) false=true) /\
  ((fN (H2 fr to lv) m (r,false)).2=true->C9 r<C9 (fN (H2 fr to lv) m (r,false)).1)/\C9 r<=C9 (fN (H2 fr to lv) m (r,false)).1:=by
 intro m
 induction m with
 | zero=>intro _; exact⟨h,fun _=>⟨rfl,fun i hi=>by omega⟩,(fun h=>by cases h),Nat.le_refl _⟩
 | succ m k =>
   intro o;obtain⟨b,i2,i3,i4⟩:=k (by omega);show RI M N fr to lv s (H2 fr to lv m (fN (H2 fr to lv) m (r,false))).1/\((H2 fr to lv m (fN (H2 fr to lv) m (r,false))).2=false->(H2 fr to lv m (fN (H2 fr to lv) m (r,false))).1=r/\_)/\((H2 fr to lv m (fN (H2 fr to lv) m (r,false))).2=true->_<C9 (H2 fr to lv m (fN (H2 fr to lv) m (r,false))).1)/\_<=C9 (H2 fr to lv m (fN (H2 fr to lv) m (r,false))).1;generalize fN (H2 fr to lv) m (r,false)=q at b i2 i3 i4 ⊢;unfold H2;split
   ·rename_i d;simp only[ba,Bool.not_eq_true'] at d;obtain⟨⟨j,n⟩,l⟩:=d;have a:to m<q.1.length:=by rw[b.len]; exact f m (by omega)
    have g:=q0Y a l;refine⟨⟨by rw[List.length_set,b.len],?_,fun v c=>?_⟩,(fun h=>by cases h),fun _=>by show C9 r<C9 (q.1.set (to m) true); omega,by show C9 r<=C9 (q.1.set (to m) true); omega⟩
    ·show(q.1.set (to m) true).getD s false=true;rw[Jx true a];split
     ·rfl
     ·exact b.src
    ·rw[Jx true a] at c;split at c
     ·rename_i e;subst e;exact(b.snd _ n).step (by omega) j
     ·exact b.snd v c
   grind
theorem p0P{ρ:Type}(j:∀i,i<M->to i<N)(t:N<=1000000){s:Nat}(n:s<N){F:(List Bool×Bool->Option ρ)->List Bool×Bool->Option ρ}{J:List Bool->Option ρ}
  (o:∀g (q:List Bool×Bool),q.1.length=N->F g q=if q.2=true then g (fN (H2 fr to lv) M (q.1,false)) else J q.1):∃L,RB M N fr to lv s L/\lp F ((List.replicate N false).set s true,true)=J L:=by
 have k:RI M N fr to lv s ((List.replicate N false).set s true):=by
  have b:s < (List.replicate N false).length:=by rw[List.length_replicate]; exact n
  refine⟨by rw[List.length_set,List.length_replicate],by rw[Jx true b,if_pos rfl],fun v c=>?_⟩;rw[Jx true b] at c;split at c
  ·rename_i e; subst e; exact .refl
  ·grind
 obtain⟨q,⟨_,a⟩,d,r⟩:=Wk (J:=fun q:List Bool×Bool=>J q.1) (fun q=>2*(N-C9 q.1)+q.2.toNat) (fun q=>RI M N fr to lv s q.1/\(q.2=false->RB M N fr to lv s q.1)) (fun q=>q.2) (fun q=>fN (H2 fr to lv) M (q.1,false))
  (fun g q a=>o g q a.1.len) (fun q a d=>by
    obtain⟨f,i2,i3,i4⟩:=D0p M N fr to lv j a.1 M (Nat.le_refl _);refine⟨⟨f,fun h=>?_⟩,?_⟩
    ·obtain⟨e,m⟩:=i2 h;rw[e];exact a.1.done m
    ·have l:=Wy (fN (H2 fr to lv) M (q.1,false)).1;rw[f.len] at l;show 2*(N-C9 (fN (H2 fr to lv) M (q.1,false)).1)+(fN (H2 fr to lv) M (q.1,false)).2.toNat<2*(N-C9 q.1)+q.2.toNat;rw[d];cases h:(fN (H2 fr to lv) M (q.1,false)).2 with
     | true=>grind
     | false=>grind) (((List.replicate N false).set s true),true) ⟨k,fun h=>by cases h⟩ (by grind)
 grind
def R0D(r:List Bool):Nat:=(List.range M).countP fun i=>lv i&&!r.getD (fr i) false
structure QI(s:Nat)(q:List Int×List Bool):Prop where
 len:q.2.length=N
 mem:∀x∈q.1,0<=x/\x.toNat<N/\Rch M fr to lv s x.toNat
 snd:∀v,q.2.getD v false=true->Rch M fr to lv s v
 src:q.2.getD s false=true∨(s:Int)∈q.1
 cls:∀i,i<M->lv i=true->q.2.getD (fr i) false=true->q.2.getD (to i) false=true∨(to i:Int)∈q.1
 cnt:q.1.length+R0D M fr lv q.2<=M+1
theorem B0I(a:∀i,i<M->to i<N)(b:N<=1000000){s:Nat}(c:s<N):∃L,RB M N fr to lv s L:=by
 obtain⟨L,h,_⟩:=p0P (ρ:=Unit) M N fr to lv a b c (F:=fun g q=>if q.2=true then g (fN (H2 fr to lv) M (q.1,false)) else none) (J:=fun _=>none) (fun _ _ _=>rfl)
 grind
end
abbrev Sp:=Int×Int
abbrev o6:=Sp×Sp
def I0(a b:Sp):Sp:=(min a.1 b.1,max a.2 b.2)
def L0(a b:Sp):Sp:=(a.1+b.1,a.2+b.2)
def Bv(o:Option o6)(x:o6):Option o6:=match o with
 | none=>some x
 | some y=>some (I0 y.1 x.1,I0 y.2 x.2)
section
variable (M:Nat) (fr to:Nat->Nat) (lv:Nat->Bool) (sp:Nat->Sp->Sp×Sp) (src:Nat->Option o6)
def Bw(T:Nat->Option o6)(v k:Nat)(o:Option o6):Option o6:=if(lv k&&to k==v)=true then(match T (fr k) with
 | none=>o
 | some x=>Bv o (L0 x.1 (sp k x.2).1,(sp k x.2).2)) else o
def O6(T:Nat->Option o6)(v:Nat):Option o6:=fN (Bw fr to lv sp T v) M (src v)
def H3(T:Nat->Option o6)(v:Nat)(x:Option o6):Nat->Option o6:=fun w=>if w=v then x else T w
variable (ok:o6->Bool)
def AK(x:Option o6):Bool:=match x with
 | none=>true
 | some y=>ok y
def T4:List Nat->(Nat->Option o6)->Option (Nat->Option o6)
 | [],T=>some T
 | v :: r,T=>if AK ok (O6 M fr to lv sp src T v)=true then T4 r (H3 T v (O6 M fr to lv sp src T v)) else none
end
theorem n0t{a:Type}{f g:Nat->a->a}:∀(n:Nat) (s:a),(∀i s,i<n->f i s=g i s)->fN f n s=fN g n s
 | 0,_,_=>rfl
 | n+1,s,h=>by
   show f n (fN f n s)=g n (fN g n s);rw[n0t n s (fun i s hi=>h i s (by omega)),h n _ (by omega)]
theorem n0s{a b:Type}{f:Nat->a->a}{g:Nat->b->b}(R:a->b->Prop):∀(n:Nat) (s:a) (t:b),R s t->(∀i s t,i<n->R s t->R (f i s) (g i t))->R (fN f n s) (fN g n t)
 | 0,_,_,h,_=>h
 | n+1,s,t,h,hs=>hs n _ _ (by omega) (n0s R n s t h fun i s t hi=>hs i s t (by omega))
theorem Wz{a:Type}{f:Nat->a->a}(I:a->Prop):∀(n:Nat) (s:a),I s->(∀i s,i<n->I s->I (f i s))->I (fN f n s)
 | 0,_,h,_=>h
 | n+1,s,h,hs=>hs n _ (by omega) (Wz I n s h fun i s hi=>hs i s (by omega))
section
variable {M:Nat} {fr to:Nat->Nat} {lv:Nat->Bool} {sp:Nat->Sp->Sp×Sp} {src:Nat->Option o6} {ok:o6->Bool}
theorem i0k{T T':Nat->Option o6}{v:Nat}(h:∀k,k<M->lv k=true->to k=v->T (fr k)=T' (fr k)):O6 M fr to lv sp src T v=O6 M fr to lv sp src T' v:=by
 unfold O6;refine n0t M _ fun k s a=>?_
 grind[Bw]
def Jz(M:Nat)(fr to:Nat->Nat)(lv:Nat->Bool):List Nat->List Nat->Prop
 | _,[]=>True
 | d,v :: r=>(∀k,k<M->lv k=true->to k=v->fr k∈d)/\Jz M fr to lv (d++[v]) r
theorem WA{v:Nat}{r:List Nat}{T:Nat->Option o6}:T4 M fr to lv sp src ok (v :: r) T=if AK ok (O6 M fr to lv sp src T v)=true then T4 M fr to lv sp src ok r (H3 T v (O6 M fr to lv sp src T v)) else none:=rfl
theorem WB:∀(r:List Nat) (T T':Nat->Option o6),T4 M fr to lv sp src ok r T=some T'->∀w,w ∉ r->T' w=T w
 | [],T,T',h,w,_=>by cases h; rfl
 | v :: r,T,T',h,w,hw=>by
   unfold T4 at h;split at h
   ·rw[List.mem_cons,not_or] at hw;rw[WB r _ T' h w hw.2]
    grind[H3]
   grind
theorem k0d:∀(r d:List Nat) (T T':Nat->Option o6),(d++r).Nodup->Jz M fr to lv d r->T4 M fr to lv sp src ok r T=some T'->∀v∈r,T' v=O6 M fr to lv sp src T' v/\AK ok (T' v)=true
 | [],_,_,_,_,_,_,v,hv=>by cases hv
 | u :: r,d,T,T',hd,ha,h,v,hv=>by
   have c:(d++[u]++r).Nodup:=by rw[List.append_assoc]; exact hd
   have a:=List.nodup_append.1 hd;have o:=h;unfold T4 at h;split at h
   ·rename_i b;rcases List.mem_cons.1 hv with e | hv
    ·subst e;have l:v ∉ r:=(List.nodup_cons.1 a.2.1).1;have f:=WB r _ T' h v l;have j:H3 T v (O6 M fr to lv sp src T v) v=O6 M fr to lv sp src T v:=if_pos rfl;rw[j] at f;rw[f];refine⟨i0k fun k n i g=>?_,b⟩;have m:=ha.1 k n i g
     grind[WB]
    ·exact k0d r (d++[u]) _ T' c ha.2 h v hv
   grind
def F3(by':Int)(x:Option o6):Option o6:=x.map fun y=>((y.1.1+by',y.1.2+by'),y.2)
theorem z0n(b:Int)(o:Option o6)(x:o6):Bv (F3 b o) ((x.1.1+b,x.1.2+b),x.2)=F3 b (Bv o x):=by
 cases o with
 | none=>rfl
 | some y =>
   show some (I0 (y.1.1+b,y.1.2+b) (x.1.1+b,x.1.2+b),I0 y.2 x.2)=some (((I0 y.1 x.1).1+b,(I0 y.1 x.1).2+b),I0 y.2 x.2)
   grind[I0]
theorem y0H(b:Int)(T:Nat->Option o6)(v:Nat):O6 M fr to lv sp (fun v=>F3 b (src v)) (fun v=>F3 b (T v)) v=F3 b (O6 M fr to lv sp src T v):=by
 unfold O6;refine n0s (fun s t=>s=F3 b t) M _ _ rfl fun k s t a e=>?_;subst e;unfold Bw;split
 ·cases e:T (fr k) with
  | none =>
    rw[show(fun v=>F3 b (T v)) (fr k)=F3 b (T (fr k)) from rfl,e];rfl
  | some x =>
    rw[show(fun v=>F3 b (T v)) (fr k)=F3 b (T (fr k)) from rfl,e];show Bv (F3 b t) (L0 (x.1.1+b,x.1.2+b) (sp k x.2).1,(sp k x.2).2)=F3 b (Bv t (L0 x.1 (sp k x.2).1,(sp k x.2).2));rw[<- z0n]
    grind[L0]
 ·rfl
theorem D0x(b:Int)(T:Nat->Option o6)(v:Nat)(x:Option o6):H3 (fun v=>F3 b (T v)) v (F3 b x)=fun w=>F3 b (H3 T v x w):=by
 grind[H3]
theorem u0R(b:Int):∀(r:List Nat) (T T':Nat->Option o6),T4 M fr to lv sp src ok r T=some T'->(T4 M fr to lv sp (fun v=>F3 b (src v)) ok r (fun v=>F3 b (T v))=some (fun v=>F3 b (T' v)))∨(T4 M fr to lv sp (fun v=>F3 b (src v)) ok r (fun v=>F3 b (T v))=none/\∃(U:Nat->Option o6) (v:Nat),AK ok (O6 M fr to lv sp src U v)=true/\AK ok (F3 b (O6 M fr to lv sp src U v))=false/\v∈r/\∃p q,r=p++v :: q/\T4 M fr to lv sp src ok p T=some U)
 | [],T,T',h=>by cases h; exact .inl rfl
 | v :: r,T,T',h=>by
   rw[WA] at h ⊢;split at h
   ·rename_i a;rw[y0H];by_cases c:AK ok (F3 b (O6 M fr to lv sp src T v))=true
    ·rw[if_pos c,D0x];rcases u0R b r _ T' h with d | ⟨d,U,w,h2,h3,h4,p,q,h5,h6⟩
     ·grind
     ·refine .inr ⟨d,U,w,h2,h3,List.mem_cons_of_mem _ h4,v :: p,q,by grind,?_⟩;rw[WA,if_pos a];exact h6
    ·rw[if_neg c];exact .inr ⟨rfl,T,v,a,by grind,List.mem_cons_self,[],r,rfl,rfl⟩
   grind
theorem m0S(P:o6->Prop)(h:∀v x,src v=some x->P x)(i:∀x y,P x->P y->P (I0 x.1 y.1,I0 x.2 y.2))(b:∀k x,k<M->lv k=true->P x->P (L0 x.1 (sp k x.2).1,(sp k x.2).2)){T:Nat->Option o6}(g:∀v x,T v=some x->P x)(v:Nat):∀x,O6 M fr to lv sp src T v=some x->P x:=by
 unfold O6;refine Wz (fun o:Option o6=>∀x,o=some x->P x) M _ (h v) fun k o f d=>?_;unfold Bw;split
 ·rename_i c;simp only[ba,beq_iff_eq] at c;cases e:T (fr k) with
  | none=>exact d
  | some y =>
    intro x a;cases o with
    | none =>
      have a:some (L0 y.1 (sp k y.2).1,(sp k y.2).2)=some x:=a;cases a;exact b k y f c.1 (g _ _ e)
    | some z =>
      have a:some (I0 z.1 (L0 y.1 (sp k y.2).1),I0 z.2 (sp k y.2).2)=some x:=a;cases a;exact i z (L0 y.1 (sp k y.2).1,(sp k y.2).2) (d z rfl) (b k y f c.1 (g _ _ e))
 omega
theorem WC(P:o6->Prop)(d:∀v x,src v=some x->P x)(c:∀x y,P x->P y->P (I0 x.1 y.1,I0 x.2 y.2))(b:∀k x,k<M->lv k=true->P x->P (L0 x.1 (sp k x.2).1,(sp k x.2).2)):∀(r:List Nat) (T T':Nat->Option o6),(∀v x,T v=some x->P x)->T4 M fr to lv sp src ok r T=some T'->∀v x,T' v=some x->P x
 | [],T,T',hT,h=>by cases h; exact hT
 | u :: r,T,T',hT,h=>by
   unfold T4 at h;split at h
   ·refine WC P d c b r _ T' (fun v x a=>?_) h;unfold H3 at a;split at a
    ·exact m0S P d c b hT u x a
    grind
   grind
def JA(a b:Sp):Prop:=b.1<=a.1/\a.2<=b.2
def insO(x y:Option o6):Prop:=∀a,x=some a->∃c,y=some c/\JA a.1 c.1/\JA a.2 c.2
theorem insO.refl(x:Option o6):insO x x:=fun a h=>⟨a,h,⟨Int.le_refl _,Int.le_refl _⟩,⟨Int.le_refl _,Int.le_refl _⟩⟩
theorem insO.none(y:Option o6):insO none y:=fun _ h=>by cases h
end
end Go.Proofs.Xd
end
section
namespace Go.Proofs.YtdjgagoledoaaaaGreatDoor
open Go Go.Proofs Go.Proofs.Sv Go.Proofs.Xv Go.Proofs.Xl Go.Proofs.Xd
structure SpanV(b:j9)(c:p8)(q:Int)(dv lv:Int->Int->Int):Prop where
 del:∀s m,M3 (o5 b) c q s m=some (dv s m)
 d0:∀s m,0<=dv s m/\dv s m<=5000000
 d2:∀s,dv s 0<=dv s 1
 slw:∀s m,0<=s->s<=1000000->m=0∨m=1->F9 (o5 b) q s m=some (lv s m)/\0<=lv s m/\lv s m<=1000000
 l2:∀s,0<=s->s<=1000000->lv s 0<=lv s 1
section
variable {b:j9}
theorem H0I(n:wf l9 b)(_:cnt l9 b<=1048576)(a:p9 b=true){c:p8}(_:wf r7 c)(k:G8 c=true){q:Int}(f:m0 q 0 (((lV b).length:Int)-1)=true):∃dv lv,SpanV b c q dv lv:=by
 obtain⟨B,u⟩:=E0C a f;obtain⟨d,t,j⟩:=I0O a k f;have e:∀s m,d s m=u6 (B s m*C1 c ((lV b).getD q.toNat (a6 y80)).2.2.1 m) 1000 m:=fun s m=>by
  have o:=t s m;rw[u.val c k] at o
  grind
 refine⟨d,fun s m=>vl (F9 (o5 b) q s m),⟨t,fun s m=>?_,j,fun s m g i h=>?_,fun s g i=>?_⟩⟩
 ·rw[e];have F:=u.bd s m;have z:=DG k ((lV b).getD q.toNat (a6 y80)).2.2.1 m;have w:=Int.mul_nonneg F.1 z.1;have o:=K9 (A:=1000000) (B:=5000) (x:=B s m) (y:=C1 c ((lV b).getD q.toNat (a6 y80)).2.2.1 m) (by omega) (by omega) (by omega) (by omega) (by decide);exact⟨Ju m w (by decide),(FI (K:=5000000) m (by decide) (by omega) (by omega)).2⟩
 ·obtain⟨r,l,_,E⟩:=MY n a f g i h;have v:=y0a n a f g i h l;show _=some (vl (F9 (o5 b) q s m))/\0<=vl (F9 (o5 b) q s m)/\vl (F9 (o5 b) q s m)<=1000000;rw[l];exact⟨rfl,v,E⟩
 grind[x0Z,vl,F9,o5]
def AL(dv lv:Int->Int->Int)(sp:Sp):Sp×Sp:=((min (dv sp.1 0) (dv sp.2 0),max (dv sp.1 1) (dv sp.2 1)),min (lv sp.1 0) (lv sp.2 0),max (lv sp.1 1) (lv sp.2 1))
theorem SpanV.spans{c:p8}{q:Int}{a lv:Int->Int->Int}(h:SpanV b c q a lv)(j:m0 q 0 (((lV b).length:Int)-1)=true){sp:Sp}(e:A6 sp=true):Dp (o5 b) c q sp=some (AL a lv sp):=by
 unfold A6 at e;rw[ba,ba] at e;have f:=A4.1 e.1.2;have d:=A4.1 e.2;have i:=A4.1 j;have g:ix q (o5 b).2.2.1.length:=⟨i.1,by show q < ((lV b).length:Int); omega⟩;unfold Dp;rw[h.del,h.del,h.del,h.del];refine(gP ⟨rfl,rfl,rfl,rfl,trivial⟩).trans ?_;rw[lE];refine(gP ⟨g,trivial⟩).trans ?_;rw[lE];refine(if_neg ?_).trans ?_
 ·show ¬(decide ((0:Int)<0)&&_)=true;simp
 ·show GP (o5 b) q sp (min (a sp.1 0) (a sp.2 0),max (a sp.1 1) (a sp.2 1))=_;rw[GP,(h.slw sp.1 0 f.1 f.2 (.inl rfl)).1,(h.slw sp.2 0 d.1 d.2 (.inl rfl)).1,(h.slw sp.1 1 f.1 f.2 (.inr rfl)).1,(h.slw sp.2 1 d.1 d.2 (.inr rfl)).1];rfl
theorem SpanV.ok{c:p8}{q:Int}{a lv:Int->Int->Int}(h:SpanV b c q a lv){sp:Sp}(f:A6 sp=true):0<=(AL a lv sp).1.1/\(AL a lv sp).1.1<=(AL a lv sp).1.2/\(AL a lv sp).1.2<=5000000/\A6 (AL a lv sp).2=true:=by
 unfold A6 at f;rw[ba,ba] at f;have d:=A4.1 f.1.2;have e:=A4.1 f.2;have j:=h.d0 sp.1 0;have n:=h.d0 sp.2 0;have m:=h.d0 sp.1 1;have g:=h.d0 sp.2 1;have o:=h.d2 sp.1;have r:=(h.slw sp.1 0 d.1 d.2 (.inl rfl)).2;have i:=(h.slw sp.2 0 e.1 e.2 (.inl rfl)).2;have k:=(h.slw sp.1 1 d.1 d.2 (.inr rfl)).2;have s:=(h.slw sp.2 1 e.1 e.2 (.inr rfl)).2;have l:=h.l2 sp.1 d.1 d.2;unfold AL;refine⟨by grind,by grind,by grind,?_⟩;unfold A6 C2;simp only[ba,dq]
 grind[A4]
def Ni(t:w8):Prop:=∀r q,r+1<t.1.length->q<t.2.1.length->J7 t r q<=J7 t (r+1) q
def M0V(b:j9):Prop:=∀ce∈b.1,∀ar∈ce.2.2.2.1,(∀t∈ar.2.2.2.2.1,Ni t)/\∀t∈ar.2.2.2.2.2,Ni t
theorem z0R{l:x6}{a:F0}{n:Nat}(i:M0V b)(h:MW b l a n):(∀t∈a.2.2.2.2.1,Ni t)/\∀t∈a.2.2.2.2.2,Ni t:=by
 have g:=h.cix;have f:=h.aix;have c:(m7 b.2.1 (u5 b.2.1 (l.2.1.tdiv 2).toNat).1.toNat).2.1.toNat<b.1.length:=by have:=g.1; have:=g.2; omega
 have e:l.2.2.2.toNat < (b.1.getD (m7 b.2.1 (u5 b.2.1 (l.2.1.tdiv 2).toNat).1.toNat).2.1.toNat (a6 y64)).2.2.2.1.length:=by have:=f.1; have:=f.2; omega
 have:=i _ (H8 (d:=a6 y64) c) _ (H8 (d:=a6 y67) e);rw[h.arc] at this;omega
theorem v0H{T:List w8}(e:F2 T true=true)(g:∀t∈T,Ni t){x:Int}(k:x=0∨x=1)(l:Int){s f m:Int}(n:m=0∨m=1)(j:s<=f){V:Int->Int->Int}(i:Nb (T.getD x.toNat (a6 y70)) l V):V s m<=V f m:=by
 obtain⟨c,h⟩:=CJ e k;have b:x.toNat<T.length:=by have:=c.1; have:=c.2; omega
 have a:=H8 (d:=a6 y70) b;exact v0G h (QS e a) (g _ a) l i n j
theorem SpanV.mono(_:wf l9 b)(F:p9 b=true)(hM:M0V b){c:p8}(Y:G8 c=true){q:Int}(hq:m0 q 0 (((lV b).length:Int)-1)=true){G lv:Int->Int->Int}(h:SpanV b c q G lv):(∀s s' m,s<=s'->m=0∨m=1->G s m<=G s' m)/\∀s s' m,0<=s->s<=s'->s'<=1000000->m=0∨m=1->lv s m<=lv s' m:=by
 obtain⟨x1,x2⟩:=Wv hq;have u:ix q (o5 b).2.2.1.length:=x1;have o:(lV b).getD q.toNat (a6 y80)∈lV b:=H8 x2;rcases Hq F o with ⟨a,n,e⟩ | ⟨n,k,e⟩
 ·obtain⟨m1,m2⟩:=z0R hM e;obtain⟨V,T,aG⟩:=QW F e.del e.trs ((z8 b n).getD 0 0);obtain⟨W,hW,aC⟩:=QW F e.slw e.trs ((z8 b n).getD 0 0);have ed:∀s m,G s m=u6 (V s m*C1 c ((lV b).getD q.toNat (a6 y80)).2.2.1 m) 1000 m:=fun s m=>by
   have h1:=h.del s m
   grind[q0W,Option.some.inj]
  refine⟨fun s s' m i f=>?_,fun s s' m E i H f=>?_⟩
  ·rw[ed,ed];refine w0h m (Int.mul_nonneg (T.pos _ _) (DG Y _ _).1) ?_;exact Int.mul_le_mul_of_nonneg_right (v0H e.del m1 e.trs _ f i T) (DG Y _ _).1
  ·have X:=v0H e.slw m2 e.trs _ f i hW;obtain⟨t1,t2⟩:=CJ e.slw e.trs;obtain⟨t,v⟩:=Hw b e.nlt;have aB:=(h.slw s m E (by omega) f).1;have aA:=(h.slw s' m (by omega) H f).1;generalize hll:(lV b).getD q.toNat (a6 y80)=l at e T hW t1 t2 t v X;have g:(o5 b).2.2.1.getD q.toNat (a6 y80)=l:=hll;have val:∀s,F9 (o5 b) q s m=some (W s m):=fun s=>by
    unfold F9;refine(gP ⟨u,trivial⟩).trans ?_;rw[lE,g,Z7 e.pix e.net,vS,gP ⟨rfl,trivial⟩,lE];refine(if_pos (by rw[e.kind]; rfl)).trans ?_;rw[Hr e,vS,t,hW.val,vS];refine(gP ⟨rfl,by decide,t1,v,rfl,trivial⟩).trans ?_;rw[lE];have:=aC s m;have:min (W s m) 1000000=W s m:=by omega
    rw[this]
   grind
 ·have no:=Bq F e.nlt;obtain⟨dl,db⟩:=no.delays;have hd:=db (w9 b n k).toNat;obtain⟨t,v⟩:=Hx b e.nlt;have aF:=Hm b n;have j:=e.klt;have e4:((k:Int)).toNat=k:=rfl;generalize hll:(lV b).getD q.toNat (a6 y80)=l at e;have g:(o5 b).2.2.1.getD q.toNat (a6 y80)=l:=hll;refine⟨fun s s' m i f=>?_,fun s s' m E i H f=>?_⟩
  ·have h1:=h.del s m;have h2:=h.del s' m;have hv:=FI (a:=(B0 b n).getD (w9 b n k).toNat 0) (b:=1000) (K:=301000) m (by decide) (by omega) (by omega);have aH:=Ju (a:=(B0 b n).getD (w9 b n k).toNat 0) (b:=1000) m (by omega) (by decide);have aD:∀s,M3 (o5 b) c q s m=some (u6 (u6 ((B0 b n).getD (w9 b n k).toNat 0) 1000 m*C1 c l.2.2.1 m) 1000 m):=fun s=>by
    have hf:=DG Y l.2.2.1 m;have hp:=K9 (A:=1000000) (B:=5000) (x:=u6 ((B0 b n).getD (w9 b n k).toNat 0) 1000 m) (y:=C1 c l.2.2.1 m) (by omega) (by omega) (by omega) (by omega) (by decide);have Q:=V9 (u6 ((B0 b n).getD (w9 b n k).toNat 0) 1000 m*C1 c l.2.2.1 m) 1000 m (by omega) (by omega) (by decide);have P:AD (u6 ((B0 b n).getD (w9 b n k).toNat 0) 1000 m) (C1 c l.2.2.1 m) m=some (u6 (u6 ((B0 b n).getD (w9 b n k).toNat 0) 1000 m*C1 c l.2.2.1 m) 1000 m):=by
     unfold AD;rw[Q.1,vS,gP ⟨oo,rfl,trivial⟩,lE]
    unfold M3;refine(gP ⟨x1,trivial⟩).trans ?_;rw[lE,g,Z7 e.pix e.net,vS,gP ⟨rfl,trivial⟩,lE];refine(if_neg (by rw[e.kind]; decide)).trans ?_;rw[t,e.idx,e4,Hl j,(V9 _ 1000 m (by omega) (by omega) (by decide)).1,vS];refine(gP ⟨v,oo,rfl,trivial⟩).trans ?_;rw[lE];show AE c l m _=_;rw[AE,MZ,vS,P,vS,gP ⟨rfl,rfl,trivial⟩,lE]
   grind
  ·obtain⟨r,z,w1,w2,w3⟩:=r0x (d:=(B0 b n).getD (w9 b n k).toNat 0) (m:=m) E i H hd.1 hd.2 f;have val:∀s r,X0 s ((B0 b n).getD (w9 b n k).toNat 0) m=some r->F9 (o5 b) q s m=some (min r 1000000):=fun s r w=>by
    unfold F9;refine(gP ⟨u,trivial⟩).trans ?_;rw[lE,g,Z7 e.pix e.net,vS,gP ⟨rfl,trivial⟩,lE];refine(if_neg (by rw[e.kind]; decide)).trans ?_;rw[t,e.idx];rw[e4,Hl j,w,vS];refine(gP ⟨v,oo,rfl,trivial⟩).trans ?_;rw[lE]
   have aB:=(h.slw s m E (by omega) f).1;have aA:=(h.slw s' m (by omega) H f).1
   grind
theorem SpanV.ins{b lv:Int->Int->Int}(g:∀s a m,s<=a->m=0∨m=1->b s m<=b a m)(f:∀s a m,0<=s->s<=a->a<=1000000->m=0∨m=1->lv s m<=lv a m){s a:Sp}(i:A6 s=true)(j:A6 a=true)(hi:JA s a):JA (AL b lv s).1 (AL b lv a).1/\JA (AL b lv s).2 (AL b lv a).2:=by
 have e:∀{s:Sp},A6 s=true->0<=s.1/\s.1<=s.2/\s.2<=1000000:=fun {s} i=>by
  unfold A6 C2 at i;simp only[ba,dq] at i
  grind[A4]
 obtain⟨k,h,l⟩:=e i;obtain⟨o,z,n⟩:=e j;have c:=hi.1;have d:=hi.2;have r:=g a.1 s.1 0 c (.inl rfl);have w:=g s.1 s.2 0 h (.inl rfl);have x:=g s.2 a.2 1 d (.inr rfl);have u:=g s.1 s.2 1 h (.inr rfl);have y:=f a.1 s.1 0 o c (by omega) (.inl rfl);have v:=f s.1 s.2 0 k h l (.inl rfl);have q:=f s.2 a.2 1 (by omega) d n (.inr rfl);have t:=f s.1 s.2 1 k h l (.inr rfl)
 grind[JA,AL]
end
end Go.Proofs.YtdjgagoledoaaaaGreatDoor
end
section
namespace Go.Proofs.Xd
open Go.Proofs.Xl
abbrev JB:=List Bool×List Sp×List Sp
def p6(N:Nat)(T:Nat->Option o6):JB:=((List.range N).map fun v=>(T v).isSome,(List.range N).map fun v=>((T v).getD ((0,0),(0,0))).1,(List.range N).map fun v=>((T v).getD ((0,0),(0,0))).2)
def BY(t:JB):Nat->Option o6:=fun v=>if t.1.getD v false=true then some (t.2.1.getD v (0,0),t.2.2.getD v (0,0)) else none
theorem CL{a:Type}(f:Nat->a)(N:Nat)(d:a){v:Nat}(h:v<N):((List.range N).map f).getD v d=f v:=by
 rw[gq,List.getElem?_map,List.getElem?_range h];rfl
theorem v0z{b:Type}(f g:Nat->b)(N v:Nat)(h:∀w,w<N->w≠v->f w=g w):((List.range N).map f).set v (g v)=(List.range N).map g:=by
 refine List.ext_getElem? fun i=>?_;rw[List.getElem?_set,List.getElem?_map,List.getElem?_map,List.length_map,List.length_range];by_cases hi:i<N
 ·rw[List.getElem?_range hi];by_cases e:v=i
  ·subst e;rw[if_pos rfl,if_pos hi];rfl
  ·rw[if_neg e];show some (f i)=some (g i);rw[h i hi (fun a=>e a.symm)]
 ·rw[List.getElem?_eq_none (by rw[List.length_range]; omega)];by_cases e:v=i
  ·rw[if_pos e,if_neg (by omega)]; rfl
  ·rw[if_neg e]; rfl
theorem w0k{N:Nat}{T:Nat->Option o6}{v:Nat}(h:v<N):BY (p6 N T) v=T v:=by
 unfold BY p6;simp only;rw[CL _ N _ h,CL _ N _ h,CL _ N _ h];cases T v <;> rfl
theorem z0E{N:Nat}{T:Nat->Option o6}{v:Nat}(h:T v=none):p6 N (H3 T v none)=p6 N T:=by
 have:H3 T v none=T:=by
  funext w;unfold H3;split
  ·rename_i e; rw[e,h]
  ·rfl
 rw[this]
theorem DH{N:Nat}{T:Nat->Option o6}:(p6 N T).1.length=N/\(p6 N T).2.1.length=N/\(p6 N T).2.2.length=N:=by
 unfold p6;simp
section
variable (M:Nat) (fr to:Nat->Nat) (lv:Nat->Bool) (sp:Nat->Sp->Sp×Sp) (src:Nat->Option o6) (T:Nat->Option o6) (md:Int)
end
section
variable {M:Nat} {fr to:Nat->Nat} {lv:Nat->Bool} {sp:Nat->Sp->Sp×Sp} {src:Nat->Option o6} {T:Nat->Option o6} {md:Int}
end
abbrev K4:=Int×Sp×Sp
def Hz(l:List K4):Prop:=l.Pairwise fun x y=>x.1<y.1
def I5(l:List K4)(v:Nat):Option o6:=(l.find? fun s=>s.1==(v:Int)).map fun s=>s.2
theorem WD{l:List K4}(h:Hz l){s:K4}(f:s∈l){v:Nat}(n:s.1=(v:Int)):I5 l v=some s.2:=by
 unfold I5;cases e:l.find? fun s=>s.1==(v:Int) with
 | none =>
   have:=List.find?_eq_none.1 e s f;simp[n] at this
 | some x =>
   have k:=List.find?_some e;have m:=List.mem_of_find?_eq_some e;have k:x.1=(v:Int):=by simpa using k
   obtain⟨i,hi,b⟩:=List.getElem_of_mem m;obtain⟨j,g,a⟩:=List.getElem_of_mem f;have d:=List.pairwise_iff_getElem.1 h;rcases Nat.lt_trichotomy i j with c | c | c
   ·have:=d i j hi g c;rw[b,a] at this;omega
   ·subst c;rw[b] at a;rw[a];rfl
   ·have:=d j i g hi c;rw[b,a] at this;omega
theorem x0S{l:List K4}{v:Nat}(h:∀s∈l,s.1≠(v:Int)):I5 l v=none:=by
 unfold I5;rw[List.find?_eq_none.2 fun s a=>by simpa using h s a];rfl
theorem WG{l:List K4}{v:Nat}{x:o6}(h:I5 l v=some x):∃s∈l,s.1=(v:Int)/\s.2=x:=by
 unfold I5 at h;cases e:l.find? fun s=>s.1==(v:Int) with
 | none=>rw[e] at h; cases h
 | some s =>
   rw[e] at h;cases h;exact⟨s,List.mem_of_find?_eq_some e,by simpa using List.find?_some e,rfl⟩
def DI(l:List K4)(d:K4)(v:Nat)(i:Nat)(o:Option o6):Option o6:=if((l.getD i d).1==(v:Int))=true then some (l.getD i d).2 else o
theorem x0T{l:List K4}(h:Hz l)(d:K4)(v:Nat):fN (DI l d v) l.length none=I5 l v:=by
 have g:∀n,n<=l.length->fN (DI l d v) n none=I5 (l.take n) v:=by
  intro n
  induction n with
  | zero=>intro _; rfl
  | succ n m =>
    intro r;have b:n<l.length:=by omega
    have k:l.getD n d=l[n]:=by rw[gq,List.getElem?_eq_getElem b]; rfl
    have hi:Hz (l.take (n+1)):=h.sublist (List.take_sublist _ _);have f:l.take (n+1)=l.take n++[l[n]]:=by rw[List.take_add_one,List.getElem?_eq_getElem b]; rfl
    show DI l d v n (fN (DI l d v) n none)=_;rw[m (by omega)];unfold DI;rw[k];by_cases c:(l[n].1==(v:Int))=true
    ·rw[if_pos c];exact(WD hi (by rw[f]; exact List.mem_append_right _ (List.mem_singleton.2 rfl)) (by simpa using c)).symm
    ·rw[if_neg c];cases e:I5 (l.take n) v with
     | none =>
       refine(x0S fun s a i=>?_).symm;rw[f] at a;rcases List.mem_append.1 a with a | a
       ·have:=WD (h.sublist (List.take_sublist n l)) a i;rw[e] at this;cases this
       ·rw[List.mem_singleton.1 a] at i;exact c (by simpa using i)
     | some x =>
       obtain⟨s,o,j,q⟩:=WG e;have:=WD hi (by rw[f]; exact List.mem_append_left _ o) j;rw[this,q]
 have:=g l.length (Nat.le_refl _)
 rwa [List.take_of_length_le (Nat.le_refl _)] at this
def T5(b:Int)(s:K4):K4:=(s.1,(s.2.1.1+b,s.2.1.2+b),s.2.2)
theorem u0x(l:List K4)(b:Int)(v:Nat):I5 (l.map (T5 b)) v=F3 b (I5 l v):=by
 unfold I5;rw[List.find?_map];have:((fun s:K4=>s.1==(v:Int)) ∘ T5 b)=fun s=>s.1==(v:Int):=rfl;rw[this];cases l.find? fun s=>s.1==(v:Int) <;> rfl
end Go.Proofs.Xd
end
section
namespace Go.Proofs.YtdjgagoledoaaaaGreatDoor
open Go Go.Proofs Go.Proofs.Sv Go.Proofs.Xv Go.Proofs.Xl Go.Proofs.Xd
theorem k8{ρ:Type}{V:Prop}[Decidable V]{e:Option ρ}{P:ρ->Prop}(a:V)(h:∃r,e=some r/\P r):∃r,gd V e=some r/\P r:=by grind[gP]
theorem N1{a ρ:Type}{F:(a->Option ρ)->a->Option ρ}(b:a->Nat)(I:a->Prop){P:ρ->Prop}(j:∀g s,I s->(∀s',I s'->b s'<b s->∃r,g s'=some r/\P r)->∃r,F g s=some r/\P r){s:a}(c:I s)(f:b s<=18446744073709551616):∃r,lp F s=some r/\P r:=by
 have e:∀n s,I s->b s<n->∃r,J6 F n s=some r/\P r:=by
  intro n
  induction n with
  | zero=>omega
  | succ n i =>
    intro s c h;exact j (J6 F n) s c fun s' d k=>i s' d (by omega)
 exact e V8 s c (by grind[V8])
def Sd(s:l6):Prop:=sd s/\s.1.length<=9223372036854775807/\∀b∈s.1,0<=b/\b<=255
theorem Sd.sd{s:l6}(h:Sd s):YtdjgagoledoaaaaGreatDoor.sd s:=h.1
theorem A0{s:l6}{n:Int}(h:Sd s)(o:n<=9223372036854775807):∃v s',c9 s n=some (v,s')/\Sd s'/\0<=v/\(1<=n->v<n)/\(n<=1->v=0):=by
 obtain⟨⟨f,i,k⟩,e,c⟩:=h;have g:∀x:Int,0<=x->0<=x.tmod 2147483647/\x.tmod 2147483647<2147483647:=fun x a=>⟨Int.tmod_nonneg _ a,Int.tmod_lt_of_pos x (by omega)⟩;unfold c9;by_cases d:n<=1
 ·rw[if_pos (decide_eq_true d)];exact⟨0,_,rfl,⟨⟨f,i,k⟩,e,c⟩,by omega,by omega,fun _=>rfl⟩
 ·rw[if_neg (by grind)];by_cases j:s.2.1 < (s.1.length:Int)
  ·rw[if_pos (decide_eq_true j)];have l:0<=s.1.getD s.2.1.toNat 0/\s.1.getD s.2.1.toNat 0<=255:=by
    have b:s.2.1.toNat<s.1.length:=by omega
    rw[gq,List.getElem?_eq_getElem b];exact c _ (List.getElem_mem b)
   rw[gP ⟨⟨f,j⟩,trivial,trivial⟩,gP ⟨oo,trivial⟩];by_cases m:n<=256
   ·rw[if_pos (decide_eq_true m),gP ⟨by omega,trivial⟩];exact⟨_,_,rfl,⟨⟨by grind,i,k⟩,e,c⟩,Int.tmod_nonneg _ l.1,fun _=>Int.tmod_lt_of_pos _ (by omega),fun h=>(d h).elim⟩
   ·rw[if_neg (by grind),gP ⟨oo,oo,oo,by omega,trivial⟩,lE,gP ⟨by omega,trivial⟩];have a:=g (s.2.2*48271+s.1.getD s.2.1.toNat 0+1) (by omega);exact⟨_,_,rfl,⟨⟨by grind,a.1,a.2⟩,e,c⟩,Int.tmod_nonneg _ a.1,fun _=>Int.tmod_lt_of_pos _ (by omega),fun h=>(d h).elim⟩
  ·rw[if_neg (by grind),gP ⟨oo,oo,by omega,trivial⟩,gP ⟨by omega,by omega,trivial⟩];have a:=g (s.2.2*48271+11) (by omega);exact⟨_,_,rfl,⟨⟨f,a.1,a.2⟩,e,c⟩,Int.tmod_nonneg _ (Int.tdiv_nonneg a.1 (by omega)),fun _=>Int.tmod_lt_of_pos _ (by omega),fun h=>(d h).elim⟩
theorem w0D{s:l6}{n:Int}(h:Sd s)(l:1<=n)(G:n<=1000):∃r,GV s n=some r/\Sd r.2/\1<=r.1.length/\r.1.length<=3:=by
 obtain⟨H,F,u,j,Q,k,_⟩:=A0 (n:=n) h (by omega);obtain⟨V,P,w,d,T,o,_⟩:=A0 (n:=3) j (by omega);have k:=k l;have o:=o (by omega);unfold GV;simp only[u,w,vS,lE,Option.isSome_some];refine k8 ⟨trivial,trivial⟩ (k8 ⟨trivial,oo,trivial⟩ ?_);refine N1 (fun x=>x.2.1.toNat) (fun x=>Sd (x.2.2.1,x.2.2.2.1,x.2.2.2.2.1)/\0<=x.1/\x.1+1001*x.2.1<=5000/\0<=x.2.1/\1<=(x.2.2.2.2.2.length:Int)+x.2.1/\(x.2.2.2.2.2.length:Int)+x.2.1<=3) ?_ ⟨d,by omega,by grind,by grind,by grind,by grind⟩ (by grind);rintro g ⟨x,m,c,z,t,y⟩ ⟨i,i2,i3,i4,i5,i6⟩ q;simp only at i i2 i3 i4 i5 i6;unfold A0e;dsimp only;by_cases E:0<m
 ·obtain⟨v,W,e,f,a,b,_⟩:=A0 (n:=n) i (by omega);have b:=b l;simp only[e,vS,lE,Option.isSome_some];rw[if_pos (decide_eq_true E)];refine k8 ⟨⟨by grind,by grind⟩,trivial⟩ (k8 ⟨oo,trivial,oo,trivial⟩ (k8 ⟨oo,trivial⟩ ?_));exact q _ ⟨f,by omega,by grind,by grind,by grind,by grind⟩ (by grind)
 ·rw[if_neg (by grind)];exact⟨_,rfl,i,by grind,by grind⟩
def HA(t:w8):Prop:=t.1.length<=3/\t.2.1.length<=3/\t.2.2.length<=9
theorem Qw{s:l6}{base:Int}(h:Sd s)(h1 : -1000<=base)(h2:base<=1000):∃r,Fu s base=some r/\Sd r.2/\HA r.1:=by
 obtain⟨⟨G,s0⟩,V,w,a0,W⟩:=w0D (n:=60) h (by omega) (by omega);obtain⟨⟨l,s1⟩,X,t,a1,b1⟩:=w0D (n:=40) w (by omega) (by omega);simp only at w a0 W t a1 b1 V X;unfold Fu;simp only[V,X,vS,lE,Option.isSome_some];refine k8 ⟨trivial,trivial⟩ (k8 ⟨trivial,trivial⟩ ?_);have aA:G.length*l.length<=9:=Nat.mul_le_mul W b1;have H:((G.length:Int)*(l.length:Int))=((G.length*l.length:Nat):Int):=by simp
 refine N1 (fun x=>(10-x.1).toNat) (fun x=>Sd x.2.2/\0<=x.1/\x.1<=9/\(x.2.1.length:Int)=x.1/\∀y∈x.2.1,-2000<=y/\y<=2000+40*x.1) ?_ ⟨t,by omega,by omega,by simp,by simp⟩ (by omega);rintro g ⟨i,f,c,aD,aB⟩ ⟨P,i2,i3,i4,i5⟩ ih;simp only at P i2 i3 i4 i5;unfold A0h;dsimp only;refine k8 ⟨oo,trivial⟩ ?_;rw[H];by_cases cm:i < ((G.length*l.length:Nat):Int)
 ·rw[if_pos (decide_eq_true cm)];obtain⟨v,s',e,u,a,b,_⟩:=A0 (n:=10) P (by omega);have b:=b (by omega);simp only[e,vS,lE,Option.isSome_some];refine k8 ⟨trivial,oo,trivial⟩ (k8 ⟨by omega,trivial⟩ ?_);have m:∀j:Nat,-2000<=f.getD j 0/\f.getD j 0<=2000+40*i:=fun j=>by
   rw[gq];cases hj:f[j]? with
   | none=>grind
   | some y=>exact i5 y (List.mem_of_getElem? hj)
  -- the k step
  have k:∀(y:Int) (d:l6),Sd d -> -2000<=y->y<=2040+40*i->∃r,Me i f g (y,d.1,d.2.1,d.2.2)=some r/\Sd r.2/\HA r.1:=by
   intro y d o y1 y2;unfold Me;dsimp only;refine k8 ⟨⟨by grind,by grind⟩,trivial⟩ (k8 ⟨oo,trivial⟩ ?_);refine ih _ ⟨o,by omega,by omega,by grind,fun z hz=>?_⟩ (by omega);rcases List.mem_append.1 hz with hz | hz
   ·grind
   ·grind
  have F:∀(y:Int) (d:l6),Sd d -> -2000<=y->y<=2040+40*i->∃r,Mf i f (l,s1) g (y,d.1,d.2.1,d.2.2)=some r/\Sd r.2/\HA r.1:=by
   intro y d o y1 y2;unfold Mf;dsimp only;obtain⟨v2,Q,T,q,a3,E,_⟩:=A0 (n:=20) o (by omega);have E:=E (by omega);obtain⟨c2,a2,d2⟩:=d;simp only[T,vS,lE,Option.isSome_some];by_cases c3:(l.length:Int)<=i
   ·rw[if_pos (decide_eq_true c3)];have:=m (i-(l.length:Int)).toNat;refine k8 ⟨oo,oo,by omega,trivial,oo,trivial⟩ ?_;exact k _ Q q (by omega) (by omega)
   ·grind
  by_cases Y:0<i.tmod (l.length:Int)
  ·rw[if_pos (decide_eq_true Y)];obtain⟨v2,Q,T,q,a3,E,_⟩:=A0 (n:=20) u (by omega);have E:=E (by omega);simp only[T,vS,Option.isSome_some];have aC:i≠0:=fun h=>by subst h; simp at Y
   have:=m (i-1).toNat;refine k8 ⟨oo,oo,by omega,trivial,oo,trivial⟩ ?_;exact F _ Q q (by omega) (by omega)
  ·rw[if_neg (by grind)];exact F _ s' u (by omega) (by omega)
 ·rw[if_neg (by grind)];refine⟨_,rfl,P,by omega,by omega,by grind⟩
theorem WH{s:l6}{base:Int}(h:Sd s)(f : -1000<=base)(c:base<=1000):∃r,Ds s base=some r/\Sd r.2/\r.1.length=2/\∀t∈r.1,HA t:=by
 obtain⟨⟨m,k⟩,d,a,i⟩:=Qw h f c;obtain⟨⟨n,l⟩,e,b,g⟩:=Qw a f c;simp only at a i b g d e;unfold Ds;simp only[d,e,vS,lE,Option.isSome_some];refine k8 ⟨trivial,trivial⟩ (k8 ⟨trivial,trivial⟩ ⟨_,rfl,b,rfl,fun t j=>?_⟩)
 grind
def JC(a:B3):Prop:=a.2.2.2.2.1.length<=2/\(∀t∈a.2.2.2.2.1,HA t)/\a.2.2.2.2.2.length<=2/\∀t∈a.2.2.2.2.2,HA t
theorem Nj{s:l6}{k x y z:Int}(h:Sd s):∃r,L6 s k x y z=some r/\Sd r.2/\JC r.1:=by
 unfold L6;by_cases c:4<=k
 ·rw[if_pos (decide_eq_true c)];obtain⟨v,w,e,f,a,b,_⟩:=A0 (n:=10) h (by omega);have b:=b (by omega);obtain⟨⟨t,u⟩,g,d,l,i⟩:=WH (base:=5-v) f (by omega) (by omega);simp only at d l i g;simp only[e,g,vS,lE,Option.isSome_some];refine k8 ⟨trivial,oo,trivial,trivial⟩ ⟨_,rfl,d,?_⟩;exact⟨by grind,i,by simp,by simp⟩
 ·rw[if_neg (by grind)];obtain⟨v,w,e,f,a,b,_⟩:=A0 (n:=20) h (by omega);have b:=b (by omega);obtain⟨⟨t,u⟩,g,d,l,i⟩:=WH (base:=5+v) f (by omega) (by omega);obtain⟨⟨F,E⟩,o,j,q,m⟩:=WH (base:=10) d (by omega) (by omega);simp only at d l i g j q m o;simp only[e,g,o,vS,lE,Option.isSome_some];refine k8 ⟨trivial,oo,trivial,trivial⟩ (k8 ⟨trivial,trivial⟩ ⟨_,rfl,j,?_⟩);exact⟨by grind,i,by grind,m⟩
theorem B0C{a:Type}{f:a->Nat}{k:Nat}:∀{xs:List a},(∀x∈xs,f x<=k)->(xs.map f).sum<=xs.length*k
 | [],_=>by simp
 | x :: r,h=>by
   have:=B0C (xs:=r) (fun y b=>h y (by grind))
   grind[List.length_cons,Nat.add_mul]
theorem CM{e:Ty}{xs:List (j6 e)}{m k:Nat}(a:xs.length<=m)(h:∀x∈xs,cnt e x<=k):cnt (.sl e) xs<=m+m*k:=by
 rw[AM];have:=B0C h;have:=Nat.mul_le_mul_right k a;omega
theorem w6{a ρ:Type}{x:a}{f:a->Option ρ}{P:ρ->Prop}(h:∃r,f x=some r/\P r):∃r,lt x f=some r/\P r:=h
theorem u0s{t:w8}(h:HA t):cnt y70 t<=15:=by
 obtain⟨a,c,b⟩:=h
 grind[J8,FL]
theorem w0I{a:B3}(h:JC a):cnt y67 a<=64:=by
 obtain⟨f,c,g,d⟩:=h;show cnt (.pr (.int .i64) (.pr (.int .i64) (.pr (.int .i64) (.pr (.int .i64) (.pr (.sl y70) (.sl y70)))))) a<=64;have j:=CM (e:=y70) f (fun t b=>u0s (c t b));have i:=CM (e:=y70) g (fun t b=>u0s (d t b))
 grind[J8,FM]
theorem y0d{c:m5}{m p:Nat}(s:m<=3)(l:p<m)(k:c.2.2.2.2.1.length=2 ^ m):∃r,Mi c (p:Int)=some r/\True:=by
 have d:∀m,m<4->∀p,p<m->∀j,j<8->j<2 ^ m->(j &&& 2 ^ p)=0->j+2 ^ p<2 ^ m:=by decide
 have h:((1:Int)*(2:j6 i64) ^ ((p:Int)).toNat)=((2 ^ p:Nat):Int):=by
  show(1:Int)*(2:Int) ^ p=_;simp
 have q:2 ^ p<=4:=(Nat.pow_le_pow_right (by omega) (by omega):2 ^ p<=2 ^ 2);have f:2 ^ m<=8:=(Nat.pow_le_pow_right (by omega) s:2 ^ m<=2 ^ 3);have d:=d m (by omega) p l;generalize 2 ^ p=P at d h q;generalize 2 ^ m=M at d k f;unfold Mi;refine k8 ⟨oo,⟨oo,?_⟩,trivial⟩ ?_
 ·have e:((1:Int)*(2:Int) ^ ((p:Int)).toNat)=(P:Int):=h;rw[e];exact oo
 refine N1 (fun x=>(9-x.2.2).toNat) (fun x=>∃j:Nat,x.2.2=(j:Int)/\j<=8) ?_ ⟨0,rfl,by omega⟩ (by grind);rintro g ⟨a,b,i⟩ ⟨j,hi,u⟩ o;simp only at hi;subst hi;unfold A0x;dsimp only;rw[k];by_cases n:(j:Int) < (M:Int)
 ·rw[if_pos (decide_eq_true n)];generalize hBB:((1:Int)*(2:j6 i64) ^ ((p:Int)).toNat)=B;rw[h] at hBB;subst hBB;refine k8 ⟨oo,trivial⟩ ?_;have nx:∀a b,∃r,Mh (j:Int) g (a,b)=some r/\True:=fun a b=>by
   unfold Mh;dsimp only;exact k8 ⟨oo,trivial⟩ (o _ ⟨j+1,by grind,by omega⟩ (by grind))
  by_cases t:(j &&& P)=0
  ·have:=d j (by omega) (by omega) t;rw[if_neg (by simp_all)];refine k8 ⟨fun _=>oo,fun _=>oo,fun _=>oo,trivial⟩ (k8 ⟨fun _=>oo,fun _=>oo,fun _=>oo,trivial⟩ ?_);exact nx _ _
  ·rw[if_pos (by simp_all)];exact nx _ _
 ·rw[if_neg (by grind)];unfold UO;dsimp only
  repeat' split
  all_goals exact⟨_,rfl,trivial⟩
def Nk(c:m5):Prop:=cnt y64 c<=300
theorem y0K:∀k:Nat,(([ByteArray.mk #[97],ByteArray.mk #[98],ByteArray.mk #[99],ByteArray.mk #[100]]:List ByteArray).getD k (a6 Ty.str)).size<=1
 | 0 | 1 | 2 | 3=>by decide
 | n+4=>by
   simp[a6];exact Nat.zero_le _
theorem z0v{s:l6}{nm:ByteArray}{tr:List Int}{k:Nat}{pins:List I8}{v1 v:Int}{Q W:l6}(hn:nm.size<=8)(h:k<=3)(ht:tr.length=2 ^ k)(P:pins.length=k)(i1:Sd s)(i2:∀p∈pins,cnt y233 p<=3):∃r,PY nm tr (v1,Q) (v,W) (pins,s.1,s.2.1,s.2.2)=some r/\Sd r.2/\Nk r.1:=by
 have aB:2 ^ k<=8:=(Nat.pow_le_pow_right (by omega) h:2 ^ k<=2 ^ 3);unfold PY;refine k8 ⟨⟨by grind,by grind⟩,trivial⟩ ?_;refine w6 ?_;dsimp only;have u:cnt (.sl y233) (pins++[(ByteArray.mk #[(121:UInt8)],(2:Int),(0:Int),false)])<=4+4*3:=CM (by grind) (fun p b=>by
  rcases List.mem_append.1 b with b | b
  ·grind
  ·rw[List.mem_singleton.1 b];show cnt (.pr .str (.pr (.int .i64) (.pr (.int .i64) .bool))) _<=3;simp only[J8,FM,WI,FN];decide)
 refine N1 (fun x=>(5-x.1).toNat) (fun x=>∃j:Nat,x.1=(j:Int)/\j<=k/\x.2.1.length<=j/\Sd x.2.2/\∀q∈x.2.1,JC q) ?_ ⟨0,rfl,by omega,by simp,i1,by simp⟩ (by omega);rintro g2 ⟨i',g,c',aC,aA⟩ ⟨j,F,T,G,l,E⟩ i;simp only at F G l E;subst F;unfold A0M;dsimp only;rw[P];by_cases X:(j:Int) < (k:Int)
 ·rw[if_pos (decide_eq_true X)];obtain⟨w,ew,-⟩:=y0d (c:=(nm,(1:Int),pins++[(ByteArray.mk #[(121:UInt8)],(2:Int),(0:Int),false)],[],tr,v1,v)) h (p:=j) (m:=k) (by omega) ht;rw[ew];refine k8 ⟨rfl,trivial⟩ (w6 ?_);rw[vS];have nx:∀(a:List B3) (e:l6),Sd e->a.length<=j+1->(∀q∈a,JC q)->∃r,Mj (j:Int) g2 (a,e.1,e.2.1,e.2.2)=some r/\Sd r.2/\Nk r.1:=fun a e Y H n=>by
   unfold Mj;dsimp only;exact k8 ⟨oo,trivial⟩ (i _ ⟨j+1,by omega,by omega,H,Y,n⟩ (by omega))
  by_cases V:w != 0
  ·rw[if_pos V];obtain⟨⟨q,s4⟩,o,f,t⟩:=Nj (k:=1) (x:=(j:Int)) (y:=(k:Int)) (z:=w) l;simp only at f t o;rw[o];refine k8 ⟨rfl,⟨by grind,by grind⟩,trivial⟩ (w6 (nx _ s4 f (by grind) fun q' d=>?_));rcases List.mem_append.1 d with d | d
   ·grind
   ·rw[List.mem_singleton.1 d]; exact t
  grind
 ·rw[if_neg (by grind)];unfold UP;refine⟨_,rfl,l,?_⟩;have ha:cnt (.sl y67) g<=4+4*64:=CM (by omega) (fun q n=>w0I (E q n));show cnt (.pr .str (.pr (.int .i64) (.pr (.sl y233) (.pr (.sl y67) (.pr (.sl (.int .i64)) (.pr (.int .i64) (.int .i64))))))) _<=300
  grind[J8,FM,FN,FL]
theorem Nl{s:l6}{nm:ByteArray}{tr:List Int}{m:Nat}(h:Sd s)(T:nm.size<=8)(G:1<=m/\m<=3)(ht:tr.length=2 ^ m):∃r,C7 s nm tr=some r/\Sd r.2/\Nk r.1:=by
 have F:2 ^ m<=8:=(Nat.pow_le_pow_right (by omega) G.2:2 ^ m<=2 ^ 3);obtain⟨v1,s1,V,t,-,-,-⟩:=A0 (n:=50) h (by omega);obtain⟨v2,s2,Y,z,-,-,-⟩:=A0 (n:=80) t (by omega);unfold C7;refine w6 ?_;dsimp only;simp only[V,Y,vS,Option.isSome_some];refine k8 ⟨trivial,trivial,trivial⟩ (w6 ?_);dsimp only;refine N1 (fun x=>(16-x.1).toNat) (fun x=>∃k,k<=m/\x.1=((2 ^ k:Nat):Int)/\x.2.1.length=k/\Sd x.2.2/\∀p∈x.2.1,cnt y233 p<=3) ?_ ⟨0,by omega,rfl,rfl,z,by simp⟩ (by omega);rintro g ⟨i,pins,c,E,w⟩ ⟨k,X,hi,H,y,i2⟩ Q;simp only at hi H y i2;unfold A0N;dsimp only;subst hi;rw[ht];have f:2 ^ k<=2 ^ m:=Nat.pow_le_pow_right (by omega) X;have l:0<2 ^ k:=Nat.pos_of_ne_zero (by simp);have d:2 ^ (k+1)=2*2 ^ k:=by rw[Nat.pow_succ]; omega
 have j:k<m->2 ^ (k+1)<=2 ^ m:=fun h=>Nat.pow_le_pow_right (by omega) h;have W:((2 ^ k:Nat):Int)=((2 ^ k:Nat):Int):=rfl;generalize hK2:2 ^ k=K2 at f l d ⊢;generalize hM2:2 ^ m=M2 at f F j ⊢;by_cases P:(K2:Int) < (M2:Int)
 ·rw[if_pos (decide_eq_true P)];have o:k<m:=by
   rcases Nat.lt_or_ge k m with q | q
   ·exact q
   ·grind
  obtain⟨v,s',e,u,a,b,-⟩:=A0 (n:=9) y (by omega);have b:=b (by omega);simp only[e,vS,lE,Option.isSome_some];refine k8 ⟨⟨by omega,by grind⟩,by grind,trivial,oo,⟨by grind,by grind⟩,trivial⟩ (k8 ⟨oo,trivial⟩ ?_);refine Q _ ⟨k+1,by omega,by omega,by grind,u,fun p aA=>?_⟩ (by omega)
  grind[List.mem_singleton,J8,FM,WI,FN,y0K]
 ·rw[if_neg (by grind)];have o:k=m:=by
   rcases Nat.lt_or_ge k m with q | q
   ·omega
   ·omega
  subst o;exact z0v (s:=(c,E,w)) T G.2 (by omega) H y i2
theorem WJ{s:l6}{nm:ByteArray}{k e:Int}(h:Sd s)(hn:nm.size<=8):∃r,Dt s nm k e=some r/\Sd r.2/\Nk (r.1.1,r.1.2.1,r.1.2.2.1,r.1.2.2.2.1,[],r.1.2.2.2.2):=by
 obtain⟨v1,s1,e1,l,-,-,-⟩:=A0 (n:=50) h (by omega);obtain⟨V,s2,e2,o,-,-,-⟩:=A0 (n:=80) l (by omega);obtain⟨v3,s3,e3,t,a3,E,-⟩:=A0 (n:=9) o (by omega);obtain⟨Y,s4,P,m,a4,H,-⟩:=A0 (n:=9) t (by omega);have E:=E (by omega);have H:=H (by omega);obtain⟨⟨W,s5⟩,G,i,a5⟩:=Nj (k:=e) (x:=1) (y:=2) (z:=0) m;simp only at i a5 G;obtain⟨⟨Q,s6⟩,F,j,T⟩:=Nj (k:=4) (x:=1) (y:=0) (z:=0) i;simp only at j T F;obtain⟨⟨X,s7⟩,w,b,a7⟩:=Nj (k:=5) (x:=1) (y:=0) (z:=0) j;simp only at b a7 w;obtain⟨⟨q8,s8⟩,e8,g,a8⟩:=Nj (k:=1) (x:=0) (y:=2) (z:=1) b;simp only at g a8 e8;unfold Dt;simp only[lE,e1,e2,e3,P,G,F,w,e8,vS,Option.isSome_some];refine k8 ⟨trivial,trivial,trivial⟩ (k8 ⟨trivial,oo,trivial,oo,trivial⟩ (k8 ⟨trivial,trivial,trivial,trivial⟩ ?_));have f:∀(a:List B3) (d:l6),Sd d->a.length<=4->(∀q∈a,JC q)->∃r,Mg nm k [(ByteArray.mk #[(100:UInt8)],(1:Int),(1:Int)+v3,false),(ByteArray.mk #[(99:UInt8),(107:UInt8)],(1:Int),(1:Int)+Y,true),(ByteArray.mk #[(113:UInt8)],(2:Int),(0:Int),false)] (v1,s1) (V,s2) (a,d.1,d.2.1,d.2.2)=some r/\Sd r.2/\Nk (r.1.1,r.1.2.1,r.1.2.2.1,r.1.2.2.2.1,[],r.1.2.2.2.2):=fun a d h9 hl v=>by
  unfold Mg;refine⟨_,rfl,h9,?_⟩;have ha:cnt (.sl y67) a<=4+4*64:=CM hl (fun q u=>w0I (v q u));show cnt (.pr .str (.pr (.int .i64) (.pr (.sl y233) (.pr (.sl y67) (.pr (.sl (.int .i64)) (.pr (.int .i64) (.int .i64))))))) _<=300;have hp:∀x y:Int,cnt (.sl y233) [(ByteArray.mk #[(100:UInt8)],(1:Int),x,false),(ByteArray.mk #[(99:UInt8),(107:UInt8)],(1:Int),y,true),(ByteArray.mk #[(113:UInt8)],(2:Int),(0:Int),false)]<=10:=fun x y=>by
   rw[AM];simp only[List.map_cons,List.map_nil,List.sum_cons,List.sum_nil,List.length_cons,List.length_nil];show _+(cnt (.pr .str (.pr (.int .i64) (.pr (.int .i64) .bool))) _+(cnt (.pr .str (.pr (.int .i64) (.pr (.int .i64) .bool))) _+(cnt (.pr .str (.pr (.int .i64) (.pr (.int .i64) .bool))) _+0)))<=10;simp only[J8,FM,WI,FN];decide
  grind[J8,FM,FN,FL,List.length_nil]
 have h3:∀q∈[W,Q,X],JC q:=fun q v=>by
  grind
 by_cases c:(k==3)=true
 ·rw[if_pos c];refine k8 ⟨trivial,⟨by simp,by simp⟩,trivial⟩ (f _ s8 g (by simp) fun q v=>?_)
  grind
 ·rw[if_neg c];exact f _ s7 b (by simp) h3
theorem I0l{s:l6}(h:Sd s):∃r,Mm s=some r/\Sd r.2/\cnt (.sl y64) r.1<=2408:=by
 obtain⟨⟨T,s1⟩,l,x,t⟩:=Nl (nm:=ByteArray.mk #[105,110,118]) (tr:=[1,0]) (m:=1) h (by decide) (by decide) rfl;simp only at x t l;obtain⟨⟨c2,s2⟩,u,d,o⟩:=Nl (nm:=ByteArray.mk #[98,117,102]) (tr:=[0,1]) (m:=1) x (by decide) (by decide) rfl;simp only at d o u;obtain⟨⟨c3,s3⟩,H,y,w⟩:=Nl (nm:=ByteArray.mk #[110,97,110,100]) (tr:=[1,1,1,0]) (m:=2) d (by decide) (by decide) rfl;simp only at y w H;obtain⟨⟨c4,s4⟩,a,i,b⟩:=Nl (nm:=ByteArray.mk #[120,111,114]) (tr:=[0,1,1,0]) (m:=2) y (by decide) (by decide) rfl;simp only at i b a;obtain⟨⟨W,X⟩,E,P,q⟩:=Nl (nm:=ByteArray.mk #[109,117,120]) (tr:=[0,1,0,1,0,0,1,1]) (m:=3) i (by decide) (by decide) rfl;simp only at P q E;obtain⟨⟨Y,V⟩,z,f,F⟩:=WJ (nm:=ByteArray.mk #[102,108,111,112]) (k:=2) (e:=2) P (by decide);simp only at f F z;obtain⟨⟨c7,s7⟩,n,G,Q⟩:=WJ (nm:=ByteArray.mk #[102,108,111,112,110]) (k:=2) (e:=3) f (by decide);simp only at G Q n;obtain⟨⟨c8,s8⟩,e8,g,j⟩:=WJ (nm:=ByteArray.mk #[108,97,116,99,104]) (k:=3) (e:=2) G (by decide);simp only at g j e8;unfold Mm;simp only[lE,l,u,H,a,E,z,n,e8,vS,Option.isSome_some];refine k8 ⟨trivial,trivial,trivial⟩ (k8 ⟨trivial,trivial,trivial⟩ (k8 ⟨trivial,trivial,trivial⟩ (k8 ⟨trivial,trivial,trivial⟩ (k8 ⟨trivial,trivial,trivial⟩ (k8 ⟨trivial,trivial⟩ (k8 ⟨trivial,trivial⟩ (k8 ⟨trivial,trivial⟩ ⟨_,rfl,g,?_⟩)))))));refine Nat.le_trans (CM (m:=8) (k:=300) (by simp) fun c v=>?_) (by decide);simp only[List.mem_cons,List.not_mem_nil,or_false] at v;rcases v with rfl | rfl | rfl | rfl | rfl | rfl | rfl | rfl
 ·exact t
 ·exact o
 ·exact w
 ·exact b
 ·exact q
 ·exact F
 ·exact Q
 ·exact j
theorem O7{e:Option Unit}(h:∃r,e=some r/\True):e=some ():=by
 obtain⟨_,h,_⟩:=h;exact h
theorem BZ{s:l6}(a:wf m8 s)(h:sd s):Sd s:=⟨h,a.1.1,fun b c=>a.1.2 b c⟩
theorem v0l:∀(m:Nat) (n:Int),0<=n->n<10 ^ m->1<=m/\m<=40->∃r,IW m n=some r/\r.size<=m
 | 0,n,h0,h1,d=>by omega
 | m+1,n,h0,h1,hm=>by
   show ∃r,Qb (IW m) n=some r/\r.size<=m+1;unfold Qb;rw[if_neg (by simp; omega)];have d:0<=n.tmod 10/\n.tmod 10<10:=⟨Int.tmod_nonneg _ h0,Int.tmod_lt_of_pos _ (by omega)⟩;by_cases c:n<10
   ·rw[if_pos (decide_eq_true c)];refine k8 ⟨oo,trivial,by simp,trivial⟩ ⟨_,rfl,?_⟩;rw[strOfNums_size];simp
   ·rw[if_neg (by simpa using c)];have b:n.tdiv 10<10 ^ m:=by
     rw[Int.tdiv_eq_ediv_of_nonneg h0];have:(10:Int) ^ (m+1)=10*10 ^ m:=by rw[Int.pow_succ]; omega
     omega
    have a:1<=m:=by
     rcases Nat.eq_zero_or_pos m with h | h
     ·subst h; simp at h1; omega
     ·exact h
    obtain⟨r,e,f⟩:=v0l m (n.tdiv 10) (Int.tdiv_nonneg h0 (by omega)) b (by omega);rw[e];refine k8 ⟨by omega,rfl,by omega,oo,trivial,by simp,?_,trivial⟩ (w6 ⟨_,rfl,?_⟩)
    ·rw[vS,strOfNums_size]; simp; omega
    ·rw[vS,ByteArray.size_append,strOfNums_size]; simp; omega
theorem B0S{n:Int}(a:0<=n)(b:n<1000):∃r,CC n=some r/\r.size<=25 :=
 v0l 25 n a (by have:(1000:Int)<10 ^ 25:=by decide
                omega) (by omega)
theorem WK{xs:List Int}(h:xs.length<=1000):L3 xs=some xs:=by
 unfold L3;rw[gP ⟨oo,trivial⟩];rfl
def WL(d:r9):Prop:=(d.1.length<=6/\∀i∈d.1,i.2.2.length<=4)/\d.2.2.length<=5
theorem E0z{d:r9}(h:WL d):∃r,J3 d=some r/\r.length<=29:=by
 obtain⟨⟨v,q⟩,w⟩:=h;unfold J3;refine N1 (fun x=>(7-x.1).toNat) (fun x=>0<=x.1/\x.1<=6/\(x.2.length:Int)<=4*x.1) ?_ ⟨by simp only; omega,by simp only; omega,by simp⟩ (by simp only; omega);rintro g ⟨i,o⟩ ⟨n,i2,i3⟩ s;simp only at n i2 i3;unfold Tl;dsimp only;by_cases c:i < (d.1.length:Int)
 ·rw[if_pos (decide_eq_true c)];refine k8 ⟨⟨n,c⟩,trivial⟩ (w6 ?_);have j:i.toNat<d.1.length:=by omega
  have t:(d.1.getD i.toNat (a6 y139)).2.2.length<=4:=by
   rw[gq,List.getElem?_eq_getElem j];exact q _ (List.getElem_mem j)
  generalize d.1.getD i.toNat (a6 y139)=x at t;refine N1 (fun x=>(5-x.1).toNat) (fun y=>0<=y.1/\y.1<=4/\(y.2.length:Int)<=4*i+y.1) ?_ ⟨by simp only; omega,by simp only; omega,by simp only; omega⟩ (by simp only; omega);rintro u ⟨k,f⟩ ⟨e,l,m⟩ b;simp only at e l m;unfold Tk;dsimp only;by_cases a:k < (x.2.2.length:Int)
  ·rw[if_pos (decide_eq_true a)];refine k8 ⟨⟨e,a⟩,oo,⟨by simp; omega,by simp; omega⟩,trivial⟩ (w6 ?_);dsimp only;exact k8 ⟨oo,trivial⟩ (b _ ⟨by simp only; omega,by simp only; omega,by simp; omega⟩ (by simp only; omega))
  ·rw[if_neg (by simpa using a)];unfold OE;exact k8 ⟨oo,trivial⟩ (s _ ⟨by simp only; omega,by simp only; omega,by simp only; omega⟩ (by simp only; omega))
 ·rw[if_neg (by simpa using c)];unfold Io;refine N1 (fun x=>(6-x.1).toNat) (fun y=>0<=y.1/\y.1<=5/\(y.2.length:Int)<=24+y.1) ?_ ⟨by simp only; omega,by simp only; omega,by simp only; omega⟩ (by simp only; omega);rintro u ⟨k,f⟩ ⟨e,l,m⟩ b;simp only at e l m;unfold Tj;dsimp only;by_cases a:k < (d.2.2.length:Int)
  ·rw[if_pos (decide_eq_true a)];refine k8 ⟨⟨e,a⟩,⟨e,a⟩,⟨by simp; omega,by simp; omega⟩,trivial⟩ (w6 ?_);dsimp only;exact k8 ⟨oo,trivial⟩ (b _ ⟨by simp only; omega,by simp only; omega,by simp; omega⟩ (by simp only; omega))
  ·rw[if_neg (by simpa using a)];exact⟨_,rfl,by omega⟩
theorem H0J{d:r9}{t:Int}(h:WL d):∃r,U7 d t=some r/\r.length<=29:=by
 obtain⟨p,e,l⟩:=E0z h;unfold U7;rw[e];refine k8 ⟨rfl,trivial⟩ (w6 ?_);rw[vS];refine N1 (fun x=>(30-x.1).toNat) (fun x=>0<=x.1/\x.1<=29/\(x.2.length:Int)<=x.1) ?_ ⟨by simp only; omega,by simp only; omega,by simp⟩ (by simp only; omega);rintro g ⟨i,f⟩ ⟨b,i2,i3⟩ k;simp only at b i2 i3;unfold Tm;dsimp only;by_cases c:i < (p.length:Int)
 ·rw[if_pos (decide_eq_true c)];refine k8 ⟨⟨b,c⟩,by omega,fun _=>⟨b,c⟩,fun _=>by omega,trivial⟩ ?_;have nx:∀a:List Int,(a.length:Int)<=i+1->∃r,Ip i g a=some r/\r.length<=29:=fun a j=>by
   unfold Ip;exact k8 ⟨oo,trivial⟩ (k _ ⟨by simp only; omega,by simp only; omega,j⟩ (by simp only; omega))
  split
  ·exact k8 ⟨⟨by simp; omega,by simp; omega⟩,trivial⟩ (nx _ (by simp; omega))
  ·exact nx _ (by omega)
 ·rw[if_neg (by simpa using c)];exact⟨_,rfl,by omega⟩
section
variable [Alw]
theorem C0n{s:l6}{n:Int}(h:Sd s)(F:0<=n)(h1:n<=40):Qj s n=some ():=by
 refine O7 ?_;obtain⟨r,s0,E,l,a0,b0,-⟩:=A0 (n:=6) h (by omega);obtain⟨v1,s1,H,d,a1,u,-⟩:=A0 (n:=4) l (by omega);have u:=u (by omega);have V:Mn n r=some ([-1],[0],[r],List.replicate n.toNat 0):=by
  unfold Mn;rw[gP ⟨⟨F,rfl,by omega,by omega⟩,trivial⟩]
 unfold Qj;simp only[E,V,vS,Option.isSome_some];refine k8 ⟨trivial,trivial,trivial⟩ (w6 ?_);dsimp only;simp only[H,vS,Option.isSome_some];refine k8 ⟨trivial,trivial⟩ (w6 ?_);refine N1 (fun x=>x.1.toNat) (fun x=>Sd (x.2.1,x.2.2.1,x.2.2.2.1)/\0<=x.1/\(1<=x.2.2.2.2.1.length/\(x.2.2.2.2.1.length:Int)+x.1<=4)/\(1<=x.2.2.2.2.2.1.length/\(x.2.2.2.2.2.1.length:Int)+x.1<=4)/\1<=x.2.2.2.2.2.2.length/\(x.2.2.2.2.2.2.length:Int)+x.1<=4) ?_ ⟨d,by simp only; omega,⟨by simp,by simp; omega⟩,⟨by simp,by simp; omega⟩,by simp,by simp; omega⟩ (by simp only; omega);rintro g ⟨m,c,T,z,P,R,C⟩ ⟨e,i2,⟨i3,i4⟩,⟨i5,i6⟩,i7,i8⟩ y;simp only at e i2 i3 i4 i5 i6 i7 i8;unfold B0v;dsimp only;by_cases v:0<m
 ·rw[if_pos (decide_eq_true v)];obtain⟨v2,s2,Q,j,-,-,-⟩:=A0 (n:=(P.length:Int)) e (by omega);obtain⟨v3,s3,e3,k,-,-,-⟩:=A0 (n:=400) j (by omega);obtain⟨v4,s4,w,f,-,-,-⟩:=A0 (n:=8) k (by omega);rw[WK (xs:=P) (by omega),WK (xs:=R) (by omega),WK (xs:=C) (by omega)];simp only[Q,e3,w,vS,Option.isSome_some];refine k8 ⟨trivial,trivial,⟨by simp; omega,by simp; omega⟩,trivial,trivial,⟨by simp; omega,by simp; omega⟩,trivial,trivial,⟨by simp; omega,by simp; omega⟩,trivial⟩ (w6 ?_);dsimp only;exact k8 ⟨oo,trivial⟩ (y _ ⟨f,by simp only; omega,⟨by simp,by simp; omega⟩,⟨by simp,by simp; omega⟩,by simp,by simp; omega⟩ (by simp only; omega))
 ·rw[if_neg (by simpa using v)];unfold Vg;refine N1 (fun x=>(41-x.1).toNat) (fun x=>Sd (x.2.1,x.2.2.1,x.2.2.2.1)/\0<=x.1/\x.1<=40/\x.2.2.2.2.length=n.toNat) ?_ ⟨e,by simp only; omega,by simp only; omega,by simp⟩ (by simp only; omega);rintro g2 ⟨i,c',aA,Y,X⟩ ⟨a,t,G,k4⟩ b;simp only at a t G k4;unfold B0u;dsimp only;by_cases o:i < (X.length:Int)
  ·rw[if_pos (decide_eq_true o)];obtain⟨v5,s5,W,q,-,-,-⟩:=A0 (n:=(P.length:Int)) a (by omega);simp only[W,vS,Option.isSome_some];refine k8 ⟨trivial,⟨t,o⟩,by omega,trivial⟩ (w6 ?_);exact k8 ⟨oo,trivial⟩ (b _ ⟨q,by simp only; omega,by simp only; omega,by simp[k4]⟩ (by simp only; omega))
  ·rw[if_neg (by simpa using o)];unfold Vf;refine k8 ⟨a.1,i3,i5,i7,?_⟩ ⟨_,rfl,trivial⟩;show cnt (.pr (.sl (.int .i64)) (.pr (.sl (.int .i64)) (.pr (.sl (.int .i64)) (.sl (.int .i64))))) _<=60;simp only[J8,FL];omega
end
theorem r0t{e:Ty}(a:∀x y,x7 e x y->cnt e y=cnt e x):∀{xs ys:List (j6 e)},AllS (x7 e) xs ys->(ys.map (cnt e)).sum=(xs.map (cnt e)).sum
 | [],_,h=>by rw[show _=[] from h]
 | x :: r,_,⟨y,r',e1,h1,h2⟩=>by
   subst e1;simp only[List.map_cons,List.sum_cons];rw[a x y h1,r0t a h2]
theorem HB:∀(t:Ty) (x y:j6 t),x7 t x y->cnt t y=cnt t x
 | .int _,_,_,_=>by grind[cnt]
 | .bool,_,_,h=>by rw[show _=_ from h]
 | .str,_,_,h=>by rw[show _=_ from h]
 | .sl e,x,y,h=>by
   rw[AM,AM,AllS.len h,r0t (HB e) h]
 | .pt e,x,y,h=>by
   show cnt e y=cnt e x;exact HB e x y h
 | .pr a b,x,y,h=>by
   rw[J8,J8,HB a x.1 y.1 h.1,HB b x.2 y.2 h.2]
theorem An[Alw]{a:Type}{p:a->Prop}{f:a->Option Unit}(h:∀z,p z->f z=some ()):∃r,Alw.alp p f=some r/\True:=⟨(),Alw.alp_u h,trivial⟩
theorem E0K:∀j:Nat,0<=([(0:Int),1,2,2,3,4,5,5,5,6,7,1]).getD j 0/\([(0:Int),1,2,2,3,4,5,5,5,6,7,1]).getD j 0<=7
 | 0 | 1 | 2 | 3 | 4 | 5 | 6 | 7 | 8 | 9 | 10 | 11=>by decide
 | n+12=>by simp
theorem H0Y:∀j:Nat,j<8->2<=([(2:Int),2,3,3,4,3,3,3]).getD j 0/\([(2:Int),2,3,3,4,3,3,3]).getD j 0<=4
 | 0,_ | 1,_ | 2,_ | 3,_ | 4,_ | 5,_ | 6,_ | 7,_=>by decide
 | n+8,h=>by omega
def Bx(x:o3):Prop:=1<=x.2.2.length/\x.2.2.length<=4/\x.1.size<=26
theorem E0h{x:o3}(h:Bx x):cnt y139 x<=30:=by
 obtain⟨a,c,b⟩:=h
 grind[J8,FN,FM,FL]
theorem E0g{x y:o3}(h:x7 y139 x y)(c:Bx x):Bx y:=by
 obtain⟨a,e,b⟩:=h;obtain⟨d,f,g⟩:=c;have b:y.2.2.length=x.2.2.length:=AllS.len b;have a:y.1=x.1:=a;exact⟨by omega,by omega,by grind⟩
section
variable [Alw]
abbrev QX:List u3:=[(ByteArray.mk #[(99:UInt8),(107:UInt8)],(1:Int),(0:Int)),(ByteArray.mk #[(97:UInt8)],(1:Int),(1:Int)),(ByteArray.mk #[(98:UInt8)],(1:Int),(2:Int))]
theorem n0C{c:List o3}{b:List ByteArray}{a:List u3}{s:l6}(h:Sd s)(j:c.length<=6)(f:∀x∈c,Bx x)(l:3<=b.length/\b.length<=9)(t:∀x∈b,x.size<=26)(g:1<=a.length/\a.length<=5)(n:∀p∈a,p.1.size<=2) :
  ∃r,Mu c b (a,s.1,s.2.1,s.2.2)=some r/\True:=by
 unfold Mu;refine k8 ⟨h.1,⟨j,fun i hi=>(f i hi).2.1⟩,⟨by grind,by grind⟩,g,?_⟩ ⟨_,rfl,trivial⟩;have q:=CM (e:=y139) j (fun x d=>E0h (f x d));have m:=CM (e:=.str) l.2 (fun x d=>(by grind[FN]:cnt .str x<=26));have o:=CM (e:=y202) g.2 (k:=2) (fun x d=>by
  grind[J8,FN,FM])
 grind[J8]
theorem z0J{f a b:List o3}{c t:List ByteArray}{y:List u3}{s:l6}(h:Sd s)(o:f.length<=6)(k:∀x∈f,Bx x)(q:3<=c.length/\c.length<=9)(l:∀x∈c,x.size<=26) :
  ∃r,Qk c QX (s.1,s.2.1,s.2.2,f,a,b,t,y)=some r/\True:=by
 unfold Qk;refine k8 ⟨⟨by simp,by simp⟩,trivial⟩ (k8 ⟨oo,⟨by simp,by simp⟩,trivial⟩ (w6 ?_));dsimp only;obtain⟨v,z,e,g,-,-,-⟩:=A0 (n:=2) h (by omega);obtain⟨w,G,E,j,P,m,-⟩:=A0 (n:=(c.length:Int)-1) g (by omega);have m:=m (by omega);obtain⟨H,F,u⟩:=s;simp only[e,vS,Option.isSome_some];refine k8 ⟨trivial,trivial⟩ (w6 ?_);dsimp only;have i:∀p∈([]++QX++[(ByteArray.mk #[(121:UInt8)],(2:Int),(c.length:Int)-1)]:List u3),p.1.size<=2:=fun p i=>by
  simp only[QX,List.nil_append,List.cons_append,List.mem_cons,List.not_mem_nil,or_false] at i;rcases i with rfl | rfl | rfl | rfl
  ·decide
  ·decide
  ·decide
  ·exact(by decide:(ByteArray.mk #[(121:UInt8)]).size<=2)
 split
 ·simp only[E,vS,Option.isSome_some];refine k8 ⟨oo,trivial,oo,⟨by simp,by simp⟩,trivial⟩ (w6 ?_);dsimp only;refine n0C (s:=G) j o k q l (by simp) (fun p d=>?_);rcases List.mem_append.1 d with d | d
  ·grind
  ·rw[List.mem_singleton.1 d];exact(by decide:(ByteArray.mk #[(122:UInt8)]).size<=2)
 ·exact n0C (s:=z) g o k q l (by simp) i
theorem z0K{o a b:List o3}{d n2:List ByteArray}{p2:List u3}{s:l6}{H:Bool}(h:Sd s)(h1:o.length<=6)(h2:∀x∈o,Bx x)(h3:3<=d.length/\d.length<=9)(h4:∀x∈d,x.size<=26) :
  ∃r,Ql H QX (s.1,s.2.1,s.2.2,d,o,a,b,n2,p2)=some r/\True:=by
 unfold Ql;refine N1 (fun x=>(7-x.1).toNat) (fun x=>Sd (x.2.1,x.2.2.1,x.2.2.2.1)/\0<=x.1/\x.1<=6/\x.2.2.2.2.1.length<=6/\∀y∈x.2.2.2.2.1,Bx y) ?_ ⟨h,by omega,by omega,h1,h2⟩ (by omega);rintro g ⟨i,c,Y,W,j,a2,b2,n3,p3⟩ ⟨X,i2,i3,i4,i5⟩ ih;simp only at X i2 i3 i4 i5;unfold B0w;dsimp only;by_cases Q:i < (j.length:Int)
 ·rw[if_pos (decide_eq_true Q)];obtain⟨v,s1,e,u,-,-,-⟩:=A0 (n:=4) X (by omega);obtain⟨w,s2,e2,t,wa,wb,-⟩:=A0 (n:=(d.length:Int)-1) u (by omega);have wb:=wb (by omega);have f:i.toNat<j.length:=by omega
  simp only[e,vS,Option.isSome_some];refine k8 ⟨trivial,fun _=>⟨i2,Q⟩,fun _=>f,fun _=>⟨i2,Q⟩,fun _=>f,trivial⟩ (w6 ?_);dsimp only;have nx:∀(z:l6) (k a3 b3:List o3) (n4:List ByteArray) (p4:List u3),Sd z->k.length<=6->(∀y∈k,Bx y)->∃r,Mv i g (z.1,z.2.1,z.2.2,k,a3,b3,n4,p4)=some r/\True:=fun z k a3 b3 n4 p4 q1 q2 q3=>by
   unfold Mv;exact k8 ⟨oo,trivial⟩ (ih _ ⟨q1,by omega,by omega,q2,q3⟩ (by omega))
  split
  ·simp only[e2,vS,Option.isSome_some];have aA:Bx (j.getD i.toNat (a6 y139)):=by
    rw[gq,List.getElem?_eq_getElem f];exact i5 _ (List.getElem_mem f)
   have:=aA.1;refine k8 ⟨⟨i2,Q⟩,f,oo,trivial,oo,oo,trivial⟩ (An ?_);rintro⟨aD,aB,l,aC,m,E,G,F,P⟩ ⟨-,-,k3,-,k5,-⟩;dsimp only;refine O7 (k8 trivial ?_);have hw:wf (.sl (.int .u8)) l:=k3.2 ⟨t.2.1,fun b T=>t.2.2 b T⟩;have hl:m.length=j.length:=AllS.len k5;refine nx (l,s2.2.1,s2.2.2) m E G F P ⟨t.1,hw.1,fun b T=>hw.2 b T⟩ (by omega) ?_;exact AllS.all (p:=Bx) (q:=Bx) (fun x y V hx=>E0g V hx) k5 i5
  ·exact nx s1 j a2 b2 n3 p3 u i4 i5
 ·rw[if_neg (by grind)];exact z0J (s:=(c,Y,W)) X i4 i5 h3 h4
theorem I0x{s:l6}{a:Int}{j:Bool}(h:Sd s)(h0:2<=a)(h1:a<=6):Qm s a j=some ():=by
 refine O7 ?_;unfold Qm;refine w6 ?_;refine w6 ?_;obtain⟨v,s0,e0,F,a0,P,-⟩:=A0 (n:=a-1) h (by omega);have P:=P (by omega);simp only[e0,vS,Option.isSome_some];refine k8 ⟨⟨by simp,by simp⟩,trivial⟩ (k8 ⟨oo,trivial,oo,trivial⟩ (w6 ?_));refine N1 (fun x=>x.1.toNat) (fun x=>Sd (x.2.1,x.2.2.1,x.2.2.2.1)/\0<=x.1/\(x.2.2.2.2.2.1.length:Int)+x.1<=6/\3<=x.2.2.2.2.1.length/\(x.2.2.2.2.1.length:Int)+x.1<=9/\(∀y∈x.2.2.2.2.2.1,Bx y)/\∀y∈x.2.2.2.2.1,y.size<=26) ?_
  ⟨F,by omega,by grind,by simp,by grind,by simp,by
    intro y e;simp only[List.nil_append,List.mem_cons,List.not_mem_nil,or_false] at e;rcases e with rfl | rfl | rfl <;> decide⟩ (by omega)
 rintro g ⟨m,c,E,u,f,o,a1,a2,a3,a4⟩ ⟨w,i2,i3,i4,i5,i6,i7⟩ ih;simp only at w i2 i3 i4 i5 i6 i7;unfold B0y;dsimp only;by_cases cm:0<m
 ·rw[if_pos (decide_eq_true cm)];obtain⟨v1,s1,e1,t,q1,W,-⟩:=A0 (n:=12) w (by omega);have W:=W (by omega);simp only[e1,vS,Option.isSome_some];refine k8 ⟨trivial,oo,by simp; omega,trivial⟩ (w6 ?_);dsimp only;have hc:=E0K v1.toNat;generalize ([(0:Int),1,2,2,3,4,5,5,5,6,7,1]).getD v1.toNat 0=cell at hc ⊢;obtain⟨nm,e2,aB⟩:=B0S (n:=(o.length:Int)) (by omega) (by omega);obtain⟨aF,e3,Q⟩:=B0S (n:=(f.length:Int)) (by omega) (by omega);rw[e2]
  refine k8 ⟨rfl,by rw[vS]; have:(ByteArray.mk #[117]).size=1:=rfl
                    omega,trivial⟩ (w6 ?_)
  rw[vS];have aC:=H0Y cell.toNat (by omega);refine N1 (fun x=>(5-x.1).toNat) (fun x=>Sd (x.2.2.1,x.2.2.2.1,x.2.2.2.2)/\0<=x.1/\x.1<=3/\(x.2.1.length:Int)=x.1) ?_ ⟨t,by omega,by omega,by simp⟩ (by omega);rintro g2 ⟨k,T,c2,aD,aA⟩ ⟨l,k2,k3,k4⟩ q;simp only at l k2 k3 k4;unfold B0x;dsimp only;refine k8 ⟨⟨by omega,by grind⟩,by grind,oo,trivial⟩ ?_;by_cases ck:k < ([(2:Int),2,3,3,4,3,3,3]).getD cell.toNat 0-1
  ·rw[if_pos (decide_eq_true ck)];obtain⟨v3,s3,e4,z,w1,X,-⟩:=A0 (n:=(f.length:Int)-1) l (by omega);have X:=X (by omega);obtain⟨v4,Y,e5,i,-,-,-⟩:=A0 (n:=3) z (by omega);simp only[e4,vS,Option.isSome_some];refine k8 ⟨oo,trivial,oo,trivial⟩ (w6 ?_);dsimp only;simp only[e5,vS,Option.isSome_some];refine k8 ⟨trivial,trivial⟩ (w6 ?_);dsimp only;have V:∀(x:Int) (b:l6),Sd b->∃r,Mw k T b.1 b.2.1 b.2.2 g2 x=some r/\True:=fun x b d=>by
    unfold Mw;exact k8 ⟨oo,⟨by grind,by grind⟩,trivial⟩ (k8 ⟨oo,trivial⟩ (q _ ⟨d,by omega,by omega,by grind⟩ (by omega)))
   have G:∀(x:Int) (b:l6),Sd b->∃r,Mx k T cell g2 (b.1,b.2.1,b.2.2,x)=some r/\True:=fun x b d=>by
    unfold Mx;dsimp only;split
    ·exact V _ b d
    ·exact V _ b d
   split
   ·exact k8 ⟨oo,trivial⟩ (G _ Y i)
   ·exact G _ Y i
  ·rw[if_neg (by grind)];unfold Vk;dsimp only;refine k8 ⟨oo,⟨by grind,by grind⟩,trivial⟩ ?_;rw[e3];have hu:(ByteArray.mk #[110]).size=1:=rfl;refine k8 ⟨rfl,by grind[vS],⟨by grind,by grind⟩,trivial⟩ (w6 ?_);rw[vS];refine k8 ⟨⟨by grind,by grind⟩,trivial⟩ (w6 ?_);dsimp only;unfold Vj;dsimp only;refine k8 ⟨oo,trivial⟩ (ih _ ⟨l,by omega,by grind,by grind,by grind,fun y e=>?_,fun y e=>?_⟩ (by omega))
   ·rcases List.mem_append.1 e with e | e
    ·grind
    ·rw[List.mem_singleton.1 e];exact⟨by simp,by grind,by
      have H:(ByteArray.mk #[117]).size=1:=rfl;rw[ByteArray.size_append]; omega⟩
   grind
 ·rw[if_neg (by grind)];exact z0K (s:=(c,E,u)) w (by omega) i6 ⟨i4,by omega⟩ i7
end
theorem O0h{s:l6}{k:Int}(h:sd s)(a:0<=k)(b:k<=40):Mt (s,k,()):=⟨h,a,b⟩
theorem QY{s:l6}{k:Int}{b:Bool}(h:sd s)(a:2<=k)(e:k<=6):Fx (s,k,b,()):=⟨h,a,e⟩
theorem u0t{a:Type}{f:a->Nat}{y d:a}:∀{xs:List a} {i:Nat},i<xs.length->((xs.set i y).map f).sum+f (xs.getD i d)=(xs.map f).sum+f y
 | x :: r,0,_=>by grind
 | x :: r,i+1,h=>by
   have:=u0t (f:=f) (y:=y) (d:=d) (xs:=r) (i:=i) (by grind);simp only[List.set_cons_succ,List.map_cons,List.sum_cons,List.getD_cons_succ];omega
theorem E0A{d a:r9}(b:x7 (.sl y139) d.1 a.1)(e:x7 (.sl .str) d.2.1 a.2.1)(c:x7 (.sl y202) d.2.2 a.2.2):cnt y31 a=cnt y31 d :=
 HB (.pr (.sl y139) (.pr (.sl .str) (.sl y202))) d a ⟨b,e,c⟩
theorem E0q{c:List Int}(d:wf (.sl (.int .u8)) c):∃s,LP c=some s/\Sd s:=by
 unfold LP;refine N1 (fun x=>(65-x.1).toNat) (fun x=>0<=x.1/\x.1<=64/\0<=x.2/\x.2<2147483647) ?_ ⟨by omega,by omega,by omega,by omega⟩ (by omega);rintro g ⟨i,x⟩ ⟨h,i2,i3,i4⟩ j;simp only at h i2 i3 i4;unfold G0Y;dsimp only;split
 ·rename_i f;simp only[ba,dq] at f;have a:i.toNat<c.length:=by omega
  have e:0<=c.getD i.toNat 0/\c.getD i.toNat 0<=255:=by
   rw[gq,List.getElem?_eq_getElem a];exact d.2 _ (List.getElem_mem a)
  refine k8 ⟨oo,⟨h,f.1⟩,trivial,oo,by omega,trivial⟩ (k8 ⟨oo,trivial⟩ ?_);exact j _ ⟨by omega,by omega,Int.tmod_nonneg _ (by omega),Int.tmod_lt_of_pos _ (by omega)⟩ (by omega)
 ·exact⟨_,rfl,⟨⟨by grind,i3,i4⟩,d.1,fun b e=>d.2 b e⟩⟩
section
variable [Alw]
def N0t(w:z6):Prop:=(1<=w.1.length/\1<=w.2.1.length/\1<=w.2.2.1.length)/\cnt l7 w<=60
theorem I0J{s:l6}{a:Int}{j:Bool}(h:Sd s)(P:2<=a)(h1:a<=6):Qn s a j=some ():=by
 refine O7 ?_;obtain⟨⟨l,s0⟩,r,f,V⟩:=I0l h;simp only at f V r;unfold Qn;simp only[r,vS,Option.isSome_some];refine k8 ⟨trivial,trivial⟩ (w6 ?_);refine k8 ⟨trivial,f.1,P,h1⟩ (An ?_);rintro⟨d,W⟩ ⟨⟨t1,⟨v,Y⟩,⟨E,t5⟩,⟨u,Q⟩,t8⟩,-,hz⟩;have n:Sd W:=BZ hz t1;have G:WL d:=⟨⟨v,Y⟩,Q⟩;refine O7 (k8 trivial ?_);refine N1 (fun x=>(21-x.1).toNat) (fun x=>Sd (x.2.2.1,x.2.2.2.1,x.2.2.2.2)/\0<=x.1/\x.1<=20/\(x.2.1.length:Int)=x.1/\∀w∈x.2.1,N0t w) ?_ ⟨n,by omega,by omega,by simp,by simp⟩ (by omega);rintro g ⟨i,ws,c,X,F⟩ ⟨o,i2,i3,i4,i5⟩ z;simp only at o i2 i3 i4 i5 E t5 u t8;unfold G0v;dsimp only;by_cases cm:i < (d.2.1.length:Int)
 ·rw[if_pos (decide_eq_true cm)];obtain⟨k,T,hk⟩:=H0J (t:=i) G;simp only[T,vS,Option.isSome_some];refine k8 ⟨⟨trivial,trivial⟩,O0h o.1 (by omega) (by omega)⟩ (An ?_);rintro⟨w,s2⟩ ⟨⟨y,w2,w3,H,w5⟩,-,q⟩;refine O7 (k8 ⟨⟨by grind,by grind⟩,trivial⟩ (k8 ⟨oo,trivial⟩ (w6 ?_)));refine z _ ⟨BZ q y,by omega,by omega,by grind,fun x b=>?_⟩ (by omega);rcases List.mem_append.1 b with b | b
  ·grind
  ·rw[List.mem_singleton.1 b];exact⟨⟨w2,w3,H⟩,w5⟩
 ·rw[if_neg (by grind)];unfold Vm;have hw:=CM (e:=l7) (m:=20) (k:=60) (xs:=ws) (by omega) (fun x b=>(i5 x b).2);refine k8 ⟨o.1,by grind,fun x b=>(i5 x b).1,u,?_⟩ ⟨_,rfl,trivial⟩
  grind[J8]
theorem QZ{s:l6}{a:List z6}{d:r9}{l:List m5}(h:Sd s)(b:cnt (.sl y64) l+(cnt y31 d+cnt (.sl l7) a)<=20000) :
  ∃r,BQ (s.1,s.2.1,s.2.2,a,d.1,d.2.1,d.2.2,l)=some r/\True:=by
 unfold BQ;refine k8 ⟨h.1,?_⟩ ⟨_,rfl,trivial⟩
 grind[J8]
theorem I0P{s:l6}(h:Sd s):Qp s=some ():=by
 refine O7 ?_;obtain⟨v,s0,e0,aJ,-,-,-⟩:=A0 (n:=3) h (by omega);unfold Qp;simp only[e0,vS,Option.isSome_some];refine k8 ⟨⟨trivial,trivial⟩,QY aJ.1 (by omega) (by omega)⟩ (An ?_);rintro⟨⟨l,d,c⟩,s1⟩ ⟨⟨t1,t2,t3,t4,t5⟩,-,hz⟩;have aO:Sd s1:=BZ hz t1;simp only at t2 t3 t4 t5;refine O7 (k8 trivial ?_);have bA:c.length<=9223372036854775807:=by
  have G:cnt (.pr (.sl y64) (.pr y31 (.sl l7))) (l,d,c)<=10000:=t5;rw[J8,J8,AM (e:=l7)] at G;simp only at G;omega
 have hc:cnt (.sl y64) l+(cnt y31 d+cnt (.sl l7) c)<=10000:=by
  have G:cnt (.pr (.sl y64) (.pr y31 (.sl l7))) (l,d,c)<=10000:=t5;rw[J8,J8] at G;exact G
 obtain⟨k,s2,e2,aV,V,kb,-⟩:=A0 (n:=(c.length:Int)) aO (by omega);have kb:=kb (by omega);obtain⟨q,s3,e3,j,-,-,-⟩:=A0 (n:=20) aV (by omega);have aG:c9 (Q6 ((l,d,c),s1)) (c.length:Int)=some (k,s2):=e2;dsimp only;simp only[aG,vS,Option.isSome_some];refine k8 ⟨trivial,trivial⟩ (w6 ?_);dsimp only;simp only[e3,vS,Option.isSome_some];refine k8 ⟨trivial,trivial⟩ (w6 ?_);dsimp only;have i:k.toNat<c.length:=by omega
 have bE:1<=(c.getD k.toNat (a6 l7)).1.length/\1<=(c.getD k.toNat (a6 l7)).2.1.length/\1<=(c.getD k.toNat (a6 l7)).2.2.1.length:=by
  rw[gq,List.getElem?_eq_getElem i];exact t3 _ (List.getElem_mem i)
 have W:cnt l7 (c.getD k.toNat (a6 l7))<=10000:=by
  have:=C0h (t:=l7) (d:=a6 l7) i;rw[AM (e:=l7)] at hc;omega
 -- a number deep in the data has turned
 have H:∀(Q:l6) (c4:List Int) (T:r9) (w4:List z6) (l4:List m5),Sd Q->wf (.sl (.int .u8)) c4->x7 (.sl y139) d.1 T.1->x7 (.sl .str) d.2.1 T.2.1->x7 (.sl y202) d.2.2 T.2.2->x7 (.sl l7) c w4->x7 (.sl y64) l l4 ->
   ∃r,BQ (c4,Q.2.1,Q.2.2,w4,T.1,T.2.1,T.2.2,l4)=some r/\True:=fun Q c4 T w4 l4 q1 q2 q3 q4 q5 q6 q7 =>
  QZ (s:=(c4,Q.2.1,Q.2.2)) ⟨q1.1,q2.1,fun b hb=>q2.2 b hb⟩ (by rw[HB _ _ _ q7,E0A q3 q4 q5,HB _ _ _ q6]; omega)
 have P:∀{Q:l6},Sd Q->wf (.sl (.int .u8)) Q.1:=fun q=>⟨q.2.1,fun b hb=>q.2.2 b hb⟩;split
 ·refine k8 ⟨⟨by omega,by omega,by omega⟩,trivial⟩ ?_;refine QZ (s:=s3) (d:=d) j ?_;have:cnt (.sl l7) (List.drop (Int.toNat (1:Int)) c)<=cnt (.sl l7) c:=by
   cases c with
   | nil=>simp
   | cons x r =>
     rw[AM,AM];simp only[show Int.toNat (1:Int)=1 from rfl,List.drop_succ_cons,List.drop_zero,List.map_cons,List.sum_cons,List.length_cons];omega
  omega
 split
 ·have bC:(c.getD k.toNat (a6 l7)).2.2.2.length<=10000:=by
   have G:cnt (.pr (.sl (.int .i64)) (.pr (.sl (.int .i64)) (.pr (.sl (.int .i64)) (.sl (.int .i64))))) (c.getD k.toNat (a6 l7))<=10000:=W;rw[J8,J8,J8] at G;simp only[FL] at G;omega
  have aN:L3 (c.getD k.toNat (a6 l7)).2.2.2=some (c.getD k.toNat (a6 l7)).2.2.2:=by
   unfold L3;rw[gP ⟨oo,trivial⟩];rfl
  simp only[aN,vS,Option.isSome_some];refine k8 ⟨⟨⟨V,by omega⟩,i,trivial,⟨by rw[List.length_singleton]; omega,by rw[List.length_singleton]; omega⟩,⟨V,by omega⟩,trivial⟩,i,trivial⟩ ?_;refine QZ (s:=s3) (d:=d) j ?_;have X:=u0t (f:=cnt l7) (d:=a6 l7) (y:=((c.getD k.toNat (a6 l7)).1,(c.getD k.toNat (a6 l7)).2.1,(c.getD k.toNat (a6 l7)).2.2.1,(c.getD k.toNat (a6 l7)).2.2.2++[0])) i;have Y:cnt l7 ((c.getD k.toNat (a6 l7)).1,(c.getD k.toNat (a6 l7)).2.1,(c.getD k.toNat (a6 l7)).2.2.1,(c.getD k.toNat (a6 l7)).2.2.2++[0])=cnt l7 (c.getD k.toNat (a6 l7))+1:=by
   generalize c.getD k.toNat (a6 l7)=w;show cnt (.pr (.sl (.int .i64)) (.pr (.sl (.int .i64)) (.pr (.sl (.int .i64)) (.sl (.int .i64))))) _=cnt (.pr (.sl (.int .i64)) (.pr (.sl (.int .i64)) (.pr (.sl (.int .i64)) (.sl (.int .i64))))) w+1;simp only[J8,FL,List.length_append,List.length_singleton];omega
  rw[Y] at X;rw[AM (e:=l7),List.length_set];rw[AM (e:=l7)] at hc;omega
 split
 ·refine k8 ⟨⟨V,by omega⟩,i,oo,trivial⟩ (An ?_);rintro⟨v3,v4,v5,v6,v7,v8,v9,aC⟩ ⟨-,-,E,o,u,m,z,g⟩;refine O7 (k8 trivial ?_);exact H s3 v5 (v6,v7,v8) v9 aC j (E.2 (P j)) o.1 u.1 m.1 z g
 split
 ·obtain⟨q5,s5,e5,F,qa,qb,-⟩:=A0 (n:=3) j (by omega);have qb:=qb (by omega);simp only[e5,vS,Option.isSome_some];refine k8 ⟨⟨V,by omega⟩,i,trivial,⟨by omega,by simp; omega⟩,by simp; omega,oo,trivial⟩ (An ?_);rintro⟨bD,bF,aL,bJ,aP,aK,aW,aD,aU⟩ ⟨-,-,E,-,o,u,m,z,g⟩;refine O7 (k8 trivial ?_);exact H s5 aL (aP,aK,aW) aD aU F (E.2 (P F)) o.1 u.1 m.1 z g
 split
 ·obtain⟨q5,s5,e5,F,qa,qb,-⟩:=A0 (n:=5) j (by omega);have qb:=qb (by omega);have hP:(c.getD k.toNat (a6 l7)).1.length<=10000:=by
   have G:cnt (.pr (.sl (.int .i64)) (.pr (.sl (.int .i64)) (.pr (.sl (.int .i64)) (.sl (.int .i64))))) (c.getD k.toNat (a6 l7))<=10000:=W;rw[J8,J8,J8] at G;simp only[FL] at G;omega
  simp only[e5,vS,Option.isSome_some];refine k8 ⟨⟨V,by omega⟩,i,⟨V,by omega⟩,i,oo,trivial,oo,oo,trivial⟩ (An ?_);rintro⟨bG,bB,bH,aQ,bK,aS,aM,aY,aA,aF⟩ ⟨-,-,-,E,-,o,u,m,z,g⟩;refine O7 (k8 trivial ?_);exact H s5 aQ (aS,aM,aY) aA aF F (E.2 (P F)) o.1 u.1 m.1 z g
 split
 ·refine k8 ⟨oo,trivial⟩ (An ?_);rintro⟨bL,aZ,bI,aT,aR,aI,aX,aH,aB⟩ ⟨-,-,-,E,o,u,m,z,g⟩;refine O7 (k8 trivial ?_);exact H s3 aT (aR,aI,aX) aH aB j (E.2 (P j)) o.1 u.1 m.1 z g
 ·exact QZ (s:=s3) (d:=d) j (by omega)
theorem L0u:Ve:=R0A fun _ b a=>C0n (BZ b.1 a.1) a.2.1 a.2.2
theorem L0v:Vi:=R0B fun _ b a=>I0x (BZ b.1 a.1) a.2.1 a.2.2
theorem WM:My:=e61 L0u L0v fun _ b a=>I0J (BZ b.1 a.1) a.2.1 a.2.2
theorem L0w:Vo:=R0C WM fun _ b a=>I0P (BZ b.1 a)
theorem r0j{v:Int}{s:l6}{b:Bool}(h:Sd s):∃r,MA (v,s) b=some r/\True:=by
 unfold MA;dsimp only;split
 ·refine k8 ⟨trivial,QY h.1 (by omega) (by omega)⟩ (An ?_);rintro⟨b,d⟩ ⟨⟨a,e,f,g,c⟩,-,hz⟩;exact O7 (k8 trivial (k8 ⟨a,Nat.le_trans c (by decide)⟩ ⟨_,rfl,trivial⟩))
 ·refine k8 ⟨trivial,QY h.1 (by omega) (by omega)⟩ (An ?_);rintro⟨b,d⟩ ⟨⟨a,e,f,g,c⟩,-,hz⟩;exact O7 (k8 trivial (k8 ⟨a,Nat.le_trans c (by decide)⟩ ⟨_,rfl,trivial⟩))
theorem E0Q{s:l6}(h:Sd s):Qs s=some ():=by
 refine O7 ?_;obtain⟨v,f,c,a,-,-,-⟩:=A0 (n:=12) h (by omega);unfold Qs;simp only[c,vS,Option.isSome_some];refine k8 ⟨trivial,trivial⟩ (w6 ?_);dsimp only;split
 ·refine k8 ⟨trivial,a.1⟩ (An ?_);rintro⟨b,g⟩ ⟨⟨d,e⟩,-,hz⟩;exact O7 (k8 trivial (k8 ⟨d,e⟩ ⟨_,rfl,trivial⟩))
 ·split
  ·exact r0j a
  ·exact r0j a
theorem P0l:Vp:=e58 WM L0w fun _ b a=>E0Q (BZ b.1 a)
end
theorem w0g(pl:Nat->B5)(t:Int):∀m,0<m->V5 pl t m<m
 | 1,_=>by
   have e:V5 pl t 1=if((pl 0).2.2.1==t&&(pl 0).2.2.2)=true then((0:Nat):Int) else 0:=rfl
   rw[e];split <;> simp
 | m+2,_=>by
   have e:V5 pl t (m+2)=if((pl (m+1)).2.2.1==t&&(pl (m+1)).2.2.2)=true then((m+1:Nat):Int) else V5 pl t (m+1):=rfl
   have:=w0g pl t (m+1) (by omega);rw[e];split <;> omega
theorem s0m{b:j9}(o:p9 b=true){l:x6}(h:l∈lV b):0<=l.1/\l.1<2*((q9 b.2.1).length:Int)/\0<=l.2.1/\l.2.1<2*((q9 b.2.1).length:Int):=by
 obtain⟨r,m,_⟩:=X3 o;have u:=V6 r;rcases Wj h with ⟨i,j,t,hi,x,n,rfl⟩ | ⟨i,k,t,hi,hk,n,rfl⟩
 ·obtain⟨P,y,x3⟩:=FF u hi;obtain⟨z,W,V,v⟩:=FG y;obtain⟨Y,a2,T,E⟩:=v j x;obtain⟨A,w⟩:∃A:Nat,(m9 (x8 b i) j).2.1=(A:Int):=⟨(m9 (x8 b i) j).2.1.toNat,by omega⟩;obtain⟨B,s⟩:∃B:Nat,(m9 (x8 b i) j).2.2.1=(B:Int):=⟨(m9 (x8 b i) j).2.2.1.toNat,by omega⟩;have g:A < (m7 b.2.1 i).2.2.length:=by omega
  have e:B < (m7 b.2.1 i).2.2.length:=by omega
  have Q:z7 (m7 b.2.1) i+A < (q9 b.2.1).length:=by
   have:=MT (m7 b.2.1) hi g;unfold q9;rw[Jr]; omega
  have lB:z7 (m7 b.2.1) i+B < (q9 b.2.1).length:=by
   have:=MT (m7 b.2.1) hi e;unfold q9;rw[Jr]; omega
  have G:=(QB _ _).2 _ (H8 (d:=(0,0)) n);have a:(Hn (z7 (m7 b.2.1) i:Int) (m9 (x8 b i) j) j t).1=2*((z7 (m7 b.2.1) i:Int)+(A:Int))+((J4 (m9 (x8 b i) j).1 (m9 (x8 b i) j).2.2.2.1).getD t (0,0)).1:=by
   rw[<- w]; rfl
  have c:(Hn (z7 (m7 b.2.1) i:Int) (m9 (x8 b i) j) j t).2.1=2*((z7 (m7 b.2.1) i:Int)+(B:Int))+((J4 (m9 (x8 b i) j).1 (m9 (x8 b i) j).2.2.2.1).getD t (0,0)).2:=by
   rw[<- s]; rfl
  rw[a,c];omega
 ·obtain⟨q,f,F,X,_⟩:=MI (u5 b.2.1) i (q9 b.2.1).length _ (H8 (d:=0) hk);have f:(y9 b.2.1 i).getD k 0=(q:Int):=f;have H:=(VJ (u5 b.2.1) i (q9 b.2.1).length).1;have d2:=w0g (u5 b.2.1) i (q9 b.2.1).length (by omega);have a:(DC (J5 b i) ((y9 b.2.1 i).getD k 0) k t).1=2*V5 (u5 b.2.1) i (q9 b.2.1).length+(t:Int):=rfl;have c:(DC (J5 b i) ((y9 b.2.1 i).getD k 0) k t).2.1=2*(q:Int)+(t:Int):=by
   rw[<- f]; rfl
  rw[a,c];omega
section
variable (b:j9)
def j7:Nat:=2*(q9 b.2.1).length
def o8(i:Nat):Nat:=((lV b).getD i (a6 y80)).1.toNat
def p7(i:Nat):Nat:=((lV b).getD i (a6 y80)).2.1.toNat
theorem N2(a:p9 b=true){i:Nat}(hi:i < (lV b).length):((lV b).getD i (a6 y80)).1=(o8 b i:Int)/\((lV b).getD i (a6 y80)).2.1=(p7 b i:Int)/\o8 b i<j7 b/\p7 b i<j7 b:=by
 obtain⟨f,c,g,e⟩:=s0m a (H8 (d:=a6 y80) hi);unfold o8 p7 j7;omega
theorem AN(a:p9 b=true):j7 b<=1000000:=by
 have c:=(V6 (X3 a).1).len;unfold j7;omega
theorem WN(a:p9 b=true):R6 (o5 b)=some (j7 b:Int):=by
 have c:=(V6 (X3 a).1).len;have e:∀s:List C0,Le s=some (s.length:Int):=fun _=>rfl;unfold R6;rw[e,vS,gP ⟨rfl,⟨by show _<=2*((q9 b.2.1).length:Int); omega,by show 2*((q9 b.2.1).length:Int)<=_; omega⟩,trivial⟩,lE];unfold j7;rw[Int.natCast_mul];rfl
theorem WO(d:wf l9 b)(c:p9 b=true):Y6 b=some (j7 b:Int):=by
 have a:=V6 (X3 c).1;have e:=a.len;unfold Y6;rw[DA b.2.1 d.2.1 a.fac.ni14 a.fac.np8 a.pin,vS,gP ⟨rfl,⟨by show _<=2*((q9 b.2.1).length:Int); omega,by show 2*((q9 b.2.1).length:Int)<=_; omega⟩,trivial⟩,lE];unfold j7;rw[Int.natCast_mul];rfl
end
def D2(l:List Int)(x:Int):Bool:=(List.range l.length).any fun j=>l.getD j 0==x
theorem WQ(l:List Int)(x:Int)(b:l.length<=9223372036854775807):U8 l x=some (D2 l x):=by
 have a:=H9 b (fun j=>l.getD j 0==x) (some true) (e:=some false) (F:=Zu l x) (fun g i hi=>by
  have c:((i:Int)).toNat=i:=rfl;refine(if_pos (decide_eq_true (by omega))).trans ((gP ⟨oo,trivial⟩).trans ?_);rw[c];by_cases h:(l.getD i 0==x)=true
  ·rw[if_pos h,if_pos h]
  ·rw[if_neg h,if_neg h];exact gP ⟨oo,trivial⟩) (fun g=>if_neg (by simp))
 refine a.trans ?_;unfold D2;cases(List.range l.length).any fun j=>l.getD j 0==x <;> rfl
def D6(M:Nat)(br:List Int):List Bool:=fN (AI fun k=>!D2 br (k:Int)) M []
theorem WR(a:List l8)(br:List Int)(e:a.length<=1048576)(c:br.length<=1048576):Bg a br=some (D6 a.length br):=by
 refine(lF (n:=a.length) (by omega) (fun i (s:List Bool)=>((i:Int),s)) (AI fun k=>!D2 br (k:Int)) (fun i s=>s.length=i) (J:=fun s=>some s) (F:=Zx br a) (fun g i s hi b=>?_) (fun i s _ b=>by show(s++[_]).length=_; simp[b]) (fun g s _=>if_neg (by simp)) [] rfl).trans rfl;have d:((i:Int)).toNat=i:=rfl;refine(if_pos (decide_eq_true (by omega))).trans ?_;rw[WQ br _ (by omega),vS];refine(gP ⟨rfl,⟨by simp only[List.length_singleton]; omega,by simp only[List.length_singleton]; omega⟩,trivial⟩).trans ?_;exact gP ⟨oo,trivial⟩
def AO(M:Nat)(br:List Int):Bool:=br.all (m0 · 0 ((M:Int)-1))&&Dw br
theorem E0i:Cz []=some true:=by
 unfold Cz;refine D0W (fun n a=>?_);obtain⟨m,rfl⟩:∃m,n=m+1:=⟨n-1,by omega⟩;rfl
theorem K0N(xs:List Int)(h:xs.length<=9223372036854775807):Cz xs=some (Dw xs):=by
 cases xs with
 | nil=>exact E0i
 | cons x r=>exact VP _ h (by simp)
theorem r65{b:j9}(a:p9 b=true)(br:List Int)(h:br.length<=1048576):IN (o5 b) br=some (AO (lV b).length br):=by
 have c:=Q8 a;have e:GQ (o5 b).2.2.1=some ((lV b).length:Int):=rfl;unfold IN;rw[e,vS,Hj br 0 _ (by omega),vS,K0N br (by omega),vS,gP ⟨rfl,oo,rfl,(fun _=>rfl),trivial⟩];rfl
theorem M0i(M:Nat)(br:List Int)(o:M<=1048576)(h:br.length<=1048576):OP br (M:Int)=some (AO M br):=by
 have b:=H9 (n:=br.length) (by omega) (fun i=>!m0 (br.getD i 0) 0 ((M:Int)-1)||(decide (0<i)&&decide (br.getD i 0<=br.getD (i-1) 0))) (some false) (e:=some true) (F:=ZP br (M:Int)) (fun g i hi=>by
  have k:((i:Int)).toNat=i:=rfl;have d:((i:Int)-1).toNat=i-1:=by omega
  refine(if_pos (decide_eq_true (by omega))).trans ?_;rw[S8,vS,k,d];refine(gP ⟨oo,oo,rfl,(fun a=>oo),(fun a=>⟨by have:=of_decide_eq_true a.1; omega,by omega⟩),(fun _=>oo),trivial⟩).trans ?_;have f:decide ((0:Int) < (i:Int))=decide (0<i):=by
   rw[decide_eq_decide]; omega
  rw[f];by_cases a:(!m0 (br.getD i 0) 0 ((M:Int)-1)||(decide (0<i)&&decide (br.getD i 0<=br.getD (i-1) 0)))=true
  ·rw[if_pos a,if_pos a]
  ·rw[if_neg a,if_neg a];exact gP ⟨oo,trivial⟩) (fun g=>if_neg (by simp))
 refine b.trans ?_;have e:AO M br=!((List.range br.length).any fun i=>!m0 (br.getD i 0) 0 ((M:Int)-1)||(decide (0<i)&&decide (br.getD i 0<=br.getD (i-1) 0))):=by
  unfold AO Dw;rw[Bool.eq_iff_iff];simp only[ba,Bool.not_eq_true',<- Bool.not_eq_true,List.any_eq_true,List.all_eq_true,List.mem_range,Bool.or_eq_true];constructor
  ·rintro⟨m,j⟩ ⟨i,hi,a⟩;rcases a with a | a
   ·exact a (m _ (H8 hi))
   ·exact j ⟨i,hi,a⟩
  ·intro c;refine⟨fun x l=>?_,fun⟨i,hi,a⟩=>c ⟨i,hi,.inr a⟩⟩;obtain⟨i,hi,rfl⟩:=List.getElem_of_mem l;by_cases a:m0 br[i] 0 ((M:Int)-1)=true
   ·exact a
   ·refine(c ⟨i,hi,.inl ?_⟩).elim;rw[gq,List.getElem?_eq_getElem hi];exact a
 rw[e];cases(List.range br.length).any fun i=>!m0 (br.getD i 0) 0 ((M:Int)-1)||(decide (0<i)&&decide (br.getD i 0<=br.getD (i-1) 0)) <;> rfl
theorem WS{a:Type}(g:a->Nat->a)(l:List Nat)(s:a):fN (fun i s=>g s (l.getD i 0)) l.length s=l.foldl g s:=by
 have b:∀n,n<=l.length->fN (fun i s=>g s (l.getD i 0)) n s=(l.take n).foldl g s:=by
  intro n
  induction n with
  | zero=>intro _; rfl
  | succ n c =>
    intro d;have e:l.take (n+1)=l.take n++[l.getD n 0]:=by
     rw[List.take_add_one,gq,List.getElem?_eq_getElem (by omega)];rfl
    rw[e,List.foldl_append,<- c (by omega)];rfl
 have:=b l.length (Nat.le_refl _)
 rwa [List.take_length] at this
theorem D0k(M:Nat):∀m,m<=M->(fN (fun i (s:List Bool)=>s.set i true) m (List.replicate M false)).length=M/\∀k,k<m->(fN (fun i (s:List Bool)=>s.set i true) m (List.replicate M false)).getD k false=true:=by
 intro m
 induction m with
 | zero=>exact fun _=>⟨List.length_replicate,fun k b=>by omega⟩
 | succ m a =>
   intro d;obtain⟨e,c⟩:=a (by omega);refine⟨by show(List.set _ _ _).length=M; grind,fun k b=>?_⟩;show(List.set _ _ _).getD k false=true;rw[Jx _ (by omega)]
   grind
theorem E0P(br:List Int)(s:List Bool):∀m,(∀j,j<m->(br.getD j 0).toNat<s.length)->(fN (fun i (s:List Bool)=>s.set (br.getD i 0).toNat false) m s).length=s.length/\∀k,(fN (fun i (s:List Bool)=>s.set (br.getD i 0).toNat false) m s).getD k false=(s.getD k false&&!(List.range m).any fun j=>(br.getD j 0).toNat==k):=by
 intro m
 induction m with
 | zero=>exact fun _=>⟨rfl,fun k=>by show s.getD k false=_; simp⟩
 | succ m a =>
   intro b;obtain⟨e,c⟩:=a (fun j d=>b j (by omega));refine⟨by show(List.set _ _ _).length=_; grind,fun k=>?_⟩;show(List.set _ _ _).getD k false=_
   grind
def I1(p:Nat->Bool)(M:Nat):List Int:=((List.range M).filter p).map fun i:Nat=>(i:Int)
theorem FO(p:Nat->Bool):∀m,fN (fun i (s:List Int)=>if p i=true then s++[(i:Int)] else s) m []=I1 p m
 | 0=>rfl
 | m+1=>by
   show(if p m=true then fN _ m []++[(m:Int)] else fN _ m [])=_;rw[FO p m];unfold I1;rw[List.range_succ,List.filter_append,List.map_append]
   grind
theorem FP(p:Nat->Bool)(M:Nat):(I1 p M).length<=M/\(I1 p M).length=((List.range M).filter p).length:=by
 unfold I1
 grind
theorem WU(p:Nat->Bool)(M i:Nat):(I1 p M).getD i 0=((((List.range M).filter p).getD i 0:Nat):Int):=by
 grind[I1,List.range]
theorem Nn{p:Nat->Bool}{M i:Nat}(h:i < ((List.range M).filter p).length):((List.range M).filter p).getD i 0<M:=by
 grind[H8]
def X7(o:Option (List Nat)):List Int×Bool:=match o with
 | none=>([],false)
 | some l=>(l.map (fun v:Nat=>(v:Int)),true)
section
variable {b:j9}
theorem r67(r:p9 b=true){br:List Int}(a:AO (lV b).length br=true)(v:br.length<=1048576):LY (o5 b) br=some (o5 b,D6 (lV b).length br):=by
 have w:=Q8 r;have a:=a;unfold AO at a;rw[ba] at a;have c:∀j,j<br.length->0<=br.getD j 0/\br.getD j 0 < ((lV b).length:Int):=fun j l=>by
  grind[A4,Jh]
 obtain⟨e,t⟩:=D0k (lV b).length (lV b).length (Nat.le_refl _);obtain⟨h,q⟩:=E0P br (fN (fun i (s:List Bool)=>s.set i true) (lV b).length (List.replicate (lV b).length false)) br.length (fun j l=>by
  have:=c j l;omega)
 have o:fN (fun i (s:List Bool)=>s.set (br.getD i 0).toNat false) br.length (fN (fun i (s:List Bool)=>s.set i true) (lV b).length (List.replicate (lV b).length false))=D6 (lV b).length br:=by
  refine Jy false (by rw[h,e]; exact(FD _ _).symm) (fun k d=>?_);have d:k < (lV b).length:=by rw[h,e] at d; exact d
  rw[q,t k d,Bool.true_and];refine Eq.trans ?_ (MK (fun k=>!D2 br (k:Int)) false _ k d).symm;congr 1;unfold D2;rw[Bool.eq_iff_iff,List.any_eq_true,List.any_eq_true];constructor
  ·grind
  ·grind
 unfold LY;have u:((o5 b).2.2.1.length:Int)=((lV b).length:Int):=rfl;rw[u,Int.toNat_natCast];refine(gP ⟨⟨by omega,rfl,by omega,by omega⟩,trivial⟩).trans ?_;rw[lE,List.length_replicate];refine(lF (n:=(lV b).length) (by omega) (fun i (s:List Bool)=>((i:Int),s)) (fun i s=>s.set i true) (fun _ s=>s.length=(lV b).length) (J:=fun s=>LX br (o5 b) s) (F:=G0k br (o5 b) ((lV b).length:Int)) (fun g i s hi f=>?_) (fun i s _ f=>by grind) (fun g s _=>if_neg (by simp)) (List.replicate (lV b).length false) List.length_replicate).trans ?_
 ·have m:((i:Int)).toNat=i:=rfl;refine(if_pos (decide_eq_true (by omega))).trans ?_;refine(gP ⟨oo,by omega,trivial⟩).trans ?_;exact gP ⟨oo,trivial⟩
 ·show LX br (o5 b) _=_;rw[LX];refine(lF (n:=br.length) (by omega) (fun i (s:List Bool)=>((i:Int),s)) (fun i s=>s.set (br.getD i 0).toNat false) (fun _ s=>s.length=(lV b).length) (J:=fun s=>some (o5 b,s)) (F:=G0j br (o5 b)) (fun g i s hi f=>?_) (fun i s _ f=>by grind) (fun g s _=>if_neg (by simp)) _ e).trans ?_
  ·have m:((i:Int)).toNat=i:=rfl;have:=c i hi;refine(if_pos (decide_eq_true (by omega))).trans ?_;refine(gP ⟨oo,trivial⟩).trans ?_;rw[m];refine(gP ⟨oo,by omega,trivial⟩).trans ?_;exact gP ⟨oo,trivial⟩
  grind
theorem K0L(c:p9 b=true){lv:List Bool}(e:lv.length=(lV b).length):PS (o5 b,lv)=some (I1 (fun i=>lv.getD i false) (lV b).length):=by
 have f:=Q8 c;refine(lF (n:=(lV b).length) (by omega) (fun i (s:List Int)=>(s,(i:Int))) (fun i s=>if lv.getD i false=true then s++[(i:Int)] else s) (fun i s=>s.length<=i) (J:=fun s=>some s) (F:=j0W (o5 b,lv)) (fun g i s hi d=>?_) (fun i s _ d=>?_) (fun g s _=>if_neg (by simp[o5])) [] (Nat.le_refl _)).trans (congrArg some (FO _ _))
 ·have j:((i:Int)).toNat=i:=rfl;have a:ix (i:Int) (o5 b).2.2.1.length:=⟨by omega,by show(i:Int) < ((lV b).length:Int); omega⟩;refine(if_pos (decide_eq_true a.2)).trans ((gP ⟨a,trivial⟩).trans ?_);rw[lE];refine(gP ⟨⟨by omega,by grind⟩,(fun _=>rfl),trivial⟩).trans ?_;show(if(lv.getD i false&&true)=true then _ else _)=_;rw[Bool.and_true];by_cases h:lv.getD i false=true
  ·rw[if_pos h,if_pos h];refine(gP ⟨⟨by grind,by grind⟩,trivial⟩).trans ?_;exact gP ⟨oo,trivial⟩
  ·rw[if_neg h,if_neg h];exact gP ⟨oo,trivial⟩
 grind
theorem K0M(c:p9 b=true){lv:List Bool}(k:lv.length=(lV b).length)(a:Nat):PO (o5 b,lv) (a:Int)=some (I1 (fun i=>lv.getD i false&&o8 b i==a) (lV b).length):=by
 have l:=Q8 c;refine(lF (n:=(lV b).length) (by omega) (fun i (s:List Int)=>(s,(i:Int))) (fun i s=>if(lv.getD i false&&o8 b i==a)=true then s++[(i:Int)] else s) (fun i s=>s.length<=i) (J:=fun s=>some s) (F:=j0S (o5 b,lv) (a:Int)) (fun g i s hi j=>?_) (fun i s _ j=>?_) (fun g s _=>if_neg (by simp[o5])) [] (Nat.le_refl _)).trans (congrArg some (FO _ _))
 ·have m:((i:Int)).toNat=i:=rfl;have d:ix (i:Int) (o5 b).2.2.1.length:=⟨by omega,by show(i:Int) < ((lV b).length:Int); omega⟩;refine(if_pos (decide_eq_true d.2)).trans ((gP ⟨d,trivial⟩).trans ?_);rw[lE];refine(gP ⟨⟨by omega,by show(i:Int) < (lv.length:Int); omega⟩,(fun _=>rfl),trivial⟩).trans ?_;obtain⟨f,_⟩:=N2 b c hi;have e:(((lV b).getD i (a6 y80)).1==(a:Int))=(o8 b i==a):=by
   rw[f,Bool.eq_iff_iff,beq_iff_eq,beq_iff_eq]; omega
  show(if(lv.getD i false&&(((lV b).getD i (a6 y80)).1==(a:Int)))=true then _ else _)=_;rw[e];by_cases h:(lv.getD i false&&o8 b i==a)=true
  ·rw[if_pos h,if_pos h];refine(gP ⟨⟨by grind,by grind⟩,trivial⟩).trans ?_;exact gP ⟨oo,trivial⟩
  ·rw[if_neg h,if_neg h];exact gP ⟨oo,trivial⟩
 grind
theorem O0e(d:p9 b=true){lv:List Bool}(c:lv.length=(lV b).length)(a:Nat):GU (o5 b,lv) (a:Int)=some (I1 (fun i=>lv.getD i false&&o8 b i==a) (lV b).length):=by
 unfold GU;rw[K0M d c,vS,gP ⟨rfl,trivial⟩,lE]
theorem O0f(o:List Int)(h:o.length<=9223372036854775807):PR o 0=some (match(List.range o.length).find? (fun v=>(0:Int)==o.getD v 0) with | some v=>(v:Int) | none => -1):=by
 have a:=JD h (fun v=>(0:Int)==o.getD v 0) (fun v=>some (v:Int)) (e:=some (-1)) (F:=B0p 0 o) 0 (Nat.zero_le _) (fun g i _ hi=>by
  have c:((i:Int)).toNat=i:=rfl;refine(if_pos (decide_eq_true (by omega))).trans ((gP ⟨oo,trivial⟩).trans ?_);rw[c];by_cases b:((0:Int)==o.getD i 0)=true
  ·simp_all
  ·rw[if_neg b,if_neg b];exact gP ⟨oo,trivial⟩) (fun g=>if_neg (by simp))
 rw[Nat.sub_zero,<- List.range_eq_range'] at a;refine Eq.trans a ?_
 grind
end
section
variable {b:j9}
theorem u0H{o:List Int}{i N:Nat}{x:Int}(h:o.length=N):(o.set i x).length=N:=by grind
theorem K0D(c:p9 b=true){lv:List Bool}{p:Nat->Bool}:lp (UI (o5 b,lv) (I1 p (lV b).length)) (0,List.replicate (j7 b) 0)=LZ (o5 b,lv) (((List.range (lV b).length).filter p).foldl (FJ (p7 b)) (List.replicate (j7 b) 0)):=by
 have y:=Q8 c;obtain⟨z,m⟩:=FP p (lV b).length;rw[<- WS,<- m];refine lF (n:=(I1 p (lV b).length).length) (by omega) (fun i (s:List Int)=>((i:Int),s)) (fun i o=>FJ (p7 b) o (((List.range (lV b).length).filter p).getD i 0)) (fun i o=>o.length=j7 b/\∀v,0<=o.getD v 0/\o.getD v 0<=(i:Int)) (J:=fun s=>LZ (o5 b,lv) s) (F:=UI (o5 b,lv) (I1 p (lV b).length)) (fun g i o hi d=>?_) (fun i o hi d=>?_) (fun g s _=>if_neg (by simp)) _ ⟨List.length_replicate,fun v=>?_⟩
 ·have r:((i:Int)).toNat=i:=rfl;obtain⟨h,f⟩:=d;have a:=Nn (p:=p) (M:=(lV b).length) (i:=i) (by omega);refine(if_pos (decide_eq_true (by omega))).trans ?_;refine(gP ⟨oo,by omega,trivial⟩).trans ?_;rw[r,WU];generalize ((List.range (lV b).length).filter p).getD i 0=k at a;have x:Int.toNat ((k:Nat):Int)=k:=rfl;obtain⟨q,e,j,u⟩:=N2 b c a;have t:ix ((k:Nat):Int) (o5 b).2.2.1.length:=⟨by omega,by show((k:Nat):Int) < ((lV b).length:Int); omega⟩;have E:=f (p7 b k);have l:((o5 b).2.2.1.getD (Int.toNat ((k:Nat):Int)) (a6 y80)).2.1=(p7 b k:Int):=e;have w:Int.toNat ((p7 b k:Nat):Int)=p7 b k:=rfl;rw[l,w];refine(gP ⟨t,oo,by omega,oo,oo,by omega,trivial⟩).trans ?_;rw[lE];exact gP ⟨oo,trivial⟩
 ·obtain⟨h,f⟩:=d;have a:=Nn (p:=p) (M:=(lV b).length) (i:=i) (by omega);obtain⟨q,e,j,u⟩:=N2 b c a;refine⟨u0H h,fun v=>?_⟩
  grind[FJ,Nd,p7,List.range,lV]
 grind
theorem K0C(e:p9 b=true){lv:List Bool}{p:Nat->Bool}{n:Int}{l:List Int}{v:Int}{a:List Int×Int×List Int->Option (List Int×Bool)}{o:List Int}{A:Int}(T:0<=A)(j:A<=1000000000000)(ol:o.length=j7 b)(h:∀w,w<j7 b -> -A<=o.getD w 0/\o.getD w 0<=A):lp (PU (o5 b,lv) (I1 p (lV b).length) n l v a) (0,o)=PT n a (l++[v],((List.range (lV b).length).filter p).foldl (Hy (p7 b)) o):=by
 have Q:=Q8 e;obtain⟨P,m⟩:=FP p (lV b).length;rw[<- WS,<- m];refine lF (n:=(I1 p (lV b).length).length) (by omega) (fun i (s:List Int)=>((i:Int),s)) (fun i o=>Hy (p7 b) o (((List.range (lV b).length).filter p).getD i 0)) (fun i o=>o.length=j7 b/\∀w,w<j7 b -> -A-(i:Int)<=o.getD w 0/\o.getD w 0<=A) (J:=fun s=>PT n a (l++[v],s)) (F:=PU (o5 b,lv) (I1 p (lV b).length) n l v a) (fun g i o hi d=>?_) (fun i o hi d=>?_) (fun g s _=>if_neg (by simp)) _ ⟨ol,fun w z=>by grind⟩
 ·have x:((i:Int)).toNat=i:=rfl;obtain⟨ol,f⟩:=d;have c:=Nn (p:=p) (M:=(lV b).length) (i:=i) (by omega);refine(if_pos (decide_eq_true (by omega))).trans ?_;refine(gP ⟨oo,by omega,trivial⟩).trans ?_;rw[x,WU];generalize ((List.range (lV b).length).filter p).getD i 0=k at c;obtain⟨H,t,E,q⟩:=N2 b e c;have y:ix ((k:Nat):Int) (o5 b).2.2.1.length:=⟨by omega,by show((k:Nat):Int) < ((lV b).length:Int); omega⟩;have G:=f (p7 b k) q;have u:((o5 b).2.2.1.getD (Int.toNat ((k:Nat):Int)) (a6 y80)).2.1=(p7 b k:Int):=t;have r:Int.toNat ((p7 b k:Nat):Int)=p7 b k:=rfl;rw[u,r];refine(gP ⟨y,oo,by omega,oo,oo,by omega,trivial⟩).trans ?_;rw[lE];exact gP ⟨oo,trivial⟩
 ·obtain⟨ol,f⟩:=d;have c:=Nn (p:=p) (M:=(lV b).length) (i:=i) (by omega)
  grind[Hy]
def P5(b:j9)(lv:List Bool)(out:List Nat)(k:Nat):Option (List Nat):=AJ (lV b).length (j7 b) (o8 b) (p7 b) (fun i=>lv.getD i false) k out
theorem WV(M N:Nat)(fr to:Nat->Nat)(lv:Nat->Bool)(k:Nat)(a:List Nat):AJ M N fr to lv (k+1) a=match N0 M N fr to lv a with | none=>none | some v=>AJ M N fr to lv k (a++[v]):=rfl
theorem r68(d:p9 b=true){lv:List Bool}(h:lv.length=(lV b).length):Ma (o5 b,lv)=some (X7 (P5 b lv [] (j7 b))):=by
 have z:=Q8 d;have E:=AN b d;have o:∀i,i < (lV b).length->p7 b i<j7 b:=fun i hi=>(N2 b d hi).2.2.2;unfold Ma;rw[WN b d,vS,gP ⟨rfl,⟨by omega,rfl,by omega,by omega⟩,trivial⟩,lE,K0L d h,vS,gP ⟨rfl,trivial⟩,lE,Int.toNat_natCast,K0D d];have u:((List.range (lV b).length).filter fun i=>lv.getD i false).foldl (FJ (p7 b)) (List.replicate (j7 b) 0)=CK (lV b).length (j7 b) (o8 b) (p7 b) (fun i=>lv.getD i false) []:=rfl;rw[u];have k:(CK (lV b).length (j7 b) (o8 b) (p7 b) (fun i=>lv.getD i false) []).length=j7 b:=(B0P (fr:=o8 b) o).len;generalize hv6:CK (lV b).length (j7 b) (o8 b) (p7 b) (fun i=>lv.getD i false) []=v6 at k;rw[LZ];have t:=Np (n:=j7 b) (by omega) (fun i (a:List Nat)=>(a.map (fun v:Nat=>(v:Int)),(i:Int),CK (lV b).length (j7 b) (o8 b) (p7 b) (fun i=>lv.getD i false) a))
  (fun _ a=>(N0 (lV b).length (j7 b) (o8 b) (p7 b) (fun i=>lv.getD i false) a).map fun v=>a++[v]) (fun _ _=>some ([],false))
  (fun i a=>a.length=i/\Nf (lV b).length (j7 b) (o8 b) (p7 b) (fun i=>lv.getD i false) a (CK (lV b).length (j7 b) (o8 b) (p7 b) (fun i=>lv.getD i false) a))
  (J:=fun a=>some (a.map (fun v:Nat=>(v:Int)),true)) (F:=G0h (o5 b,lv) v6)
  (fun g i a hi f=>by
    obtain⟨r,c⟩:=f;have H:((i:Int)).toNat=i:=rfl;refine(if_pos (decide_eq_true (by omega))).trans ?_;rw[O0f _ (by rw[c.len]; omega),v0i c,vS];refine(gP ⟨rfl,trivial⟩).trans ?_;rw[lE];cases hn:N0 (lV b).length (j7 b) (o8 b) (p7 b) (fun i=>lv.getD i false) a with
    | none=>rfl
    | some v =>
      obtain⟨q,x⟩:=Ng hn;have ev:((v:Int)).toNat=v:=rfl;dsimp only;refine(if_neg (by simp)).trans ?_;refine(gP ⟨⟨by omega,by rw[c.len]; omega⟩,by rw[c.len]; omega,trivial⟩).trans ?_;refine(gP ⟨⟨by simp only[List.length_singleton,List.length_map]; omega,by simp only[List.length_singleton,List.length_map]; omega⟩,trivial⟩).trans ?_;show gd ((GU (o5 b,lv) (v:Int)).isSome=true/\True) (lt (vl (GU (o5 b,lv) (v:Int))) fun j=>lp (PU (o5 b,lv) j (i:Int) (a.map fun v:Nat=>(v:Int)) (v:Int) g) (0,(CK (lV b).length (j7 b) (o8 b) (p7 b) (fun i=>lv.getD i false) a).set v (-1)))=g ((a++[v]).map (fun v:Nat=>(v:Int)),(((i+1:Nat)):Int),CK (lV b).length (j7 b) (o8 b) (p7 b) (fun i=>lv.getD i false) (a++[v]));rw[O0e d h,vS,gP ⟨rfl,trivial⟩,lE];have s:(a.length:Int)*((lV b).length:Int)<=1000000*6000:=Int.mul_le_mul (by omega) (by omega) (by omega) (by decide);rw[K0C d (A:=6000000001) (by decide) (by decide) (u0H c.len) (fun w m=>by
       rw[Nd _ (by rw[c.len]; exact q)];have G:=c.lo w m;have P:=c.hi w m;split <;> omega)]
      rw[m0O,List.map_append];exact gP ⟨oo,trivial⟩)
  (fun i a l hi f y=>by
    obtain⟨r,c⟩:=f;cases hn:N0 (lV b).length (j7 b) (o8 b) (p7 b) (fun i=>lv.getD i false) a with
    | none=>grind
    | some v =>
      grind[Ng,m0O,v0h])
  (fun g a f=>by
    refine(if_neg ?_).trans rfl
    grind)
  (fun i a=>some (X7 (P5 b lv a (j7 b-i)))) (fun a _=>by
    rw[Nat.sub_self]; rfl)
  (fun i a hi f=>by
    have e:j7 b-i=(j7 b-(i+1))+1:=by omega
    show some (X7 (AJ _ _ _ _ _ (j7 b-i) a))=_;rw[e,WV];cases N0 (lV b).length (j7 b) (o8 b) (p7 b) (fun i=>lv.getD i false) a <;> rfl)
  0 (Nat.zero_le _) [] ⟨rfl,B0P o⟩
 grind
end
section
variable {b:j9}
theorem O0d(o:p9 b=true){lv:List Bool}(W:lv.length=(lV b).length):KH (j7 b:Int) (lV b) lv=some (X7 (P5 b lv [] (j7 b))):=by
 have hM:=Q8 o;have hN:=AN b o;have z:∀i,i < (lV b).length->p7 b i<j7 b:=fun i hi=>(N2 b o hi).2.2.2;have l:((j7 b:Int)).toNat=j7 b:=rfl;unfold KH;rw[l];refine(gP ⟨⟨by omega,rfl,by omega,by omega⟩,trivial⟩).trans ?_;exact Np (n:=j7 b) (by omega) (fun _ (a:List Nat)=>(O5 (j7 b) a,a.map (fun v:Nat=>(v:Int))))
  (fun _ a=>(N0 (lV b).length (j7 b) (o8 b) (p7 b) (fun i=>lv.getD i false) a).map fun v=>a++[v]) (fun _ _=>some ([],false))
  (fun i a=>a.length=i/\∀v∈a,v<j7 b)
  (J:=fun a=>some (a.map (fun v:Nat=>(v:Int)),true)) (F:=ZN (lV b) lv (j7 b:Int))
  (fun g i a hi j=>by
    obtain⟨y,q⟩:=j;have u:=fun w=>Nh q w;refine(if_pos (decide_eq_true (by rw[List.length_map]; omega))).trans ?_;rw[l];refine(gP ⟨⟨by omega,rfl,by omega,by omega⟩,trivial⟩).trans ?_;refine(lF (n:=(lV b).length) (by omega) (fun k (w:List Bool)=>((k:Int),w)) (FK (o8 b) (p7 b) (fun i=>lv.getD i false) a) (fun _ w=>w.length=j7 b) (J:=fun w=>KG (O5 (j7 b) a) (a.map fun v:Nat=>(v:Int)) (j7 b:Int) g w) (F:=ZM (lV b) lv (O5 (j7 b) a) (a.map fun v:Nat=>(v:Int)) (j7 b:Int) g) (fun G k w P c=>?_) (fun k w _ c=>?_) (fun G w _=>if_neg (by simp)) (List.replicate (j7 b) false) List.length_replicate).trans ?_
    ·have s:((k:Int)).toNat=k:=rfl;obtain⟨T,X,f3,f4⟩:=N2 b o P;have E:Int.toNat ((o8 b k:Nat):Int)=o8 b k:=rfl;have Y:Int.toNat ((p7 b k:Nat):Int)=p7 b k:=rfl;have l1:=(u (o8 b k)).1;refine(if_pos (decide_eq_true (by omega))).trans ?_;rw[s,T,X,E,Y,(u (o8 b k)).2];refine(gP ⟨oo,(fun _=>oo),(fun _=>oo),(fun _=>by omega),trivial⟩).trans ?_;unfold FK;by_cases d:(lv.getD k false&&!a.contains (o8 b k))=true
     ·rw[if_pos d,if_pos d];refine(gP ⟨oo,oo,by omega,trivial⟩).trans ?_;exact gP ⟨oo,trivial⟩
     ·rw[if_neg d,if_neg d];exact gP ⟨oo,trivial⟩
    ·unfold FK;split
     ·rw[List.length_set]; exact c
     ·exact c
    ·show KG _ _ _ g _=_;rw[KG,<- t0n (lv:=fun i=>lv.getD i false) (fr:=o8 b) z q];have H:=(p0r (fr:=o8 b) (lv:=fun i=>lv.getD i false) z a 0 _ (Nat.le_refl _)).1;generalize fN (FK (o8 b) (p7 b) (fun i=>lv.getD i false) a) (lV b).length (List.replicate (j7 b) false)=w at H;have l1:=(u 0).1;have m:=JD (n:=j7 b) (by omega) (fun v=>!((O5 (j7 b) a).getD v false||w.getD v false)) (fun v=>Iw (O5 (j7 b) a) (a.map fun v:Nat=>(v:Int)) (j7 b:Int) g (v:Int)) (e:=some ([],false)) (F:=ZL (O5 (j7 b) a) (a.map fun v:Nat=>(v:Int)) (j7 b:Int) w g) 0 (Nat.zero_le _) (fun V v _ t=>by
      have s:((v:Int)).toNat=v:=rfl;have f:decide ((v:Int) < (j7 b:Int))=true:=decide_eq_true (by omega);refine(gP ⟨(fun _=>oo),(fun _=>by omega),(fun _=>oo),(fun _=>by omega),trivial⟩).trans ?_;rw[s,f,Bool.true_and];by_cases d:((O5 (j7 b) a).getD v false||w.getD v false)=true
      ·rw[if_pos d,if_neg (by rw[d]; decide)];exact gP ⟨oo,trivial⟩
      ·rw[if_neg d,if_pos (by rw[Bool.eq_false_iff.2 d]; rfl)]) (fun V=>by
      have f:decide ((j7 b:Int) < (j7 b:Int))=false:=decide_eq_false (by omega);refine(gP ⟨(fun h=>by rw[f] at h; cases h.1),(fun h=>by rw[f] at h; cases h.1),(fun h=>by rw[f] at h; cases h.2.1),(fun h=>by rw[f] at h; cases h.2.1),trivial⟩).trans ?_;rw[f,Bool.false_and];refine(if_neg (by decide)).trans ?_;rw[Iw];exact if_pos (beq_self_eq_true _))
     rw[Nat.sub_zero,<- List.range_eq_range'] at m;refine Eq.trans m ?_;cases hn:(List.range (j7 b)).find? fun v=>!((O5 (j7 b) a).getD v false||w.getD v false) with
     | none=>rfl
     | some v =>
       have t:=List.mem_range.1 (List.mem_of_find?_eq_some hn);have s:((v:Int)).toNat=v:=rfl;show Iw (O5 (j7 b) a) (a.map fun v:Nat=>(v:Int)) (j7 b:Int) g (v:Int)=g (O5 (j7 b) (a++[v]),(a++[v]).map fun v:Nat=>(v:Int));rw[Iw,n0c,List.map_append];refine(if_neg (by rw[beq_iff_eq]; omega)).trans ?_;refine(gP ⟨oo,by omega,trivial⟩).trans ?_;exact gP ⟨⟨by simp only[List.length_singleton,List.length_map]; omega,by simp only[List.length_singleton,List.length_map]; omega⟩,trivial⟩)
  (fun i a x hi j r=>by
    obtain⟨y,q⟩:=j;cases hn:N0 (lV b).length (j7 b) (o8 b) (p7 b) (fun i=>lv.getD i false) a with
    | none=>rw[hn] at r; cases r
    | some v =>
      rw[hn] at r;cases r;obtain⟨Q,n2⟩:=Ng hn;refine⟨by simp[y],fun w c=>?_⟩;rcases List.mem_append.1 c with c | c
      ·exact q w c
      ·cases List.mem_singleton.1 c; exact Q)
  (fun g a j=>by
    refine(if_neg ?_).trans rfl;simp[j.1])
  (fun i a=>some (X7 (P5 b lv a (j7 b-i)))) (fun a _=>by
    rw[Nat.sub_self]; rfl)
  (fun i a hi j=>by
    have e:j7 b-i=(j7 b-(i+1))+1:=by omega
    show some (X7 (AJ _ _ _ _ _ (j7 b-i) a))=_;rw[e,WV];cases N0 (lV b).length (j7 b) (o8 b) (p7 b) (fun i=>lv.getD i false) a <;> rfl)
  0 (Nat.zero_le _) [] ⟨rfl,fun v t=>nomatch t⟩
theorem Ra(M:Nat)(br:List Int):(D6 M br).length=M:=FD _ _
end
def DJ(b:j9)(br:List Int):Int:=if p9 b=true then(if AO (lV b).length br=true then 0 else 2) else 1
theorem r71(b:j9)(c:wf l9 b)(d:cnt l9 b<=1048576)(br:List Int)(a:br.length<=1048576):Fg b br=some (DJ b br):=by
 unfold Fg DJ;rw[Jp b c d,vS,gP ⟨rfl,trivial⟩];cases hb:p9 b with
 | false=>rfl
 | true =>
   have e:=Q8 hb;refine(if_neg (by simp)).trans ?_;rw[MU b c hb,vS,M0i _ br (by omega) a,gP ⟨rfl,rfl,trivial⟩,lE,M0i _ br (by omega) a,vS];cases AO (lV b).length br <;> rfl
theorem z0L{b:j9}{br:List Int}(h:DJ b br=0):p9 b=true/\AO (lV b).length br=true:=by
 unfold DJ at h;split at h
 ·rename_i c;split at h
  ·rename_i a; exact⟨c,a⟩
  ·cases h
 ·cases h
def WW(b:j9)(br:List Int):List Int×Int:=if DJ b br=0 then(if(X7 (P5 b (D6 (lV b).length br) [] (j7 b))).2=true then((X7 (P5 b (D6 (lV b).length br) [] (j7 b))).1,0) else([],7)) else([],DJ b br)
theorem r72(b:j9)(c:wf l9 b)(e:cnt l9 b<=1048576)(br:List Int)(d:br.length<=1048576):KY b br=some (WW b br):=by
 unfold KY WW;rw[r71 b c e br d,vS,gP ⟨rfl,trivial⟩,lE];by_cases h:DJ b br=0
 ·obtain⟨a,f⟩:=z0L h;have g:=Q8 a;rw[h];refine(if_neg (by decide)).trans ?_;rw[MU b c a,vS,gP ⟨rfl,trivial⟩,lE,WO b c a,vS,WR _ _ (by omega) d,vS,O0d a (Ra _ _),vS];refine(gP ⟨rfl,rfl,rfl,trivial⟩).trans ?_;rw[lE,if_pos rfl];cases h2:(X7 (P5 b (D6 (lV b).length br) [] (j7 b))).2
  ·refine(if_pos (by simp[h2])).trans ?_;rfl
  ·refine(if_neg (by simp[h2])).trans ?_;rfl
 ·rw[if_neg h];exact if_pos (by simp[h])
theorem E0O{M:List l8}(i:M.length<=6000){l:List Int}{s:l6}(h:Sd s)(f:l.length<=6000) :
  (∃r,PK M (s.1,s.2.1,s.2.2,l)=some r/\(Sd r.2/\r.1.length<=6001))/\∃r,PL M (s.1,s.2.1,s.2.2,l)=some r/\(Sd r.2/\r.1.length<=6001):=by
 obtain⟨v,g,d,a,-,-,-⟩:=A0 (n:=12) h (by omega);obtain⟨q,j,e,b,qa,qb,-⟩:=A0 (n:=2) a (by omega);have qb:=qb (by omega);have c:j0 ((M.length:Int)*q):=by
  have m:(M.length:Int)*q<=6000*1:=Int.mul_le_mul (by omega) (by omega) qa (by omega);have k:0<=(M.length:Int)*q:=Int.mul_nonneg (by omega) qa;exact oo
 constructor
 ·unfold PK;simp only[d,vS,Option.isSome_some];refine k8 ⟨trivial,trivial⟩ (w6 ?_);dsimp only;split
  ·simp only[e,vS,Option.isSome_some];refine k8 ⟨trivial,c,⟨by rw[List.length_singleton]; omega,by rw[List.length_singleton]; omega⟩,trivial⟩ (w6 ?_);exact⟨_,rfl,b,by simp only[List.length_append,List.length_singleton]; omega⟩
  ·exact⟨_,rfl,a,by simp only; omega⟩
 ·unfold PL;simp only[d,vS,Option.isSome_some];refine k8 ⟨trivial,trivial⟩ (w6 ?_);dsimp only;split
  ·simp only[e,vS,Option.isSome_some];refine k8 ⟨trivial,c,⟨by rw[List.length_singleton]; omega,by rw[List.length_singleton]; omega⟩,trivial⟩ (w6 ?_);exact⟨_,rfl,b,by simp only[List.length_append,List.length_singleton]; omega⟩
  ·exact⟨_,rfl,a,by simp only; omega⟩
theorem I0I{s:l6}(h:Sd s){b:j9}(o:wf l9 b)(G:cnt l9 b<=20000):∃r,IL s b=some r/\(Sd r.2/\r.1.length<=6001):=by
 unfold IL;simp only[Jp b o (Nat.le_trans G (by decide)),vS,Option.isSome_some];cases hb:p9 b with
 | false =>
   refine k8 ⟨trivial,trivial⟩ ?_;rw[if_pos (by decide)];refine k8 trivial ?_;rw[if_pos (by decide)];exact⟨_,rfl,h,by simp⟩
 | true =>
   have P:=Q8 hb;obtain⟨v,T,E,a,-,-,-⟩:=A0 (n:=3) h (by omega);obtain⟨w,Y,F,d,a1,y,-⟩:=A0 (n:=8) a (by omega);have y:=y (by omega);obtain⟨V,s2,H,j,a2,q,-⟩:=A0 (n:=1+w) d (by omega);have q:=q (by omega);refine k8 ⟨trivial,trivial⟩ ?_;rw[if_neg (by decide)];simp only[E,vS,Option.isSome_some];refine k8 ⟨⟨trivial,trivial⟩,trivial⟩ ?_;split
   ·exact w6 ⟨_,rfl,a,by simp⟩
   ·simp only[MU b o hb,vS,Option.isSome_some];refine k8 ⟨trivial,trivial⟩ (w6 ?_);dsimp only;simp only[F,vS,Option.isSome_some];refine k8 ⟨trivial,oo,trivial⟩ (w6 ?_);dsimp only;simp only[H,vS,Option.isSome_some];refine k8 ⟨trivial,trivial⟩ (w6 ?_);dsimp only;refine N1 (fun x=>(7000-x.1).toNat) (fun x=>Sd (x.2.1,x.2.2.1,x.2.2.2.1)/\0<=x.1/\x.1<=6100/\(x.2.2.2.2.length:Int)<=x.1/\x.2.2.2.2.length<=6000) ?_ ⟨j,by simp only; omega,by simp only; omega,by simp; omega,by simp⟩ (by simp only; omega);rintro g ⟨i,c,m,e,l⟩ ⟨f,i2,i3,i4,i5⟩ z;simp only at f i2 i3 i4 i5;unfold G0u;dsimp only;split
    ·rename_i u;have u:=of_decide_eq_true u;obtain⟨v3,W,Q,k,X,t,-⟩:=A0 (n:=1+w) f (by omega);have t:=t (by omega);refine k8 ⟨⟨by rw[List.length_singleton]; omega,by rw[List.length_singleton]; omega⟩,trivial⟩ ?_;simp only[Q,vS,Option.isSome_some];refine k8 ⟨trivial,oo,oo,trivial⟩ (w6 ?_);exact z _ ⟨k,by simp only; omega,by simp only; omega,by simp only[List.length_append,List.length_singleton]; omega,by simp only[List.length_append,List.length_singleton]; omega⟩ (by simp only; omega)
    ·exact(E0O P (s:=(c,m,e)) f i5).2
theorem wf9{v:j9×l6}(h:HC (Qr v)):wf l9 v.1:=⟨h.1,⟨h.2.1,h.2.2.1,h.2.2.2.1⟩,h.2.2.2.2.1⟩
section
variable [Alw]
end
section
variable {b:j9}
end
theorem r41{b:j9}(c:p9 b=true)(a:Int):CB (o5 b) a=some (m0 a 0 ((j7 b:Int)-1)):=by
 have d:=AN b c;unfold CB;rw[WN b c,vS];refine(gP ⟨rfl,oo,rfl,trivial⟩).trans ?_;rw[Z2,vS]
section
variable {b:j9}
theorem y0w(c:p9 b=true){lv:List Bool}(k:lv.length=(lV b).length)(a:Nat):PW (o5 b,lv) (a:Int)=some (I1 (fun i=>lv.getD i false&&p7 b i==a) (lV b).length):=by
 have l:=Q8 c;refine(lF (n:=(lV b).length) (by omega) (fun i (s:List Int)=>(s,(i:Int))) (fun i s=>if(lv.getD i false&&p7 b i==a)=true then s++[(i:Int)] else s) (fun i s=>s.length<=i) (J:=fun s=>some s) (F:=j0U (o5 b,lv) (a:Int)) (fun g i s hi j=>?_) (fun i s _ j=>?_) (fun g s _=>if_neg (by simp[o5])) [] (Nat.le_refl _)).trans (congrArg some (FO _ _))
 ·have m:((i:Int)).toNat=i:=rfl;have d:ix (i:Int) (o5 b).2.2.1.length:=⟨by omega,by show(i:Int) < ((lV b).length:Int); omega⟩;refine(if_pos (decide_eq_true d.2)).trans ((gP ⟨d,trivial⟩).trans ?_);rw[lE];refine(gP ⟨⟨by omega,by show(i:Int) < (lv.length:Int); omega⟩,(fun _=>rfl),trivial⟩).trans ?_;obtain⟨_,e,_⟩:=N2 b c hi;have f:(((lV b).getD i (a6 y80)).2.1==(a:Int))=(p7 b i==a):=by
   rw[e,Bool.eq_iff_iff,beq_iff_eq,beq_iff_eq]; omega
  show(if(lv.getD i false&&(((lV b).getD i (a6 y80)).2.1==(a:Int)))=true then _ else _)=_;rw[f];by_cases h:(lv.getD i false&&p7 b i==a)=true
  ·rw[if_pos h,if_pos h];refine(gP ⟨⟨by simp only[List.length_singleton]; omega,by simp only[List.length_singleton]; omega⟩,trivial⟩).trans ?_;exact gP ⟨oo,trivial⟩
  ·rw[if_neg h,if_neg h];exact gP ⟨oo,trivial⟩
 ·show(if(lv.getD i false&&p7 b i==a)=true then s++[(i:Int)] else s).length<=i+1;split
  ·rw[List.length_append,List.length_singleton]; omega
  ·omega
theorem r98(d:p9 b=true){lv:List Bool}(c:lv.length=(lV b).length)(a:Nat):Md (o5 b,lv) (a:Int)=some (I1 (fun i=>lv.getD i false&&p7 b i==a) (lV b).length):=by
 unfold Md;rw[y0w d c,vS,gP ⟨rfl,trivial⟩,lE]
end
theorem HD{e:Ty}:wf (.sl e) []:=⟨Nat.zero_le _,fun _ h=>nomatch h⟩
theorem Rb:∀(N:Nat) (l:List Nat),l.Nodup->(∀v∈l,v<N)->l.length<=N
 | 0,l,_,h=>by
   cases l with
   | nil=>exact Nat.le_refl _
   | cons a r=>exact(Nat.not_lt_zero _ (h a (by simp))).elim
 | N+1,l,hd,h=>by
   by_cases c:N∈l
   ·have f:=Rb N (l.erase N) (hd.erase N) (fun v b=>by
     have d:=(hd.mem_erase_iff).1 b;have:=h v d.2;have:=d.1;omega)
    have:=List.length_erase_of_mem c;have:0<l.length:=List.length_pos_of_mem c;omega
   ·have:=Rb N l hd (fun v b=>by
     have f:=h v b;have:v≠N:=fun e=>c (e ▸ b);omega)
    omega
theorem y0F{l:List Nat}(h:l.Nodup){p q:Nat}(b:p<q)(a:q<l.length):l.getD p 0≠l.getD q 0:=by
 have:=List.pairwise_iff_getElem.1 h p q (by omega) a b;rw[gq,List.getElem?_eq_getElem (by omega),gq,List.getElem?_eq_getElem a];exact this
theorem D0T{l:List Nat}{v:Nat}(h:v∈l):∃p,p<l.length/\l.getD p 0=v:=by
 obtain⟨p,a,e⟩:=List.getElem_of_mem h;exact⟨p,a,by rw[gq,List.getElem?_eq_getElem a]; exact e⟩
structure OGood(M N:Nat)(fr to:Nat->Nat)(lv:Nat->Bool)(out:List Nat):Prop where
 nd:out.Nodup
 lt:∀v∈out,v<N
 bef:∀i,i<M->lv i=true->∀q,q<out.length->out.getD q 0=to i->∃p,p<q/\out.getD p 0=fr i
theorem WX{l:List Nat}{v q:Nat}(h:q<l.length):(l++[v]).getD q 0=l.getD q 0:=by
 rw[gq,gq,List.getElem?_append_left h]
theorem v0U{l:List Nat}{v:Nat}:(l++[v]).getD l.length 0=v:=by
 rw[gq,List.getElem?_append_right (Nat.le_refl _),Nat.sub_self];rfl
theorem OGood.snoc{M N:Nat}{fr to:Nat->Nat}{lv:Nat->Bool}{d:List Nat}(h:OGood M N fr to lv d){v:Nat}(t:v<N)(o:v ∉ d)(k:X6 M fr to lv d v=0):OGood M N fr to lv (d++[v]):=by
 refine⟨?_,fun w f=>?_,fun i hi l q n e=>?_⟩
 ·rw[List.nodup_append];exact⟨h.nd,by simp,fun a u b m=>fun e=>o (by rw[<- List.mem_singleton.1 m,<- e]; exact u)⟩
 ·rcases List.mem_append.1 f with f | f
  ·exact h.lt w f
  ·rw[List.mem_singleton.1 f]; exact t
 ·rw[List.length_append,List.length_singleton] at n;by_cases c:q<d.length
  ·rw[WX c] at e;obtain⟨p,g,j⟩:=h.bef i hi l q c e;exact⟨p,g,by rw[WX (by omega)]; exact j⟩
  ·have c:q=d.length:=by omega
   subst c;rw[v0U] at e;unfold X6 at k;rw[List.countP_eq_zero] at k;have s:=k i (List.mem_range.2 hi);have r:fr i∈d:=by simpa [l,e] using s
   obtain⟨p,g,j⟩:=D0T r;exact⟨p,g,by rw[WX g]; exact j⟩
theorem y0A{M N:Nat}{fr to:Nat->Nat}{lv:Nat->Bool}:∀(k:Nat) (out l:List Nat),OGood M N fr to lv out->AJ M N fr to lv k out=some l->OGood M N fr to lv l/\l.length=out.length+k:=by
 intro k
 induction k with
 | zero=>intro out l h e; cases e; exact⟨h,rfl⟩
 | succ k c =>
   intro out l h e;rw[WV] at e;cases hn:N0 M N fr to lv out with
   | none=>rw[hn] at e; cases e
   | some v =>
     rw[hn] at e;obtain⟨a,d⟩:=Ng hn;have f:X6 M fr to lv out v=0:=by
      unfold N0 at hn;have:=List.find?_some hn;simp only[ba,beq_iff_eq] at this;exact this.2
     obtain⟨g,b⟩:=c (out++[v]) l (h.snoc a d f) e;exact⟨g,by rw[b,List.length_append,List.length_singleton]; omega⟩
theorem r0g(l:List Nat)(i:Nat):(l.map (fun v:Nat=>(v:Int))).getD i 0=(l.getD i 0:Int):=by
 rw[gq,gq,List.getElem?_map];cases l[i]? <;> rfl
section
variable {b:j9}
def D7(b:j9)(c:p8)(k:Nat)(sp:Sp):Sp×Sp:=vl (Dp (o5 b) c (k:Int) sp)
theorem WY{k:Nat}(a:k < (lV b).length):m0 (k:Int) 0 (((lV b).length:Int)-1)=true:=A4.2 oo
theorem WZ(j:wf l9 b)(g:cnt l9 b<=1048576)(e:p9 b=true){c:p8}(a:wf r7 c)(i:G8 c=true){k:Nat}(d:k < (lV b).length):∃dv lv,SpanV b c (k:Int) dv lv/\∀sp,A6 sp=true->D7 b c k sp=AL dv lv sp/\Dp (o5 b) c (k:Int) sp=some (D7 b c k sp):=by
 obtain⟨dv,lv,h⟩:=H0I j g e a i (WY d);refine⟨dv,lv,h,fun sp f=>?_⟩;have:=h.spans (WY d) f;unfold D7;rw[this];exact⟨rfl,rfl⟩
theorem Nq(l:wf l9 b)(g:cnt l9 b<=1048576)(f:p9 b=true){c:p8}(a:wf r7 c)(i:G8 c=true){k:Nat}(j:k < (lV b).length){sp:Sp}(d:A6 sp=true):0<=(D7 b c k sp).1.1/\(D7 b c k sp).1.1<=(D7 b c k sp).1.2/\(D7 b c k sp).1.2<=5000000/\A6 (D7 b c k sp).2=true:=by
 obtain⟨m,n,h,e⟩:=WZ l g f a i j;rw[(e sp d).1];exact h.ok d
theorem Xa{s t:Sp}(b:A6 s=true)(a:A6 t=true):A6 (I0 s t)=true:=by
 grind[A6,C2,I0]
def AP(x:o6):Bool:=C2 x.1
abbrev J2(b:j9)(br:List Int):Nat->Bool:=fun i=>(D6 (lV b).length br).getD i false
def T6(b:j9)(c:p8)(br:List Int)(ss:List K4)(T:Nat->Option o6)(v:Nat):Option o6:=O6 (lV b).length (o8 b) (p7 b) (J2 b br) (D7 b c) (I5 ss) T v
def T7(b:j9)(c:p8)(br:List Int)(ss:List K4)(out:List Nat):Option (Nat->Option o6):=T4 (lV b).length (o8 b) (p7 b) (J2 b br) (D7 b c) (I5 ss) AP out fun _=>none
structure OrdOk(b:j9)(br:List Int)(out:List Nat):Prop where
 nd:out.Nodup
 ahead:Jz (lV b).length (o8 b) (p7 b) (J2 b br) [] out
 all:∀v,v<j7 b->v∈out
 lt:∀v∈out,v<j7 b
theorem z0T{M:Nat}{fr to:Nat->Nat}{lv:Nat->Bool}{N:Nat}{a:List Nat}(h:OGood M N fr to lv a):Jz M fr to lv [] a:=by
 have f:∀(r d:List Nat),a=d++r->Jz M fr to lv d r:=by
  intro r
  induction r with
  | nil=>intro d _; trivial
  | cons v r l =>
    intro d e;refine⟨fun k m i g=>?_,l (d++[v]) (by rw[e,List.append_assoc]; rfl)⟩;have n:a.getD d.length 0=v:=by rw[e,gq,List.getElem?_append_right (Nat.le_refl _),Nat.sub_self]; rfl
    have c:d.length<a.length:=by rw[e,List.length_append,List.length_cons]; omega
    obtain⟨p,b,j⟩:=h.bef k m i d.length c (by rw[n,g]);rw[<- j,e,gq,List.getElem?_append_left b,List.getElem?_eq_getElem b];exact List.getElem_mem b
 exact f a [] rfl
theorem H0Z(_:p9 b=true){br:List Int}{a:List Nat}(h:P5 b (D6 (lV b).length br) [] (j7 b)=some a):OrdOk b br a:=by
 have j:OGood (lV b).length (j7 b) (o8 b) (p7 b) (J2 b br) []:=⟨List.nodup_nil,fun _ h=>(by cases h),fun i _ _ q k=>(Nat.not_lt_zero _ k).elim⟩;obtain⟨c,g⟩:=y0A (j7 b) [] a j h;rw[List.length_nil,Nat.zero_add] at g;refine⟨c.nd,z0T c,fun v l=>?_,c.lt⟩;by_cases f:v∈a
 ·exact f
 ·have:=Rb (j7 b) (v :: a) (List.nodup_cons.2 ⟨f,c.nd⟩) (fun w d=>by
   rcases List.mem_cons.1 d with e | d
   ·omega
   ·exact c.lt w d)
  rw[List.length_cons] at this;omega
theorem p0T{ss:List K4}(h:∀s∈ss,C2 s.2.1=true/\A6 s.2.2=true)(v:Nat)(x:o6)(a:I5 ss v=some x):C2 x.1=true/\A6 x.2=true:=by
 grind[WG]
theorem s0b{c:p8}{br:List Int}{ss:List K4}{a:List Nat}(d:OrdOk b br a){T:Nat->Option o6}(h:T7 b c br ss a=some T):∀v,v<j7 b->T v=T6 b c br ss T v/\AK AP (T v)=true:=fun v e=>k0d a [] (fun _=>none) T d.nd d.ahead h v (d.all v e)
theorem r0Z(n:wf l9 b)(l:cnt l9 b<=1048576)(i:p9 b=true){c:p8}(f:wf r7 c)(m:G8 c=true){br:List Int}{ss:List K4}(g:∀s∈ss,C2 s.2.1=true/\A6 s.2.2=true){d:List Nat}{T:Nat->Option o6}(h:T7 b c br ss d=some T)(v:Nat)(x:o6)(a:T v=some x):A6 x.2=true :=
 WC (fun x=>A6 x.2=true) (fun v x a=>(p0T g v x a).2) (fun x y a j=>Xa a j) (fun k x o _ a=>(Nq n l i f m o a).2.2.2) d (fun _=>none) T (fun _ _ e=>by cases e) h v x a
theorem s0a(G:wf l9 b)(H:cnt l9 b<=1048576)(E:p9 b=true){c:p8}(i:wf r7 c)(Q:G8 c=true){br:List Int}{ss:List K4}(V:∀s∈ss,C2 s.2.1=true/\A6 s.2.2=true){d:Int}(j:∀s∈ss,C2 (s.2.1.1+d,s.2.1.2+d)=true){a:List Nat}{T:Nat->Option o6}(h:T7 b c br ss a=some T) :
  T7 b c br (ss.map (T5 d)) a=some (fun v=>F3 d (T v))∨(T7 b c br (ss.map (T5 d)) a=none/\0<d):=by
 have e:I5 (ss.map (T5 d))=fun v=>F3 d (I5 ss v):=funext fun v=>u0x ss d v;have W:(fun v:Nat=>F3 d ((fun _:Nat=>(none:Option o6)) v))=fun _=>none:=rfl;unfold T7 at h ⊢;rw[e];rcases u0R (ok:=AP) d a (fun _=>none) T h with t | ⟨t,U,v,g,l,h4,p,q,h5,h6⟩
 ·grind
 ·refine .inr ⟨t,?_⟩;rcases Int.lt_or_le 0 d with n | n
  ·exact n
  ·exfalso;have F:∀x,O6 (lV b).length (o8 b) (p7 b) (J2 b br) (D7 b c) (I5 ss) U v=some x -> -1000000000<=x.1.1+d/\A6 x.2=true:=by
    have u:∀(v:Nat) (x:o6),I5 ss v=some x -> -1000000000<=x.1.1+d/\A6 x.2=true:=fun v x f=>by
     obtain⟨s,z,_,X⟩:=WG f;have m:=j s z;unfold C2 at m;simp only[ba] at m
     grind[A4]
    have w:∀x y:o6,(-1000000000<=x.1.1+d/\A6 x.2=true)->(-1000000000<=y.1.1+d/\A6 y.2=true) -> -1000000000<=(I0 x.1 y.1).1+d/\A6 (I0 x.2 y.2)=true:=fun x y f Y=>by
     grind[Xa,I0]
    have r:∀(k:Nat) (x:o6),k < (lV b).length->J2 b br k=true->(-1000000000<=x.1.1+d/\A6 x.2=true) -> -1000000000<=(L0 x.1 (D7 b c k x.2).1).1+d/\A6 (D7 b c k x.2).2=true:=fun k x P _ f=>by
     have o:=Nq G H E i Q P f.2
     grind[L0]
    exact m0S (fun x:o6 => -1000000000<=x.1.1+d/\A6 x.2=true) u w r (WC _ u w r p (fun _=>none) U (fun _ _ e=>by cases e) h6) v
   cases f:O6 (lV b).length (o8 b) (p7 b) (J2 b br) (D7 b c) (I5 ss) U v with
   | none=>grind
   | some x =>
     have m:=(F x f).1;rw[f] at g l;have g:C2 x.1=true:=g;have l:C2 (x.1.1+d,x.1.2+d)=false:=l
     grind[C2,m0]
end
theorem s0s{a:Type}(p:Nat->Bool)(g:Nat->a->a)(M:Nat)(s:a):fN (fun i s=>g (((List.range M).filter p).getD i 0) s) ((List.range M).filter p).length s=fN (fun k s=>if p k=true then g k s else s) M s:=by
 rw[WS (fun s k=>g k s)]
 induction M with
 | zero=>rfl
 | succ M b =>
   rw[List.range_succ,List.filter_append,List.foldl_append,b];show _=if p M=true then g M (fN (fun k s=>if p k=true then g k s else s) M s) else fN (fun k s=>if p k=true then g k s else s) M s
   by_cases c:p M=true
   ·rw[if_pos c,List.filter_cons_of_pos c]; rfl
   ·rw[if_neg c,List.filter_cons_of_neg c]; rfl
theorem k0r(a b:Sp):I0 a b=I0 b a:=by
 unfold I0;rw[Int.min_comm,Int.max_comm]
section
variable {M:Nat} {fr to:Nat->Nat} {lv:Nat->Bool} {sp:Nat->Sp->Sp×Sp} {src:Nat->Option o6}
theorem y0y(P Q:o6->Prop)(g:∀v x,src v=some x->Q x)(h:∀x y,Q x->Q y->Q (I0 x.1 y.1,I0 x.2 y.2))(f:∀k x,k<M->lv k=true->P x->Q (L0 x.1 (sp k x.2).1,(sp k x.2).2)){T:Nat->Option o6}(i:∀v x,T v=some x->P x)(v:Nat):∀m,m<=M->∀x,fN (Bw fr to lv sp T v) m (src v)=some x->Q x:=by
 intro m j;refine Wz (fun o:Option o6=>∀x,o=some x->Q x) m _ (g v) fun k o l b=>?_;unfold Bw;split
 ·rename_i c;simp only[ba,beq_iff_eq] at c;cases e:T (fr k) with
  | none=>exact b
  | some y =>
    intro x a;have d:=f k y (by omega) c.1 (i _ _ e);cases o with
    | none =>
      have a:some (L0 y.1 (sp k y.2).1,(sp k y.2).2)=some x:=a;cases a;exact d
    | some z =>
      have a:some (I0 z.1 (L0 y.1 (sp k y.2).1),I0 z.2 (sp k y.2).2)=some x:=a;cases a;exact h _ _ (b z rfl) d
 ·exact b
end
section
variable {b:j9}
def F0B(x:o6):Prop:=(-1000000000<=x.1.1/\x.1.1<=x.1.2/\x.1.2<=1005000000)/\A6 x.2=true
theorem JE{s:Sp}:C2 s=true ↔ -1000000000<=s.1/\s.1<=s.2/\s.2<=1000000000:=by
 unfold C2;simp only[ba,dq,A4];omega
theorem y0I(r:wf l9 b)(j:cnt l9 b<=1048576)(i:p9 b=true){c:p8}(d:wf r7 c)(q:G8 c=true){br:List Int}{ss:List K4}(f:∀s∈ss,C2 s.2.1=true/\A6 s.2.2=true){T:Nat->Option o6}(n:∀v x,T v=some x->C2 x.1=true/\A6 x.2=true)(v:Nat):∀m,m<=(lV b).length->∀x,fN (Bw (o8 b) (p7 b) (J2 b br) (D7 b c) T v) m (I5 ss v)=some x->F0B x :=
 y0y (fun x=>C2 x.1=true/\A6 x.2=true) F0B (fun v x a=>by
  have h:=p0T f v x a;have e:=JE.1 h.1;exact⟨⟨e.1,e.2.1,by omega⟩,h.2⟩) (fun x y a g=>by
  refine⟨?_,Xa a.2 g.2⟩;have:=a.1;have:=g.1;unfold I0;simp only;omega) (fun k x l _ a=>by
  have o:=Nq r j i d q l a.2;refine⟨?_,o.2.2.2⟩;have e:=JE.1 a.1;unfold L0;simp only;omega) n v
structure JF(N:Nat)(t:JB):Prop where
 l1:t.1.length=N
 l2:t.2.1.length=N
 l3:t.2.2.length=N
 vals:∀v,v<N->C2 (t.2.1.getD v (0,0))=true/\A6 (t.2.2.getD v (0,0))=true/\(t.1.getD v false=false->t.2.1.getD v (0,0)=(0,0)/\t.2.2.getD v (0,0)=(0,0))
theorem Xb{N:Nat}{T:Nat->Option o6}(h:∀v,v<N->∀x,T v=some x->C2 x.1=true/\A6 x.2=true):JF N (p6 N T):=by
 refine⟨DH.1,DH.2.1,DH.2.2,fun v a=>?_⟩;unfold p6;simp only;rw[CL _ N _ a,CL _ N _ a,CL _ N _ a];cases e:T v with
 | none=>exact⟨rfl,rfl,fun _=>⟨rfl,rfl⟩⟩
 | some x=>exact⟨(h v a x e).1,(h v a x e).2,fun b=>(by cases b)⟩
theorem u0Q(l:wf l9 b)(j:cnt l9 b<=1048576)(g:p9 b=true){c:p8}(d:wf r7 c)(k:G8 c=true){br:List Int}{ss:List K4}(e:∀s∈ss,C2 s.2.1=true/\A6 s.2.2=true){a:List Nat}(i:OrdOk b br a){T:Nat->Option o6}(h:T7 b c br ss a=some T):JF (j7 b) (p6 (j7 b) T) :=
 Xb fun v m x f=>by
  refine⟨?_,r0Z l j g d k e h v x f⟩;have:=(s0b i h v m).2;rw[f] at this;exact this
end
theorem E0k{d:List Nat}{v:Nat}(h:v ∉ d)(r:List Nat):(d++v :: r).idxOf v=d.length:=by
 rw[List.idxOf_append,if_neg h,List.idxOf_cons_self];omega
theorem I0r{d:List Nat}{v:Nat}(h:v∈d)(r:List Nat):(d++r).idxOf v<d.length:=by
 rw[List.idxOf_append,if_pos h];exact List.idxOf_lt_length_of_mem h
theorem n0S{M:Nat}{fr to:Nat->Nat}{lv:Nat->Bool}{k:Nat}(b:k<M)(a:lv k=true):∀(r d:List Nat),(d++r).Nodup->Jz M fr to lv d r->to k∈r->fr k∈d++r/\(d++r).idxOf (fr k) < (d++r).idxOf (to k)
 | [],_,_,_,h=>by cases h
 | v :: r,d,hd,ha,h=>by
   by_cases e:to k=v
   ·have c:=ha.1 k b a e;have g:v ∉ d:=fun f=>(List.nodup_append.1 hd).2.2 v f v List.mem_cons_self rfl;rw[e,E0k g];exact⟨List.mem_append_left _ c,I0r c _⟩
   ·have:=n0S b a r (d++[v]) (by rw[List.append_assoc]; exact hd) ha.2 (List.mem_of_ne_of_mem e h)
    rwa [List.append_assoc] at this
theorem OrdOk.pos{b:j9}{br:List Int}{a:List Nat}(h:OrdOk b br a){k:Nat}(d:k < (lV b).length)(e:J2 b br k=true)(c:p7 b k<j7 b):a.idxOf (o8 b k)<a.idxOf (p7 b k)/\o8 b k<j7 b:=by
 have:=n0S d e a [] h.nd h.ahead (h.all _ c);exact⟨this.2,h.lt _ this.1⟩
theorem OrdOk.idx{b:j9}{br:List Int}{a:List Nat}(h:OrdOk b br a){v:Nat}(c:v<j7 b):a.idxOf v<a.length:=List.idxOf_lt_length_of_mem (h.all v c)
theorem Nr(s:Int×Int):M8 s=some (C2 s)/\Di s=some (C2 s):=by
 have e:∀x,Fj x=some (m0 x (-1000000000) 1000000000):=fun _=>rfl;refine⟨?_,?_⟩
 ·unfold M8;rw[e,e,vS,vS];exact gP ⟨rfl,fun _=>rfl,trivial⟩
 ·unfold Di;rw[S8,S8,vS,vS];exact gP ⟨rfl,fun _=>rfl,trivial⟩
def FQ(n:Int)(l:List m6)(i:Nat):Bool:=!m0 (l.getD i (a6 y53)).1 0 (n-1)||!C2 (l.getD i (a6 y53)).2.1||!A6 (l.getD i (a6 y53)).2.2||decide (0 < (i:Int))&&decide ((l.getD i (a6 y53)).1<=(l.getD ((i:Int)-1).toNat (a6 y53)).1)
def X8(b:j9):Int:=2*((q9 b.2.1).length:Int)
def AQ(b:j9)(l:List m6):Bool:=!(List.range l.length).any (FQ (X8 b) l)
theorem R0x(b:j9)(c:p9 b=true)(a:Int):CB (o5 b) a=some (m0 a 0 (X8 b-1)):=by
 have e:X8 b=(j7 b:Int):=by
  unfold X8 j7;omega
 rw[e];exact r41 c a
theorem r66(b:j9)(d:p9 b=true)(l:List m6)(c:l.length<=9223372036854775807):LW (o5 b) l=some (AQ b l):=by
 have a:=H9 (n:=l.length) c (FQ (X8 b) l) (some false) (e:=some true) (F:=G0m (o5 b) l) (fun g i hi=>by
  have f:((i:Int)).toNat=i:=rfl;refine(if_pos (by simpa using hi)).trans ?_;rw[f,gP ⟨oo,trivial⟩,lE,R0x b d,vS,(Nr _).1,vS,(r56 _).1,vS,gP ⟨rfl,(fun _=>rfl),(fun _=>rfl),(fun h=>⟨by have:=of_decide_eq_true h.1; omega,by omega⟩),(fun h=>⟨by have:=of_decide_eq_true h.1; omega,by omega⟩),trivial⟩,gP ⟨oo,trivial⟩];rfl) (fun g=>aE)
 unfold LW AQ;refine a.trans ?_;cases(List.range l.length).any (FQ (X8 b) l) <;> rfl
theorem r44(b:j9)(m:wf l9 b)(j:p9 b=true)(l:List m6)(f:l.length<=9223372036854775807):GD b l=some (AQ b l):=by
 have a:=V6 (X3 j).1;have d:(M4 b.2.1.1.length b.2.1.2.2.length (m7 b.2.1) (A9 b.2.1)).length<=78:=a.len;have e:Y6 b=some (X8 b):=by
  unfold Y6;rw[DA b.2.1 m.2.1 a.fac.ni14 a.fac.np8 a.pin,vS,gP ⟨rfl,oo,trivial⟩,lE];rfl
 have o:0<=X8 b/\X8 b<=156:=by
  have:(q9 b.2.1).length<=78:=d;unfold X8;omega
 have c:=H9 (n:=l.length) f (FQ (X8 b) l) (some false) (e:=some true) (F:=G0z l (X8 b)) (fun g i hi=>by
  have k:((i:Int)).toNat=i:=rfl;refine(if_pos (by simpa using hi)).trans ?_;rw[k,S8,vS,(Nr _).2,vS,(r56 _).2,vS,gP ⟨oo,oo,rfl,(fun h=>⟨by have:=of_decide_eq_true h.1; omega,by omega⟩),(fun h=>⟨by have:=of_decide_eq_true h.1; omega,by omega⟩),(fun _=>oo),(fun _=>oo),(fun _=>rfl),(fun _=>oo),(fun _=>rfl),trivial⟩,gP ⟨oo,trivial⟩];unfold FQ;cases m0 (l.getD i (a6 y53)).1 0 (X8 b-1) <;> cases C2 (l.getD i (a6 y53)).2.1 <;> cases A6 (l.getD i (a6 y53)).2.2 <;> cases decide (0 < (i:Int)) <;> cases decide ((l.getD i (a6 y53)).1<=(l.getD ((i:Int)-1).toNat (a6 y53)).1) <;> rfl) (fun g=>aE)
 unfold GD;rw[e,vS,gP ⟨rfl,trivial⟩,lE];refine c.trans ?_;unfold AQ;cases(List.range l.length).any (FQ (X8 b) l) <;> rfl
def Rc(b:j9)(l:List m6):Bool:=p9 b&&AQ b l
theorem r17(b:j9)(a:wf l9 b)(d:cnt l9 b<=1048576)(l:List m6)(c:l.length<=9223372036854775807):LJ b l=some (Rc b l):=by
 unfold LJ Rc;rw[Jp b a d,vS];cases hb:p9 b with
 | false=>exact gP ⟨rfl,(fun h=>by cases h.1),trivial⟩
 | true =>
   rw[r44 b a hb l c,vS];exact gP ⟨rfl,(fun _=>rfl),trivial⟩
def zs(s:Int×Int):Bool:=s.1==0&&(s.2==0&&true)
section
variable {b:j9}
theorem y0G:X8 b=(j7 b:Int):=by
 unfold X8 j7;omega
theorem k0a{n:Int}{l:List m6}{i:Nat}:FQ n l i=false↔((0<=(l.getD i (a6 y53)).1/\(l.getD i (a6 y53)).1<n)/\C2 (l.getD i (a6 y53)).2.1=true/\A6 (l.getD i (a6 y53)).2.2=true)/\(0<i->(l.getD (i-1) (a6 y53)).1 < (l.getD i (a6 y53)).1):=by
 have e:((i:Int)-1).toNat=i-1:=by omega
 unfold FQ;rw[e];simp only[Bool.or_eq_false_iff,Bool.not_eq_false',Bool.and_eq_false_iff,decide_eq_false_iff_not,A4];constructor
 ·rintro⟨⟨⟨a,c⟩,d⟩,f⟩;exact⟨⟨⟨a.1,by omega⟩,c,d⟩,fun b=>by rcases f with f | f <;> omega⟩
 ·rintro⟨⟨a,c,d⟩,f⟩;refine⟨⟨⟨⟨a.1,by omega⟩,c⟩,d⟩,?_⟩;by_cases b:0<i
  ·exact .inr (by have:=f b; omega)
  ·exact .inl (by omega)
theorem x0R{l:List m6}:AQ b l=true↔∀i,i<l.length->((0<=(l.getD i (a6 y53)).1/\(l.getD i (a6 y53)).1 < (j7 b:Int))/\C2 (l.getD i (a6 y53)).2.1=true/\A6 (l.getD i (a6 y53)).2.2=true)/\(0<i->(l.getD (i-1) (a6 y53)).1 < (l.getD i (a6 y53)).1):=by
 unfold AQ;rw[BS,y0G];exact⟨fun h i hi=>k0a.1 (h i hi),fun h i hi=>k0a.2 (h i hi)⟩
theorem Xc{l:List m6}(h:AQ b l=true):Hz l/\∀s∈l,(0<=s.1/\s.1 < (j7 b:Int))/\C2 s.2.1=true/\A6 s.2.2=true:=by
 have f:=x0R.1 h;constructor
 ·refine List.pairwise_iff_getElem.2 fun i j hi d c=>?_;have a:∀k,i<k->k<l.length->(l.getD i (a6 y53)).1 < (l.getD k (a6 y53)).1:=by
   intro k
   induction k with
   | zero=>intro o; omega
   | succ k m =>
     intro q g;have s:=(f (k+1) g).2 (by omega);rw[Nat.add_sub_cancel] at s;by_cases e:i=k
     ·subst e; exact s
     ·exact Int.lt_trans (m (by omega) (by omega)) s
  have:=a j c d
  rwa [gq,List.getElem?_eq_getElem hi,gq,List.getElem?_eq_getElem d] at this
 ·intro s n;obtain⟨i,hi,rfl⟩:=List.mem_iff_getElem.1 n;have:=(f i hi).1
  rwa [gq,List.getElem?_eq_getElem hi] at this
theorem E0x{N:Nat}{T:Nat->Option o6}{v:Nat}(h:v<N):(p6 N T).1.getD v false=(T v).isSome/\(p6 N T).2.1.getD v (0,0)=((T v).getD ((0,0),(0,0))).1/\(p6 N T).2.2.getD v (0,0)=((T v).getD ((0,0),(0,0))).2:=by
 unfold p6;exact⟨CL _ N _ h,CL _ N _ h,CL _ N _ h⟩
theorem k0j{c:p8}{br:List Int}{ss:List K4}(a:p9 b=true){T U:Nat->Option o6}(h:∀v,v<j7 b->T v=U v)(v:Nat):T6 b c br ss T v=T6 b c br ss U v :=
 i0k fun _ d _ _=>h _ (N2 b a d).2.2.1
end
end Go.Proofs.YtdjgagoledoaaaaGreatDoor
end

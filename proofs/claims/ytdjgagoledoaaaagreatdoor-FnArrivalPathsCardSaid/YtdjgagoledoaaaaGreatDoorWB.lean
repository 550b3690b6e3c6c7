/- What a table says at a place: the program's function and the reference's agree. -/
import Derived.Test.YtdjgagoledoaaaaGreatDoorWA
import Derived.Test.YtdjgagoledoaaaaGreatDoorF86c
import Derived.Test.YtdjgagoledoaaaaGreatDoorXF
import Derived.Test.YtdjgagoledoaaaaGreatDoorG86
set_option maxHeartbeats 0
section
namespace Go.Proofs.YtdjgagoledoaaaaGreatDoor
open Go Go.Proofs Go.Proofs.Xv Go.Proofs.Xl Go.Proofs.Xd
def I9(t:u1)(r q:Nat):Int:=t.2.2.getD (r*t.2.1.length+q) 0
def p9(t:u1)(r q:Nat)(w c d:Int):Int:=I9 t r q*w*c+I9 t r (q+1)*w*d
theorem HR{t:u1}(a:C5 t=true){r q:Nat}(e:r<t.1.length)(g:q<t.2.1.length){w c:Int}(d:0<=w)(b:w<=100000)(j:0<=c)(f:c<=100000) :
  (-100000000000<=I9 t r q*w/\I9 t r q*w<=100000000000) /\ -10000000000000000<=I9 t r q*w*c/\I9 t r q*w*c<=10000000000000000:=by
 obtain⟨_,_,_,_,k,_,_⟩:=FG a;have h:=p0P a (i:=r*t.2.1.length+q) (by have:=Rr e g; omega);have m:=J7 (A:=1000000) h.1 h.2 d b (by decide);have l:=J7 (A:=100000000000) (B:=100000) (x:=I9 t r q*w) (by grind[I9]) (by grind[I9]) j f (by decide)
 grind[I9]
def Sh(n q:Nat)(c d:Int)(M:List (Int×Int)):Prop:=(c=1/\d=0/\M=[((q:Int),1)])∨(q+1<n/\0<c/\0<d/\c+d<=100000/\M=[((q:Int),c),((q:Int)+1,d)])
theorem u0M{t:u1}(f:C5 t=true){r q:Nat}(e:r<t.1.length)(g:q<t.2.1.length){w c d:Int}{M:List (Int×Int)}(h:Sh t.2.1.length q c d M)(b:0<=w)(a:w<=100000) : -20000000000000000<=p9 t r q w c d/\p9 t r q w c d<=20000000000000000:=by
 unfold p9;rcases h with ⟨rfl,rfl,_⟩ | ⟨hq1,c0,d0,hcd,_⟩
 ·have i:=(HR f e g b a (c:=1) (by decide) (by decide)).2;rw[Int.mul_zero]; omega
 ·have i:=(HR f e g b a (c:=c) (by omega) (by omega)).2;have j:=(HR f e hq1 b a (c:=d) (by omega) (by omega)).2;omega
theorem WY{t:u1}(f:C5 t=true){r q:Nat}(d:r<t.1.length)(e:q<t.2.1.length){w c:Int}(g:0<=w)(n:w<=100000)(k:0<=c)(j:c<=100000){R:Int}(E:R=(r:Int)){v1:List BG×Int}{v11:Int}{v b:Int×Int->Option Int}{s:Int}(V : -100000000000000000<=s)(P:s<=100000000000000000){i:Nat}(hi:i<v1.1.length)(T:v1.1.length<=2)
  {Q:Int} (x:Q=(q:Int)) (u:v1.1.getD i (b7 S6)=(Q,c)):Jf t (R,w) v1 v11 v b (s,(i:Int))=b (s+I9 t r q*w*c,(i:Int)+1):=by
 subst E; subst x;obtain⟨_,F,_,H,G,_,y⟩:=FG f;have z:=Rr d e;have l:=HR f d e g n k j;have o:((i:Int)).toNat=i:=rfl;have m:(r:Int)*(t.2.1.length:Int)=((r*t.2.1.length:Nat):Int):=by simp
 have h:(((r*t.2.1.length:Nat):Int)+(q:Int)).toNat=r*t.2.1.length+q:=by omega
 rw[Jf,if_pos (by grind),o,gP ⟨oo,hi,trivial⟩,lE,u];unfold I9 at l ⊢;show gd (c9 ((r:Int)*(t.2.1.length:Int))/\c9 ((r:Int)*(t.2.1.length:Int)+(q:Int))/\ix ((r:Int)*(t.2.1.length:Int)+(q:Int)) t.2.2.length/\c9 (t.2.2.getD ((r:Int)*(t.2.1.length:Int)+(q:Int)).toNat 0*w)/\c9 (t.2.2.getD ((r:Int)*(t.2.1.length:Int)+(q:Int)).toNat 0*w*c)/\c9 (s+t.2.2.getD ((r:Int)*(t.2.1.length:Int)+(q:Int)).toNat 0*w*c)/\True) (lt (s+t.2.2.getD ((r:Int)*(t.2.1.length:Int)+(q:Int)).toNat 0*w*c) fun a=>gd _ (b (a,(i:Int)+1)))=_;rw[m,h,gP ⟨oo,oo,oo,oo,oo,oo,trivial⟩,lE,gP ⟨oo,trivial⟩]
theorem I0p{t:u1}{a:BG}{v1:List BG×Int}{v11:Nat}(d:v11<=2){b c:Int×Int->Option Int}{s:Int}:Jf t a v1 (v11:Int) b c (s,(v1.1.length:Int))=b (s,(v11:Int)+1):=by
 rw[Jf,if_neg (by simp),UZ,gP ⟨oo,trivial⟩]
theorem N4{a ρ:Type}{F:(a->Option ρ)->a->Option ρ}{n:Nat}{s:a}:H3 F (n+1) s=F (H3 F n) s:=rfl
theorem HS:((0:Nat):Int)+1=((1:Nat):Int):=rfl
theorem HU:((1:Nat):Int)+1=((2:Nat):Int):=rfl
theorem WZ{t:u1}(f:C5 t=true){r q:Nat}(e:r<t.1.length)(h:q<t.2.1.length){w c d:Int}{M:List (Int×Int)}(l:Sh t.2.1.length q c d M)(b:0<=w)(a:w<=100000){R T:Int}(g:R=(r:Int)){v11:Nat}(j:v11<=2){k:Int×Int->Option Int}{s:Int}(u : -50000000000000000<=s)(o:s<=50000000000000000) :
  lp (Jf t (R,w) (M,T) (v11:Int) k) (s,0)=k (s+p9 t r q w c d,(v11:Int)+1):=by
 unfold p9;rcases l with ⟨rfl,rfl,rfl⟩ | ⟨hq1,c0,d0,hcd,rfl⟩
 ·refine BS 2 (by decide) fun n=>?_;rw[N4];refine(WY (v1:=([((q:Int),1)],T)) (i:=0) (s:=s) (c:=1) f e h b a (by decide) (by decide) g (by omega) (by omega) (Nat.le_refl 1) (Nat.le_succ 1) rfl rfl).trans ?_;rw[Int.mul_zero,Int.add_zero,N4,HS];exact I0p (v1:=([((q:Int),1)],T)) j
 ·have m:=(HR f e h b a (c:=c) (by omega) (by omega)).2;refine BS 3 (by decide) fun n=>?_;rw[N4];refine(WY (v1:=([((q:Int),c),((q:Int)+1,d)],T)) (i:=0) (s:=s) (c:=c) f e h b a (by omega) (by omega) g (by omega) (by omega) (Nat.le_succ 1) (Nat.le_refl 2) rfl rfl).trans ?_;rw[N4,HS];refine(WY (v1:=([((q:Int),c),((q:Int)+1,d)],T)) (i:=1) (s:=s+I9 t r q*w*c) (c:=d) (q:=q+1) f e hq1 b a (by omega) (by omega) g (by omega) (by omega) (Nat.le_refl 2) (Nat.le_refl 2) (Int.natCast_succ q).symm rfl).trans ?_;rw[<- Int.add_assoc,N4,HU];exact I0p (v1:=([((q:Int),c),((q:Int)+1,d)],T)) j
theorem B0R{t:u1}(j:C5 t=true){p u r q k:Nat}(b:r=p+u)(e:r<t.1.length)(i:q<t.2.1.length){w c W:Int}(d:0<=w)(y:w<=100000)(f:0<=c)(m:c<=100000)(hW:W=w*c){h v1:Int×Int×Int}(x:h.1=(p:Int)){q0:Nat}(z:v1.1=(q0:Int))(H:q=q0+k)(G:k<=1)(V:u<=1){g:Int×Int->Option Int}{s:Int}(s0 : -100000000000000000<=s)(Y:s<=100000000000000000) :
  Dj (k:Int) s t h (u:Int) v1 g W=g (s+I9 t r q*w*c,(k:Int)+1):=by
 obtain⟨_,Q,_,X,T,_,E⟩:=FG j;have F:=Rr e i;have o:=HR j e i d y f m;subst b; subst H;have v:((p:Int)+(u:Int))*(t.2.1.length:Int)=(((p+u)*t.2.1.length:Nat):Int):=by simp
 have l:((((p+u)*t.2.1.length:Nat):Int)+(q0:Int)+(k:Int)).toNat=(p+u)*t.2.1.length+(q0+k):=by omega
 have a:W*I9 t (p+u) (q0+k)=I9 t (p+u) (q0+k)*w*c:=by grind
 rw[Dj];by_cases hp:0<W
 ·unfold I9 at o a ⊢;rw[if_pos (by grind),x,z,v,l,a,gP ⟨oo,oo,oo,oo,oo,oo,oo,trivial⟩,lE,IQ,gP ⟨oo,trivial⟩]
 ·have P:W=0:=by
   have:0<=w*c:=Int.mul_nonneg d f;omega
  have n:I9 t (p+u) (q0+k)*w*c=0:=by grind
  rw[if_neg (by grind),IQ,gP ⟨oo,trivial⟩,n,Int.add_zero]
theorem Xa{t:u1}{u k:Nat}{b v1:Int×Int×Int}(c:k<=1){a:Int×Int->Option Int}{s W:Int}(d:W=0):Dj (k:Int) s t b (u:Int) v1 a W=a (s,(k:Int)+1):=by
 subst d;rw[Dj,if_neg (by simp),IQ,gP ⟨oo,trivial⟩]
theorem C0i{w c:Int}(e:0<=w)(d:w<=100000)(b:0<=c)(a:c<=100000):c9 (w*c)/\True:=by
 have:=J7 (A:=100000) (B:=100000) (x:=w) (y:=c) (by omega) d b a (by decide);exact⟨oo,trivial⟩
theorem Ru{t:u1}{u k:Nat}(q:k<=1){a v1:Int×Int×Int}{n b:Int×Int->Option Int}{s w e:Int}(o:(if(u:Int)=1 then a.2.2 else a.2.1)=w)(d:(if k=0 then v1.2.1 else v1.2.2)=e)(i:0<=w)(g:w<=100000)(j:0<=e)(h:e<=100000) :
  GK t a (u:Int) v1 n b (s,(k:Int))=Dj (k:Int) s t a (u:Int) v1 b (w*e):=by
 have l:∀W,W=w->KY (k:Int) s t a (u:Int) v1 b W=Dj (k:Int) s t a (u:Int) v1 b (w*e):=by
  intro W m;subst m;rw[KY];by_cases f:k=0
  ·subst f;have c:v1.2.1=e:=d;rw[if_pos (by rfl),c,gP (C0i i g j h)]
  ·rw[if_neg f] at d;rw[if_neg (by grind),d,gP (C0i i g j h)]
 grind[GK]
theorem Xb{t:u1}{u:Nat}(d:u<=1){b v1:Int×Int×Int}{a c:Int×Int->Option Int}{s:Int}:GK t b (u:Int) v1 a c (s,((2:Nat):Int))=a (s,(u:Int)+1):=by
 rw[GK,if_neg (by simp),TW,gP ⟨oo,trivial⟩]
theorem B0Q{t:u1}(o:C5 t=true){p u r q:Nat}(f:r=p+u)(i:u<=1)(j:r<t.1.length)(F:q<t.2.1.length){a b w c d:Int}{M:List (Int×Int)}(x:Sh t.2.1.length q c d M)(y:(if(u:Int)=1 then b else a)=w)(h:0<=w)(g:w<=100000){G:Int×Int->Option Int}{s:Int}(Q : -50000000000000000<=s)(P:s<=50000000000000000) :
  lp (GK t ((p:Int),a,b) (u:Int) ((q:Int),c,d) G) (s,0)=G (s+p9 t r q w c d,(u:Int)+1):=by
 have v:0<=c/\c<=100000/\0<=d/\d<=100000:=by
  rcases x with ⟨rfl,rfl,_⟩ | ⟨_,_,_,_,_⟩ <;> omega
 obtain⟨m,l,z,E⟩:=v;have H:=(HR o j F h g m l).2;refine BS 3 (by decide) fun n=>?_;rw[N4];refine(Ru (k:=0) (e:=c) (by decide) y rfl h g m l).trans ?_;refine(B0R o f j F h g m l rfl rfl (q0:=q) rfl (k:=0) rfl (by decide) i (by omega) (by omega)).trans ?_;rw[N4,HS];refine(Ru (k:=1) (e:=d) (by decide) y rfl h g z E).trans ?_;unfold p9;rcases x with ⟨rfl,rfl,_⟩ | ⟨hq1,_,_,_,_⟩
 ·refine(Xa (by decide) (Int.mul_zero w)).trans ?_;rw[N4,HU,Xb i,Int.mul_zero,Int.add_zero]
 ·refine(B0R o f j hq1 h g z E rfl rfl (q0:=q) rfl (k:=1) rfl (by decide) i (by omega) (by omega)).trans ?_
  grind[N4,HU,Xb,Int.add_assoc]
theorem H0Q{t:u1}{p u q:Nat}(m:u<=1){a b c d:Int}(f:(if(u:Int)=1 then b else a)=0)(l:0<=c)(i:c<=100000)(h:0<=d)(j:d<=100000){g:Int×Int->Option Int}{s:Int} :
  lp (GK t ((p:Int),a,b) (u:Int) ((q:Int),c,d) g) (s,0)=g (s,(u:Int)+1):=by
 refine BS 3 (by decide) fun n=>?_;rw[N4];refine(Ru (k:=0) (e:=c) (by decide) f rfl (by decide) (by decide) l i).trans ?_;refine(Xa (by decide) (Int.zero_mul _)).trans ?_;rw[N4,HS];refine(Ru (k:=1) (e:=d) (by decide) f rfl (by decide) (by decide) h j).trans ?_;refine(Xa (by decide) (Int.zero_mul _)).trans ?_
 grind[N4,HU,Xb]
theorem HV{xs:List Int}(x:Int)(h:F8 xs=true):∃(p:Nat) (a b:Int) (L:List (Int×Int)),p<xs.length/\Sh xs.length p a b L/\Di xs x=some ((p:Int),a,b)/\O5 xs x=some (L,a+b):=by
 obtain⟨p,a,b,d,e,f⟩:=N0Y x h;rcases f with ⟨rfl,rfl,c⟩ | ⟨c,h4,h5,h6,h7⟩
 ·exact⟨p,1,0,_,d,.inl ⟨rfl,rfl,rfl⟩,e,c⟩
 ·exact⟨p,a,b,_,d,.inr ⟨c,h4,h5,h6,rfl⟩,e,h7⟩
theorem Xc{t:u1}(g:C5 t=true){p q:Nat}(h:p<t.1.length)(f:q<t.2.1.length){a b c d:Int}{L M:List (Int×Int)}(i:Sh t.1.length p a b L)(e:Sh t.2.1.length q c d M)(T U m:Int) :
  lp (Hg t (M,U) (L,T) m) (0,0)=Je (L,T) (M,U) m (p9 t p q a c d+(if b=0 then 0 else p9 t (p+1) q b c d)):=by
 have k:∀n:Nat,((n:Int)).toNat=n:=fun _=>rfl;rcases i with ⟨rfl,rfl,rfl⟩ | ⟨hp1,a0,b0,hab,rfl⟩
 ·refine BS 2 (by decide) fun n=>?_;rw[N4,Hg,if_pos (by simp),gP ⟨⟨by decide,by simp⟩,by simp,trivial⟩,lE];refine(WZ (v11:=0) g h f e (w:=1) (by decide) (by decide) rfl (by decide) (by decide) (by decide)).trans ?_;rw[N4,HS,Hg,if_neg (by simp),if_pos rfl,Int.zero_add,Int.add_zero]
 ·have j:=u0M g h f e (w:=a) (by omega) (by omega);refine BS 3 (by decide) fun n=>?_;rw[N4,Hg,if_pos (by simp),gP ⟨⟨by decide,by simp⟩,by simp,trivial⟩,lE];refine(WZ (v11:=0) g h f e (w:=a) (by omega) (by omega) rfl (by decide) (by decide) (by decide)).trans ?_;rw[N4,HS,Hg,if_pos (by simp),gP ⟨⟨by decide,by simp⟩,by simp,trivial⟩,lE];refine(WZ (v11:=1) g hp1 f e (w:=b) (by omega) (by omega) (Int.natCast_succ p).symm (by decide) (by omega) (by omega)).trans ?_;rw[N4,HU,Hg,if_neg (by simp),if_neg (by omega),Int.zero_add]
theorem H0R{t:u1}(i:C5 t=true){p q:Nat}(o:p<t.1.length)(h:q<t.2.1.length){a b c d:Int}{L M:List (Int×Int)}(s:Sh t.1.length p a b L)(e:Sh t.2.1.length q c d M)(m:Int) :
  lp (IS t ((p:Int),a,b) ((q:Int),c,d) m) (0,0)=Pc ((p:Int),a,b) ((q:Int),c,d) m (p9 t p q a c d+(if b=0 then 0 else p9 t (p+1) q b c d)):=by
 have g:0<=a/\a<=100000/\0<=b/\b<=100000/\(b≠0->p+1<t.1.length):=by
  rcases s with ⟨rfl,rfl,_⟩ | ⟨_,_,_,_,_⟩ <;> omega
 obtain⟨l,k,F,E,f⟩:=g;have j:0<=c/\c<=100000/\0<=d/\d<=100000:=by
  rcases e with ⟨rfl,rfl,_⟩ | ⟨_,_,_,_,_⟩ <;> omega
 obtain⟨z,x,v,y⟩:=j;have G:=u0M i o h e l k;refine BS 3 (by decide) fun n=>?_;rw[N4,IS,if_pos (by simp)];refine(B0Q (u:=0) (p:=p) (r:=p) (w:=a) i rfl (by decide) o h e rfl l k (by decide) (by decide)).trans ?_;rw[N4,HS,IS,if_pos (by simp)];by_cases hz:b=0
 ·subst hz;refine(H0Q (u:=1) (by decide) rfl z x v y).trans ?_;rw[N4,HU,IS,if_neg (by simp),if_pos rfl,Int.zero_add,Int.add_zero]
 ·refine(B0Q (u:=1) (p:=p) (r:=p+1) (w:=b) i rfl (by decide) (f hz) h e rfl F E (by omega) (by omega)).trans ?_;rw[N4,HU,IS,if_neg (by simp),if_neg hz,Int.zero_add]
theorem C0q{t:u1}(a:C5 t=true){r q:Nat}(c:r<t.1.length)(b:q<t.2.1.length) : -1000000<=I9 t r q/\I9 t r q<=1000000:=by
 obtain⟨_,_,_,_,d,_,_⟩:=FG a;exact p0P a (i:=r*t.2.1.length+q) (by have:=Rr c b; omega)
theorem Xe{v w c:Int}(f : -1000000<=v)(b:v<=1000000)(d:0<=w)(e:0<=c) : -(1000000*(w*c))<=v*w*c/\v*w*c<=1000000*(w*c):=by
 have a:0<=w*c:=Int.mul_nonneg d e;rw[Int.mul_assoc];refine⟨?_,Int.mul_le_mul_of_nonneg_right b a⟩;have:=Int.mul_le_mul_of_nonneg_right f a;rw[Int.neg_mul] at this;exact this
theorem JR{t:u1}(g:C5 t=true){r q:Nat}(e:r<t.1.length)(j:q<t.2.1.length){w c d:Int}{M:List (Int×Int)}(i:Sh t.2.1.length q c d M)(b:0<=w) : -(1000000*(w*(c+d)))<=p9 t r q w c d/\p9 t r q w c d<=1000000*(w*(c+d)):=by
 unfold p9;have a:=C0q g e j;rcases i with ⟨rfl,rfl,_⟩ | ⟨hq1,c0,d0,hcd,_⟩
 ·have h:=Xe a.1 a.2 b (c:=1) (by decide);rw[Int.mul_zero,Int.add_zero,Int.add_zero]; exact h
 ·have f:=C0q g e hq1;have h:=Xe a.1 a.2 b (c:=c) (by omega);have k:=Xe f.1 f.2 b (c:=d) (by omega);rw[Int.mul_add w,Int.mul_add 1000000];omega
theorem JS{t:u1}(f:C5 t=true)(s l m:Int):∃r,J6 t s l m=some r/\BB t s l m=some r /\ -1000000<=r/\r<=1000000:=by
 have h:F8 t.1=true/\F8 t.2.1=true:=by
  simp only[C5,ba] at f;exact⟨f.1.1.1,f.1.1.2⟩
 obtain⟨p,a,b,L,n,o,G,E⟩:=HV s h.1;obtain⟨q,c,d,M,i,g,F,H⟩:=HV l h.2;have j:0<=a/\0<=b/\1<=a+b/\a+b<=100000/\a<=100000/\b<=100000/\(b≠0->p+1<t.1.length):=by
  rcases o with ⟨rfl,rfl,_⟩ | ⟨_,_,_,_,_⟩ <;> omega
 have P:1<=c+d/\c+d<=100000:=by
  rcases g with ⟨rfl,rfl,_⟩ | ⟨_,_,_,_,_⟩ <;> omega
 have V:=J7 (A:=100000) (B:=100000) (x:=a+b) (y:=c+d) (by omega) (by omega) (by omega) (by omega) (by decide);have e:0 < (a+b)*(c+d):=Int.mul_pos (by omega) (by omega);have Q:=JR f n i g (w:=a) (by omega);have T : -(1000000*(b*(c+d)))<=(if b=0 then 0 else p9 t (p+1) q b c d)/\(if b=0 then 0 else p9 t (p+1) q b c d)<=1000000*(b*(c+d)):=by
  by_cases hz:b=0
  ·rw[if_pos hz,hz,Int.zero_mul]; decide
  ·rw[if_neg hz]; exact JR f (j.2.2.2.2.2.2 hz) i g (by omega)
 have W:1000000*((a+b)*(c+d))=1000000*(a*(c+d))+1000000*(b*(c+d)):=by rw[Int.add_mul,Int.mul_add 1000000]
 obtain⟨v,u⟩:=U3 (p9 t p q a c d+(if b=0 then 0 else p9 t (p+1) q b c d)) ((a+b)*(c+d)) m (by omega) (by omega) e;have k:=FP (a:=p9 t p q a c d+(if b=0 then 0 else p9 t (p+1) q b c d)) (K:=1000000) m e (by omega) (by omega);have z:c9 ((a+b)*(c+d)):=oo;have i2:c9 (a+b):=oo;have i3:c9 (c+d):=oo;refine⟨_,?_,?_,k⟩
 ·unfold J6;rw[E,gP ⟨rfl,trivial⟩,vS,lE,H,gP ⟨rfl,trivial⟩,vS,lE,Xc f n i o g,Je,v,gP ⟨z,rfl,trivial⟩,vS,lE]
 ·unfold BB;rw[G,gP ⟨rfl,trivial⟩,vS,lE,F,gP ⟨rfl,trivial⟩,vS,lE,H0R f n i o g,Pc,u,gP ⟨i2,i3,z,rfl,trivial⟩,vS,lE]
end Go.Proofs.YtdjgagoledoaaaaGreatDoor
end
section
namespace Go.Proofs.YtdjgagoledoaaaaGreatDoor
open Go Go.Proofs Go.Proofs.Sv Go.Proofs.Xv Go.Proofs.Xl Go.Proofs.Xd
section
variable {b:j6}
theorem HW(b:j6){n:Nat}(h:n<b.2.2.length):(m7 b).2.2.2.1.getD ((n:Int)).toNat 0=(z7 b n).getD 0 0/\ix (n:Int) (m7 b).2.2.2.1.length:=by
 have a:(m7 b).2.2.2.1.length=b.2.2.length:=FK _ _;exact⟨JL _ 0 _ n h,oo⟩
theorem HX(b:j6){n:Nat}(h:n<b.2.2.length):(m7 b).2.2.2.2.1.getD ((n:Int)).toNat []=Y7 b n/\ix (n:Int) (m7 b).2.2.2.2.1.length:=by
 have a:(m7 b).2.2.2.2.1.length=b.2.2.length:=FK _ _;exact⟨JL _ [] _ n h,oo⟩
theorem I0c(t:wf l6 b)(o:p6 b=true){n k:Nat}(P:n<b.2.2.length)(hk:k < (x8 b.2.1 n).length){s m:Int}(e:0<=s)(E:s<=1000000)(Q:m=0∨m=1) :
  ∃r,V3 s ((Y7 b n).getD k 0) m=some r/\KX b (n:Int) (k:Int) s m=some r/\0<=r:=by
 have d:=Bj o P;obtain⟨w,T⟩:=d.delays;have c:=T (u5 b n k).toNat;have F:=d.sn;have G:=d.wf.snkIn k (by omega);obtain⟨V,W,f3⟩:=Rt s ((A6 b n).getD (u5 b n k).toNat 0);have Y:=J7 (A:=1000000) (B:=1000000) (x:=s) (y:=s) (by omega) (by omega) (by omega) (by omega) (by decide);have f:=J7 (A:=301000000) (B:=301000000) (x:=(A6 b n).getD (u5 b n k).toNat 0) (y:=(A6 b n).getD (u5 b n k).toNat 0) (by omega) (by omega) (by omega) (by omega) (by decide);have j:0<=s*s:=Int.mul_nonneg e e;have l:0<=(A6 b n).getD (u5 b n k).toNat 0*(A6 b n).getD (u5 b n k).toNat 0:=Int.mul_nonneg c.1 c.1;obtain⟨r,z,X,h,q,g,_⟩:=K0S e E c.1 c.2 Q;refine⟨r,by grind[HJ],?_,g⟩;have u:((n:Int)).toNat=n:=rfl;have H:((k:Int)).toNat=k:=rfl;have a:0<=(b.2.2.getD n (b7 l9)).2.2.2.getD k 0/\((b.2.2.getD n (b7 l9)).2.2.2.getD k 0).toNat < (A6 b n).length:=by rw[w]; exact G
 have i:k < (b.2.2.getD n (b7 l9)).2.2.2.length:=by
  show k < (m3 b n).2.2.2.length;omega
 unfold KX;rw[M0o b t d,vS,u,H,gP ⟨rfl,oo,oo,⟨a.1,by omega⟩,a.2,trivial⟩,lE];show gd (c9 (1000000*s)/\c9 (1000000*s*s)/\c9 (4*(A6 b n).getD (u5 b n k).toNat 0)/\c9 (4*(A6 b n).getD (u5 b n k).toNat 0*(A6 b n).getD (u5 b n k).toNat 0)/\c9 (1000000*s*s+4*(A6 b n).getD (u5 b n k).toNat 0*(A6 b n).getD (u5 b n k).toNat 0)/\(Co (1000000*s*s+4*(A6 b n).getD (u5 b n k).toNat 0*(A6 b n).getD (u5 b n k).toNat 0) m).isSome=true/\(U9 (vl (Co (1000000*s*s+4*(A6 b n).getD (u5 b n k).toNat 0*(A6 b n).getD (u5 b n k).toNat 0) m)) 1000 m).isSome=true/\True) (lt (vl (U9 (vl (Co (1000000*s*s+4*(A6 b n).getD (u5 b n k).toNat 0*(A6 b n).getD (u5 b n k).toNat 0) m)) 1000 m)) fun v=>some v)=_;rw[h,vS,q,vS,gP ⟨oo,oo,oo,oo,oo,rfl,rfl,trivial⟩,lE]
theorem Nx(g:wf l6 b)(f:p6 b=true){q:Int}(o:m0 q 0 (((lV b).length:Int)-1)=true){s m:Int}(T:0<=s)(z:s<=1000000)(G:m=0∨m=1) :
  ∃r,F2 (m7 b) q s m=some r/\AX b ((lV b).getD q.toNat (b7 y80)) s m=some r/\r<=1000000:=by
 have o:=y9.1 o;have c:ix q (m7 b).2.2.1.length:=⟨o.1,by show q < ((lV b).length:Int); omega⟩;generalize hl:(lV b).getD q.toNat (b7 y80)=l;have e:(m7 b).2.2.1.getD q.toNat (b7 y80)=l:=hl;have d:l∈lV b:=by rw[<- hl]; exact G6 (by omega)
 rcases HP f d with ⟨a,n,h⟩ | ⟨n,k,h⟩
 ·obtain⟨t,v⟩:=CH h.slw h.trs;obtain⟨r,Q,w,W,P⟩:=JS v s ((z7 b n).getD 0 0) m;obtain⟨j,i⟩:=HW b h.nlt;refine⟨r,?_,?_,P⟩
  ·unfold F2;refine(gP ⟨c,trivial⟩).trans ?_;rw[lE,e,Y8 h.pix h.net,vS,gP ⟨rfl,trivial⟩,lE];refine(if_pos (by rw[h.kind]; rfl)).trans ?_;rw[HQ h,vS,j,Q,vS];refine(gP ⟨rfl,by decide,t,i,rfl,trivial⟩).trans ?_;rw[lE];have:min r 1000000=r:=by omega
   rw[this]
  ·unfold AX;refine(if_pos (by rw[h.kind]; rfl)).trans ?_;rw[M0r g f h,vS,gP ⟨rfl,trivial⟩,lE];show gd (_/\ix (l.2.1.tmod 2) a.2.2.2.2.2.length/\(BB (a.2.2.2.2.2.getD (l.2.1.tmod 2).toNat (b7 y70)) s ((z7 b n).getD 0 0) m).isSome=true/\True) (lt (vl (BB (a.2.2.2.2.2.getD (l.2.1.tmod 2).toNat (b7 y70)) s ((z7 b n).getD 0 0) m)) fun E=>some E)=_;rw[w,vS,gP ⟨by decide,t,rfl,trivial⟩,lE]
 ·obtain⟨r,x,u,V⟩:=I0c g f h.nlt h.klt T z G;obtain⟨j,i⟩:=HX b h.nlt;have H:=HK b n;have y:=h.klt;refine⟨min r 1000000,?_,?_,by omega⟩
  ·unfold F2;refine(gP ⟨c,trivial⟩).trans ?_;rw[lE,e,Y8 h.pix h.net,vS,gP ⟨rfl,trivial⟩,lE];refine(if_neg (by rw[h.kind]; decide)).trans ?_;rw[j,h.idx];have F:((k:Int)).toNat=k:=rfl;rw[F,x,vS];refine(gP ⟨i,oo,rfl,trivial⟩).trans ?_;rw[lE]
  ·unfold AX;refine(if_neg (by rw[h.kind]; decide)).trans ?_;rw[M0q g f h,vS,h.idx,u,vS,gP ⟨rfl,rfl,trivial⟩,lE,Int.min_comm]
def B7(c:o5)(k m:Int):Int:=if(k==1)=true then(if(m==0)=true then c.2.1 else c.2.2.1) else(if(m==0)=true then c.2.2.2.1 else c.2.2.2.2)
theorem Ny(c:o5)(k m:Int):Jh c k m=some (B7 c k m):=by
 grind[Jh,B7]
theorem N0Z(c:o5)(k m:Int):GM c k m=some (B7 c k m):=by
 grind[GM,B7]
def D3(c:o5):Bool:=I6 c.1&&(decide (100<=c.2.1)&&decide (c.2.1<=c.2.2.1)&&decide (c.2.2.1<=5000))&&(decide (100<=c.2.2.2.1)&&decide (c.2.2.2.1<=c.2.2.2.2)&&decide (c.2.2.2.2<=5000))
theorem DE{c:o5}(h:D3 c=true)(k m:Int):0<=B7 c k m/\B7 c k m<=5000:=by
 grind[D3,B7]
theorem Rv(v:wf l6 b)(j:p6 b=true){c:o5}(W:D3 c=true){q:Int}(E:m0 q 0 (((lV b).length:Int)-1)=true)(s m:Int) :
  ∃r,L6 (m7 b) c q s m=some r/\AY b c ((lV b).getD q.toNat (b7 y80)) s m=some r /\ -6000000<=r/\r<=6000000:=by
 have E:=y9.1 E;have e:ix q (m7 b).2.2.1.length:=⟨E.1,by show q < ((lV b).length:Int); omega⟩;generalize hl:(lV b).getD q.toNat (b7 y80)=l;have i:(m7 b).2.2.1.getD q.toNat (b7 y80)=l:=hl;have f:l∈lV b:=by rw[<- hl]; exact G6 (by omega)
 have hf:=DE W l.2.2.1 m;have d:∀p:Int,-1000000<=p->p<=1000000->AA c l m p=some (u0 (p*B7 c l.2.2.1 m) 1000 m)/\IT c l m p=some (u0 (p*B7 c l.2.2.1 m) 1000 m) /\ -6000000<=u0 (p*B7 c l.2.2.1 m) 1000 m/\u0 (p*B7 c l.2.2.1 m) 1000 m<=6000000:=fun p p0 p1=>by
  have hp:=J7 (A:=1000000) (B:=5000) (x:=p) (y:=B7 c l.2.2.1 m) (by omega) (by omega) (by omega) (by omega) (by decide);have t:=U3 (p*B7 c l.2.2.1 m) 1000 m (by omega) (by omega) (by decide);have H:=FP (a:=p*B7 c l.2.2.1 m) (b:=1000) (K:=6000000) m (by decide) (by omega) (by omega);have o:Az p (B7 c l.2.2.1 m) m=some (u0 (p*B7 c l.2.2.1 m) 1000 m):=by
   unfold Az;rw[t.1,vS,gP ⟨oo,rfl,trivial⟩,lE]
  refine⟨?_,?_,H⟩
  ·rw[AA,Ny,vS,o,vS,gP ⟨rfl,rfl,trivial⟩,lE]
  ·rw[IT,N0Z,vS,t.2,vS,gP ⟨rfl,oo,rfl,trivial⟩,lE]
 rcases HP j f with ⟨a,n,h⟩ | ⟨n,k,h⟩
 ·obtain⟨T,V⟩:=CH h.del h.trs;obtain⟨r,l1,X,Y,l4⟩:=JS V s ((z7 b n).getD 0 0) m;obtain⟨z,w⟩:=HW b h.nlt;obtain⟨u,G,F⟩:=d r Y l4;refine⟨_,?_,?_,F⟩
  ·unfold L6;refine(gP ⟨e,trivial⟩).trans ?_;rw[lE,i,Y8 h.pix h.net,vS,gP ⟨rfl,trivial⟩,lE];refine(if_pos (by rw[h.kind]; rfl)).trans ?_;rw[HQ h,vS,z,l1,vS];refine(gP ⟨rfl,by decide,T,w,rfl,trivial⟩).trans ?_;rw[lE];exact u
  ·unfold AY;refine(if_pos (by rw[h.kind]; rfl)).trans ?_;rw[M0r v j h,vS,gP ⟨rfl,trivial⟩,lE];show gd (_/\ix (l.2.1.tmod 2) a.2.2.2.2.1.length/\(BB (a.2.2.2.2.1.getD (l.2.1.tmod 2).toNat (b7 y70)) s ((z7 b n).getD 0 0) m).isSome=true/\True) (lt (vl (BB (a.2.2.2.2.1.getD (l.2.1.tmod 2).toNat (b7 y70)) s ((z7 b n).getD 0 0) m)) fun v1=>IT c l m v1)=_;rw[X,vS,gP ⟨by decide,T,rfl,trivial⟩,lE];exact G
 ·have Q:=Bj j h.nlt;obtain⟨dl,db⟩:=Q.delays;have t:=db (u5 b n k).toNat;obtain⟨z,w⟩:=HX b h.nlt;have aA:=HK b n;have g:=h.klt;have aB:=u0D b n m;have P:((k:Int)).toNat=k:=rfl;have H:=FP (a:=(A6 b n).getD (u5 b n k).toNat 0) (b:=1000) (K:=301000) m (by decide) (by omega) (by omega);obtain⟨u,G,F⟩:=d (u0 ((A6 b n).getD (u5 b n k).toNat 0) 1000 m) (by omega) (by omega);refine⟨_,?_,?_,F⟩
  ·unfold L6;refine(gP ⟨e,trivial⟩).trans ?_;rw[lE,i,Y8 h.pix h.net,vS,gP ⟨rfl,trivial⟩,lE];refine(if_neg (by rw[h.kind]; decide)).trans ?_;rw[z,h.idx,P,HJ g,(U3 _ 1000 m (by omega) (by omega) (by decide)).1,vS];refine(gP ⟨w,oo,rfl,trivial⟩).trans ?_;rw[lE];exact u
  ·unfold AY;refine(if_neg (by rw[h.kind]; decide)).trans ?_;rw[M0q v j h,vS,O0a b v Q,vS,h.idx,P,gP ⟨rfl,rfl,oo,by omega,trivial⟩,lE,u0E g];exact G
theorem r55(a:p6 b=true)(q:Int):Mi (m7 b) q=some (m0 q 0 (((lV b).length:Int)-1)):=by
 have c:=K3 a;have e:Bb (m7 b).2.2.1=some ((lV b).length:Int):=rfl;unfold Mi;rw[e,vS,V8,vS,gP ⟨rfl,oo,rfl,trivial⟩]
theorem M0v(s:Int):Fq s=some (m0 s 0 1000000):=by
 unfold Fq;rw[V8,vS,gP ⟨rfl,trivial⟩]
end
theorem Xf{b:j6}{q:Int}(h:m0 q 0 (((lV b).length:Int)-1)=true):ix q (lV b).length/\q.toNat < (lV b).length:=by
 have:=y9.1 h;exact⟨oo,by omega⟩
theorem r54(c:o5)(e:wf o8 c):Hj c=some (D3 c):=by
 have d:∀a b,Hi a b=some (decide (100<=a)&&decide (a<=b)&&decide (b<=5000)):=fun _ _=>rfl;unfold Hj D3;rw[Wy _ e.1,vS,d,vS,d,vS,gP ⟨rfl,(fun _=>rfl),(fun _=>rfl),trivial⟩]
def Xg(c:o5)(i:Nat):Bool:=!m0 ([c.2.1,c.2.2.1,c.2.2.2.1,c.2.2.2.2].getD i 0) 100 5000
theorem r70(c:o5)(q:wf o8 c):Dl c=some (D3 c):=by
 unfold Dl;rw[lE];have b:=F1 (n:=4) (by decide) (Xg c) (some false) (e:=Lx c ()) (F:=Px [c.2.1,c.2.2.1,c.2.2.2.1,c.2.2.2.2] c) (fun g i hi=>by
  have l:((i:Int)).toNat=i:=rfl;have d:([c.2.1,c.2.2.1,c.2.2.2.1,c.2.2.2.2]:List Int).length=4:=rfl;refine(if_pos (decide_eq_true (by rw[d]; omega))).trans ?_;rw[l,R2,vS,gP ⟨⟨by omega,by rw[d]; omega⟩,hi,rfl,trivial⟩,gP ⟨oo,trivial⟩];rfl) (fun g=>by
  show Px [c.2.1,c.2.2.1,c.2.2.2.1,c.2.2.2.2] c g (((4:Nat):Int))=_;rw[Px];exact if_neg (by simp))
 refine b.trans ?_;have k:Lx c ()=some (I6 c.1&&decide (c.2.1<=c.2.2.1)&&decide (c.2.2.2.1<=c.2.2.2.2)):=by
  unfold Lx;rw[Rh _ q.1,vS,gP ⟨rfl,trivial⟩]
 rw[k];have m:(List.range 4).any (Xg c)=(!m0 c.2.1 100 5000||(!m0 c.2.2.1 100 5000||(!m0 c.2.2.2.1 100 5000||(!m0 c.2.2.2.2 100 5000||false)))):=rfl;have j:(if(List.range 4).any (Xg c)=true then false else(I6 c.1&&decide (c.2.1<=c.2.2.1)&&decide (c.2.2.2.1<=c.2.2.2.2)))=D3 c:=by
  rw[m,Bool.eq_iff_iff];unfold D3 m0;by_cases h:(!(decide (100<=c.2.1)&&decide (c.2.1<=5000))||(!(decide (100<=c.2.2.1)&&decide (c.2.2.1<=5000))||(!(decide (100<=c.2.2.2.1)&&decide (c.2.2.2.1<=5000))||(!(decide (100<=c.2.2.2.2)&&decide (c.2.2.2.2<=5000))||false))))=true
  ·rw[if_pos h];simp only[Bool.or_eq_true,Bool.not_eq_true',Bool.and_eq_false_iff,decide_eq_false_iff_not,Bool.false_eq_true,or_false] at h;simp only[ba,dq,Bool.false_eq_true,false_iff];rintro⟨⟨_,a⟩,f⟩;omega
  ·rw[if_neg h];simp only[Bool.or_eq_true,Bool.not_eq_true',Bool.and_eq_false_iff,decide_eq_false_iff_not,Bool.false_eq_true,or_false] at h;simp only[ba,dq];constructor
   ·rintro⟨⟨a,f⟩,o⟩;exact⟨⟨a,by omega⟩,by omega⟩
   ·rintro⟨⟨a,f⟩,o⟩;exact⟨⟨a,by omega⟩,by omega⟩
 rw[<- j];split <;> rfl
end Go.Proofs.YtdjgagoledoaaaaGreatDoor
end
section
namespace Go.Proofs.YtdjgagoledoaaaaGreatDoor
open Go Go.Proofs Go.Proofs.Xv Go.Proofs.Xl Go.Proofs.Xd
theorem JT{a b:Int}(m:Int)(c:0<=a)(d:0<b):0<=u0 a b m:=by
 unfold u0;have f:=Int.emod_nonneg a (Int.ne_of_gt d);have e:0<=a / b:=Int.ediv_nonneg c (Int.le_of_lt d);rw[Int.tdiv_eq_ediv_of_nonneg c,Int.tmod_eq_emod_of_nonneg c,if_neg (by rw[ba,dq]; omega)];split <;> omega
theorem v0p(xs:List Int):∀n i,i<=n->fN (fun i m=>min m (xs.getD (i+1) 0)) n (xs.getD 0 0)<=xs.getD i 0
 | 0,i,h=>by
   have:i=0:=by omega
   subst this;exact Int.le_refl _
 | n+1,i,h=>by
   show min (fN (fun i m=>min m (xs.getD (i+1) 0)) n (xs.getD 0 0)) (xs.getD (n+1) 0)<=_;rcases Nat.lt_or_ge n i with a | a
   ·have:i=n+1:=by omega
    subst this;omega
   ·have:=v0p xs n i a;omega
theorem Rw{l:List Dt}(h:F9 l true=true){t:Dt}(b:t∈l):∀i,i<t.2.2.length->0<=t.2.2.getD i 0:=fun i hi=>by
 unfold F9 at h;rw[ba] at h;have:=List.all_eq_true.1 h.2 t b;simp only[Bool.true_and,ba,Bool.not_eq_true',decide_eq_false_iff_not] at this;have c:=v0p t.2.2 (t.2.2.length-1) i (by omega);have a:¬AB t.2.2<0:=this.2;unfold AB at a;omega
theorem Rx{t:u1}(g:∀i,i<t.2.2.length->0<=t.2.2.getD i 0){r q:Nat}{w c d:Int}(b:0<=w)(f:0<=c)(e:0<=d):0<=p9 t r q w c d:=by
 have a:∀r q,0<=I9 t r q:=fun r q=>by
  unfold I9;rcases Nat.lt_or_ge (r*t.2.1.length+q) t.2.2.length with h | h
  ·exact g _ h
  ·rw[gq,List.getElem?_eq_none h]; exact Int.le_refl _
 unfold p9;have k:=Int.mul_nonneg (Int.mul_nonneg (a r q) b) f;have j:=Int.mul_nonneg (Int.mul_nonneg (a r (q+1)) b) e;omega
theorem q0J{t:u1}(h:C5 t=true)(E:∀i,i<t.2.2.length->0<=t.2.2.getD i 0)(s l m:Int):∀r,J6 t s l m=some r->0<=r:=by
 intro r z;have j:F8 t.1=true/\F8 t.2.1=true:=by
  simp only[C5,ba] at h;exact⟨h.1.1.1,h.1.1.2⟩
 obtain⟨p,a,b,L,k,F,X,G⟩:=HV s j.1;obtain⟨q,c,d,M,o,n,V,H⟩:=HV l j.2;have g:0<=a/\0<=b/\1<=a+b/\a+b<=100000/\a<=100000/\b<=100000/\(b≠0->p+1<t.1.length):=by
  rcases F with ⟨rfl,rfl,_⟩ | ⟨_,_,_,_,_⟩ <;> omega
 have e:0<=c/\0<=d/\1<=c+d/\c+d<=100000:=by
  rcases n with ⟨rfl,rfl,_⟩ | ⟨_,_,_,_,_⟩ <;> omega
 have Y:=J7 (A:=100000) (B:=100000) (x:=a+b) (y:=c+d) (by omega) (by omega) (by omega) (by omega) (by decide);have f:0 < (a+b)*(c+d):=Int.mul_pos (by omega) (by omega);have T:=JR h k o n (w:=a) (by omega);have W : -(1000000*(b*(c+d)))<=(if b=0 then 0 else p9 t (p+1) q b c d)/\(if b=0 then 0 else p9 t (p+1) q b c d)<=1000000*(b*(c+d)):=by
  by_cases hz:b=0
  ·rw[if_pos hz,hz,Int.zero_mul]; decide
  ·rw[if_neg hz]; exact JR h (g.2.2.2.2.2.2 hz) o n (by omega)
 have Q:=Rx E (r:=p) (q:=q) g.1 e.1 e.2.1;have y2:0<=(if b=0 then 0 else p9 t (p+1) q b c d):=by
  split
  ·exact Int.le_refl _
  ·exact Rx E g.2.1 e.1 e.2.1
 have ed:1000000*((a+b)*(c+d))=1000000*(a*(c+d))+1000000*(b*(c+d)):=by rw[Int.add_mul,Int.mul_add 1000000]
 have v:=(U3 (p9 t p q a c d+(if b=0 then 0 else p9 t (p+1) q b c d)) ((a+b)*(c+d)) m (by omega) (by omega) f).1;have P:c9 ((a+b)*(c+d)):=oo;have u:J6 t s l m=some (u0 (p9 t p q a c d+(if b=0 then 0 else p9 t (p+1) q b c d)) ((a+b)*(c+d)) m):=by
  unfold J6;rw[G,gP ⟨rfl,trivial⟩,vS,lE,H,gP ⟨rfl,trivial⟩,vS,lE,Xc h k o F n,Je,v,gP ⟨P,rfl,trivial⟩,vS,lE]
 rw[u] at z;cases z;exact JT m (by omega) f
end Go.Proofs.YtdjgagoledoaaaaGreatDoor
end
section
namespace Go.Proofs.YtdjgagoledoaaaaGreatDoor
open Go Go.Proofs Go.Proofs.Sv Go.Proofs.Xv Go.Proofs.Xl Go.Proofs.Xd
theorem Ry{a:Int}(m:Int)(h:0<=a):u0 a 1000 m=if 0<a % 1000/\m=1 then a / 1000+1 else a / 1000:=by
 unfold u0;have b:=Int.emod_nonneg a (show(1000:Int)≠0 by decide);rw[Int.tdiv_eq_ediv_of_nonneg h,Int.tmod_eq_emod_of_nonneg h,if_neg (by rw[ba,dq]; omega)];by_cases c:0<a % 1000/\m=1
 ·rw[if_pos c,if_pos (by rw[ba,dq,beq_iff_eq]; exact c)]
 ·rw[if_neg c,if_neg (by rw[ba,dq,beq_iff_eq]; exact c)]
theorem w0e{a b:Int}(m:Int)(h:0<=a)(c:a<=b):u0 a 1000 m<=u0 b 1000 m:=by
 rw[Ry m h,Ry m (by omega)];split <;> split <;> omega
theorem Xh{a b:Int}(h:0<=a)(c:a<=b):u0 a 1000 0<=u0 b 1000 1:=by
 rw[Ry 0 h,Ry 1 (by omega)];rw[if_neg (by omega)];split <;> omega
theorem v0n{p x y:Int}(a:0<=p)(h:x<=y):p*x<=p*y:=Int.mul_le_mul_of_nonneg_left h a
section
variable {b:j6}
structure S0m(b:j6)(q:Int)(B:Int->Int->Int):Prop where
 bd:∀s m,0<=B s m/\B s m<=1000000
 val:∀c,D3 c=true->∀s m,L6 (m7 b) c q s m=some (u0 (B s m*B7 c ((lV b).getD q.toNat (b7 y80)).2.2.1 m) 1000 m)
theorem E0I(V:p6 b=true){q:Int}(G:m0 q 0 (((lV b).length:Int)-1)=true):∃B,S0m b q B:=by
 have G:=y9.1 G;have f:ix q (m7 b).2.2.1.length:=⟨G.1,by show q < ((lV b).length:Int); omega⟩;generalize hl:(lV b).getD q.toNat (b7 y80)=l;have j:(m7 b).2.2.1.getD q.toNat (b7 y80)=l:=hl;have i:l∈lV b:=by rw[<- hl]; exact G6 (by omega)
 have e:∀(c:o5) (m p:Int),D3 c=true -> -1000000<=p->p<=1000000->AA c l m p=some (u0 (p*B7 c l.2.2.1 m) 1000 m):=fun c m p g p0 p1=>by
  have hf:=DE g l.2.2.1 m;have hp:=J7 (A:=1000000) (B:=5000) (x:=p) (y:=B7 c l.2.2.1 m) (by omega) (by omega) (by omega) (by omega) (by decide);have T:=U3 (p*B7 c l.2.2.1 m) 1000 m (by omega) (by omega) (by decide);have t:Az p (B7 c l.2.2.1 m) m=some (u0 (p*B7 c l.2.2.1 m) 1000 m):=by
   unfold Az;rw[T.1,vS,gP ⟨oo,rfl,trivial⟩,lE]
  rw[AA,Ny,vS,t,vS,gP ⟨rfl,rfl,trivial⟩,lE]
 rcases HP V i with ⟨a,n,h⟩ | ⟨n,k,h⟩
 ·obtain⟨Q,v⟩:=CH h.del h.trs;have P:(l.2.1.tmod 2).toNat<a.2.2.2.2.1.length:=by have:=Q.1; have:=Q.2; omega
  have z:=Rw h.del (G6 (d:=b7 y70) P);obtain⟨F,E⟩:=HW b h.nlt;refine⟨fun s m=>vl (J6 (a.2.2.2.2.1.getD (l.2.1.tmod 2).toNat (b7 y70)) s ((z7 b n).getD 0 0) m),⟨fun s m=>?_,fun c g s m=>?_⟩⟩
  ·obtain⟨r,o,Y,W,X⟩:=JS v s ((z7 b n).getD 0 0) m;have:=q0J v z s ((z7 b n).getD 0 0) m r o;rw[o,vS];omega
  ·obtain⟨r,o,Y,W,X⟩:=JS v s ((z7 b n).getD 0 0) m;show _=some (u0 (vl (J6 (a.2.2.2.2.1.getD (l.2.1.tmod 2).toNat (b7 y70)) s ((z7 b n).getD 0 0) m)*B7 c ((lV b).getD q.toNat (b7 y80)).2.2.1 m) 1000 m);rw[hl];unfold L6;refine(gP ⟨f,trivial⟩).trans ?_;rw[lE,j,Y8 h.pix h.net,vS,gP ⟨rfl,trivial⟩,lE];refine(if_pos (by rw[h.kind]; rfl)).trans ?_;rw[HQ h,vS,F,o,vS];refine(gP ⟨rfl,by decide,Q,E,rfl,trivial⟩).trans ?_;rw[lE];exact e c m r g W X
 ·have no:=Bj V h.nlt;obtain⟨dl,db⟩:=no.delays;have T:=db (u5 b n k).toNat;obtain⟨F,E⟩:=HX b h.nlt;have aA:=HK b n;have w:=h.klt;have e4:((k:Int)).toNat=k:=rfl;have u:=fun m=>FP (a:=(A6 b n).getD (u5 b n k).toNat 0) (b:=1000) (K:=301000) m (by decide) (by omega) (by omega);have H:=fun m=>JT (a:=(A6 b n).getD (u5 b n k).toNat 0) (b:=1000) m (by omega) (by decide);refine⟨fun _ m=>u0 ((A6 b n).getD (u5 b n k).toNat 0) 1000 m,⟨fun s m=>⟨H m,by have:=(u m).2; omega⟩,fun c g s m=>?_⟩⟩;show _=some (u0 (u0 ((A6 b n).getD (u5 b n k).toNat 0) 1000 m*B7 c ((lV b).getD q.toNat (b7 y80)).2.2.1 m) 1000 m);rw[hl];unfold L6;refine(gP ⟨f,trivial⟩).trans ?_;rw[lE,j,Y8 h.pix h.net,vS,gP ⟨rfl,trivial⟩,lE];refine(if_neg (by rw[h.kind]; decide)).trans ?_;rw[F,h.idx,e4,HJ w,(U3 _ 1000 m (by omega) (by omega) (by decide)).1,vS];refine(gP ⟨E,oo,rfl,trivial⟩).trans ?_;rw[lE];exact e c m _ g (by have:=u m; omega) (by have:=u m; omega)
end
theorem E0U{a b c:Int}(g:0<=a)(d:0<b)(h:a<=c*b):u0 a b 1<=c:=by
 rw[Bm g d];have e:=Int.mul_ediv_add_emod a b;split
 ·rename_i hz;rcases Int.lt_or_le (a / b) c with f | f
  ·omega
  ·have:=Int.mul_le_mul_of_nonneg_right f (show 0<=b by omega);have:b*(a / b)=a / b*b:=Int.mul_comm _ _;omega
 ·exact Int.ediv_le_of_le_mul d h
theorem E0l{a b:Int}(d:0<=a)(c:0<b):a<=u0 a b 1*b:=by
 rw[Bm d c];have e:=Int.mul_ediv_add_emod a b;have g:=Int.emod_lt_of_pos a c;have f:=Int.emod_nonneg a (show b≠0 by omega);have:b*(a / b)=a / b*b:=Int.mul_comm _ _;split
 ·grind
 ·omega
theorem JU{a b c d:Int}(i:0<=a)(g:0<b)(j:0<=c)(e:0<d)(h:a*d<=c*b){m:Int}(k:m=0∨m=1):u0 a b m<=u0 c d m:=by
 rcases k with rfl | rfl
 ·rw[DC i g,DC j e,Int.le_ediv_iff_mul_le e];have l:=Int.mul_le_mul_of_nonneg_right (Int.ediv_mul_le a (show b≠0 by omega)) (show 0<=d by omega);have f:a / b*d*b<=c*b:=by rw[Int.mul_assoc,Int.mul_comm d b,<- Int.mul_assoc]; omega
  exact Int.le_of_mul_le_mul_right f g
 ·refine E0U i g ?_;have l:=Int.mul_le_mul_of_nonneg_right (E0l j e) (show 0<=b by omega);have f:a*d<=u0 c d 1*b*d:=by rw[Int.mul_assoc,Int.mul_comm b d,<- Int.mul_assoc]; omega
  exact Int.le_of_mul_le_mul_right f e
theorem E0y{a b:Int}(c:0<=a)(d:0<b):u0 a b 0<=u0 a b 1:=by
 grind[DC,Bm]
theorem F0F{xs:List Int}(h:F8 xs=true){p:Nat}(a:p<xs.length):O5 xs (xs.getD p 0)=some ([((p:Int),1)],1):=by
 obtain⟨m,l⟩:=CB h;have f:((xs.length:Int)-1).toNat=xs.length-1:=by omega
 have k:xs.getD 0 0<=xs.getD p 0:=by
  rcases Nat.eq_zero_or_pos p with e | e
  ·grind
  ·have:=CG h e a; omega
 have j:xs.getD p 0<=xs.getD (xs.length-1) 0:=by
  rcases Nat.lt_or_ge p (xs.length-1) with e | e
  ·have:=CG h e (by omega); omega
  ·grind
 have b:z8 xs (xs.getD p 0)=xs.getD p 0:=by unfold z8; omega
 have g:∀i,i<p->xs.getD i 0<z8 xs (xs.getD p 0):=fun i hi=>by rw[b]; exact CG h hi a
 have d:∀i,p<=i->i<xs.length->z8 xs (xs.getD p 0)<=xs.getD i 0:=fun i hi c=>by
  rw[b];rcases Nat.eq_or_lt_of_le hi with e | e
  ·grind
  ·have:=CG h e c; omega
 unfold O5;rw[gP ⟨oo,oo,oo,trivial⟩,f];change lt (z8 xs (xs.getD p 0)) _=_;rw[lE,Nw (by omega) a g d,gP ⟨rfl,trivial⟩,vS,lE,if_pos (by grind)]
theorem Rz{t:u1}(k:C5 t=true)(_:∀i,i<t.2.2.length->0<=t.2.2.getD i 0){s l:Int}{p q:Nat}{a b c d:Int}{L M:List (Int×Int)}(e:p<t.1.length)(o:Sh t.1.length p a b L)(r:O5 t.1 s=some (L,a+b))(j:q<t.2.1.length)(g:Sh t.2.1.length q c d M)(u:O5 t.2.1 l=some (M,c+d))(m:Int) :
  J6 t s l m=some (u0 (p9 t p q a c d+(if b=0 then 0 else p9 t (p+1) q b c d)) ((a+b)*(c+d)) m):=by
 have h:0<=a/\0<=b/\1<=a+b/\a+b<=100000/\a<=100000/\b<=100000/\(b≠0->p+1<t.1.length):=by
  rcases o with ⟨rfl,rfl,_⟩ | ⟨_,_,_,_,_⟩ <;> omega
 have z:0<=c/\0<=d/\1<=c+d/\c+d<=100000:=by
  rcases g with ⟨rfl,rfl,_⟩ | ⟨_,_,_,_,_⟩ <;> omega
 have F:=J7 (A:=100000) (B:=100000) (x:=a+b) (y:=c+d) (by omega) (by omega) (by omega) (by omega) (by decide);have f:0 < (a+b)*(c+d):=Int.mul_pos (by omega) (by omega);have E:=JR k e j g (w:=a) (by omega);have H : -(1000000*(b*(c+d)))<=(if b=0 then 0 else p9 t (p+1) q b c d)/\(if b=0 then 0 else p9 t (p+1) q b c d)<=1000000*(b*(c+d)):=by
  by_cases hz:b=0
  ·grind
  ·rw[if_neg hz]; exact JR k (h.2.2.2.2.2.2 hz) j g (by omega)
 have G:1000000*((a+b)*(c+d))=1000000*(a*(c+d))+1000000*(b*(c+d)):=by grind
 have n:=(U3 (p9 t p q a c d+(if b=0 then 0 else p9 t (p+1) q b c d)) ((a+b)*(c+d)) m (by omega) (by omega) f).1;have v:c9 ((a+b)*(c+d)):=oo;unfold J6;rw[r,gP ⟨rfl,trivial⟩,vS,lE,u,gP ⟨rfl,trivial⟩,vS,lE,Xc k e j o g,Je,n,gP ⟨v,rfl,trivial⟩,vS,lE]
theorem Nz(t:u1)(r q:Nat)(w c d:Int):p9 t r q w c d=w*p9 t r q 1 c d:=by
 grind[p9]
structure NA(t:u1)(l:Int)(V:Int->Int->Int):Prop where
 val:∀s m,J6 t s l m=some (V s m)
 pos:∀s m,0<=V s m
 two:∀s,V s 0<=V s 1
 lo:∀s,∃i,i<t.1.length/\V (t.1.getD i 0) 0<=V s 0
 hi:∀s,∃i,i<t.1.length/\V s 1<=V (t.1.getD i 0) 1
theorem E0h{t:u1}(z:C5 t=true)(H:∀i,i<t.2.2.length->0<=t.2.2.getD i 0)(l:Int):∃V,NA t l V:=by
 have w:F8 t.1=true/\F8 t.2.1=true:=by
  simp only[C5,ba] at z;exact⟨z.1.1.1,z.1.1.2⟩
 obtain⟨q,c,d,M,Q,G,X,P⟩:=HV l w.2;have E:0<=c/\0<=d/\1<=c+d/\c+d<=100000:=by
  rcases G with ⟨rfl,rfl,_⟩ | ⟨_,_,_,_,_⟩ <;> omega
 have F:∀r,0<=p9 t r q 1 c d:=fun r=>Rx H (by decide) E.1 E.2.1;have j:∀s,∃(p:Nat) (a b:Int),p<t.1.length/\0<=a/\0<=b/\1<=a+b/\(b≠0->p+1<t.1.length)/\∀m,J6 t s l m=some (u0 (a*p9 t p q 1 c d+b*p9 t (p+1) q 1 c d) ((a+b)*(c+d)) m):=fun s=>by
  obtain⟨p,a,b,L,g,T,Y,W⟩:=HV s w.1;have e:0<=a/\0<=b/\1<=a+b/\(b≠0->p+1<t.1.length):=by
   rcases T with ⟨rfl,rfl,_⟩ | ⟨_,_,_,_,_⟩ <;> omega
  refine⟨p,a,b,g,e.1,e.2.1,e.2.2.1,e.2.2.2,fun m=>?_⟩;rw[Rz z H g T W Q G P m];by_cases hz:b=0
  ·rw[if_pos hz,Nz t p q a,hz,Int.zero_mul]
  ·rw[if_neg hz,Nz t p q a,Nz t (p+1) q b]
 have y:∀p,p<t.1.length->∀m,J6 t (t.1.getD p 0) l m=some (u0 (p9 t p q 1 c d) (c+d) m):=fun p g m=>by
  have:=Rz z H (a:=1) (b:=0) g (.inl ⟨rfl,rfl,rfl⟩) (F0F w.1 g) Q G P m;rw[this,if_pos rfl,Int.add_zero,Int.add_zero,Int.one_mul]
 have u:∀{a b:Int} (p:Nat),0<=a->0<=b->0<=a*p9 t p q 1 c d+b*p9 t (p+1) q 1 c d:=fun p o k=>by
  have:=Int.mul_nonneg o (F p);have:=Int.mul_nonneg k (F (p+1));omega
 have j7:∀{a b:Int},1<=a+b->0 < (a+b)*(c+d):=fun h=>Int.mul_pos (by omega) (by omega);refine⟨fun s m=>vl (J6 t s l m),⟨fun s m=>?_,fun s m=>?_,fun s=>?_,fun s=>?_,fun s=>?_⟩⟩
 ·obtain⟨p,a,b,_,_,_,_,_,h⟩:=j s
  grind[vl,J6,vS]
 ·obtain⟨p,a,b,_,o,k,e,_,h⟩:=j s;show 0<=vl (J6 t s l m);rw[h,vS];exact JT m (u p o k) (j7 e)
 ·obtain⟨p,a,b,_,o,k,e,_,h⟩:=j s;show vl (J6 t s l 0)<=vl (J6 t s l 1);rw[h,h,vS,vS];exact E0y (u p o k) (j7 e)
 ·obtain⟨p,a,b,g,o,k,e,v,h⟩:=j s;have n:∀r,r<t.1.length->(a+b)*p9 t r q 1 c d<=a*p9 t p q 1 c d+b*p9 t (p+1) q 1 c d->∃i,i<t.1.length/\vl (J6 t (t.1.getD i 0) l 0)<=vl (J6 t s l 0):=fun r x f=>by
   refine⟨r,x,?_⟩;rw[h,y r x,vS,vS];refine JU (F r) (by omega) (u p o k) (j7 e) ?_ (.inl rfl);have:=Int.mul_le_mul_of_nonneg_right f (show 0<=c+d by omega)
   grind
  by_cases hz:b=0
  ·grind
  ·rcases Int.le_total (p9 t p q 1 c d) (p9 t (p+1) q 1 c d) with f | f
   ·refine n p g ?_;have:=Int.mul_le_mul_of_nonneg_left f k
    grind
   ·refine n (p+1) (v hz) ?_;have:=Int.mul_le_mul_of_nonneg_left f o
    grind
 ·obtain⟨p,a,b,g,o,k,e,v,h⟩:=j s;have n:∀r,r<t.1.length->a*p9 t p q 1 c d+b*p9 t (p+1) q 1 c d<=(a+b)*p9 t r q 1 c d->∃i,i<t.1.length/\vl (J6 t s l 1)<=vl (J6 t (t.1.getD i 0) l 1):=fun r x f=>by
   refine⟨r,x,?_⟩;rw[h,y r x,vS,vS];refine JU (u p o k) (j7 e) (F r) (by omega) ?_ (.inr rfl);have:=Int.mul_le_mul_of_nonneg_right f (show 0<=c+d by omega)
   grind
  by_cases hz:b=0
  ·grind
  ·rcases Int.le_total (p9 t p q 1 c d) (p9 t (p+1) q 1 c d) with f | f
   ·refine n (p+1) (v hz) ?_;have:=Int.mul_le_mul_of_nonneg_left f o
    grind
   ·refine n p g ?_;have:=Int.mul_le_mul_of_nonneg_left f k
    grind
theorem t0b{s d:Int}(e:0<=s)(v:s<=1000000)(c:0<=d)(t:d<=301000000):∃r z,V3 s d 0=some r/\V3 s d 1=some z/\r<=z:=by
 obtain⟨i,w,u⟩:=Rt s d;have q:=J7 (A:=1000000) (B:=1000000) (x:=s) (y:=s) (by omega) (by omega) (by omega) (by omega) (by decide);have o:=J7 (A:=301000000) (B:=301000000) (x:=d) (y:=d) (by omega) (by omega) (by omega) (by omega) (by decide);have l:0<=s*s:=Int.mul_nonneg e e;have f:0<=d*d:=Int.mul_nonneg c c;obtain⟨R,h,j,g⟩:=WX (n:=250000*(s*s)+d*d) (by omega) (by omega);have b:=h.1;have k:=J7 (A:=3000000000) (B:=3000000000) (x:=R) (y:=R) (by omega) (by omega) (by omega) (by omega) (by decide);have a:∀m,V3 s d m=some (N3 (250000*(s*s)+d*d) m R):=fun m=>by
  unfold V3;rw[i,g,vS,gP ⟨oo,oo,oo,oo,oo,trivial⟩,gP ⟨rfl,trivial⟩,lE,gP ⟨(fun _=>oo),trivial⟩];unfold N3;split
  ·have:R.tdiv 500=R / 500:=Int.tdiv_eq_ediv_of_nonneg b;exact gP ⟨by decide,oo,trivial⟩
  ·rw[(U3 R 500 m (by omega) (by omega) (by decide)).1,vS,gP ⟨rfl,trivial⟩,lE]
 refine⟨_,_,a 0,a 1,?_⟩;unfold N3;rw[if_neg (by simp),DC b (by decide)]
 grind[Int.tdiv_eq_ediv_of_nonneg,Bm]
def C2(s:Int×Int):Bool:=m0 s.1 (-1000000000) 1000000000&&m0 s.2 (-1000000000) 1000000000&&decide (s.1<=s.2)
def A7(s:Int×Int):Bool:=C2 s&&m0 s.1 0 1000000&&m0 s.2 0 1000000
theorem N0m(s:Int×Int):Aa s=some (A7 s):=by
 have e:∀x,Fs x=some (m0 x (-1000000000) 1000000000):=fun _=>rfl;have a:O3 s=some (C2 s):=by
  unfold O3;rw[e,e,vS,vS];exact gP ⟨rfl,fun _=>rfl,trivial⟩
 unfold Aa;rw[a,vS,M0v,M0v,vS,vS];exact gP ⟨rfl,fun _=>rfl,fun _=>rfl,trivial⟩
theorem RA(s:Int×Int):Aa s=some (A7 s)/\Cs s=some (A7 s):=by
 refine⟨N0m s,?_⟩;unfold Cs;refine congrArg some ?_;unfold A7 C2 m0;rw[Bool.eq_iff_iff];simp only[ba,dq];omega
theorem s0z{b:j6}(e:wf l6 b)(d:p6 b=true){c:o5}(g:D3 c=true){q:Int}(a:m0 q 0 (((lV b).length:Int)-1)=true)(sp:Int×Int)(h:A7 sp=true) :
  ∃v:(Int×Int)×Int×Int,Ba (m7 b) c q sp=some v/\Fk b c ((lV b).getD q.toNat (b7 y80)) sp=some v:=by
 unfold A7 at h;rw[ba,ba] at h;have i:=y9.1 h.1.2;have f:=y9.1 h.2;have k:=y9.1 a;have j:ix q (m7 b).2.2.1.length:=⟨k.1,by show q < ((lV b).length:Int); omega⟩;obtain⟨l,X,T,_⟩:=Rv e d g a sp.1 0;obtain⟨o,W,b2,_⟩:=Rv e d g a sp.2 0;obtain⟨n,P,G,_⟩:=Rv e d g a sp.1 1;obtain⟨r,u,E,_⟩:=Rv e d g a sp.2 1;obtain⟨F,Y,t,_⟩:=Nx e d a i.1 i.2 (m:=0) (.inl rfl);obtain⟨Q,V,y,_⟩:=Nx e d a f.1 f.2 (m:=0) (.inl rfl);obtain⟨w,z,f3,_⟩:=Nx e d a i.1 i.2 (m:=1) (.inr rfl);obtain⟨s,H,x,_⟩:=Nx e d a f.1 f.2 (m:=1) (.inr rfl);refine⟨((min l o,max n r),min F Q,max w s),?_,?_⟩
 ·unfold Ba;rw[X,W,P,u];refine(gP ⟨rfl,rfl,rfl,rfl,trivial⟩).trans ?_;rw[lE];refine(gP ⟨j,trivial⟩).trans ?_;rw[lE];refine(if_neg ?_).trans ?_
  ·show ¬(decide ((0:Int)<0)&&_)=true;simp
  ·show Hh (m7 b) q sp (min l o,max n r)=_;rw[Hh,Y,V,z,H];rfl
 ·unfold Fk;rw[T,G,t,f3,b2,E,y,x];rfl
def Xi(b:j6)(c:o5)(q:Int)(sp:Int×Int)(v:(Int×Int)×Int×Int):(Int×Int)×(Int×Int)×Int :=
 if(p6 b&&D3 c)=true then(if m0 q 0 (((lV b).length:Int)-1)=true then(if A7 sp=true then(v.1,v.2,0) else((0,0),(0,0),2)) else((0,0),(0,0),4)) else((0,0),(0,0),1)
theorem q25(b:j6)(a:wf l6 b)(f:cnt l6 b<=1048576)(c:o5)(e:wf o8 c)(q:Int)(sp:Int×Int)(r:(Int×Int)×Int×Int)(d:p6 b=true->D3 c=true->m0 q 0 (((lV b).length:Int)-1)=true->A7 sp=true->Ba (m7 b) c q sp=some r):Ji b c q sp=some (Xi b c q sp r):=by
 unfold Ji Xi;rw[r36 b a f,vS,r54 c e,vS,gP ⟨rfl,(fun _=>rfl),trivial⟩];cases hb:p6 b with
 | false=>rfl
 | true =>
   cases hc':D3 c with
   | false=>rfl
   | true =>
     refine(if_neg (by simp)).trans ?_;rw[r37 b a hb,vS,gP ⟨rfl,trivial⟩,lE,r55 hb,vS,gP ⟨rfl,trivial⟩];cases h1:m0 q 0 (((lV b).length:Int)-1) with
     | false=>rfl
     | true =>
       refine(if_neg (by simp)).trans ?_;rw[N0m sp,vS,gP ⟨rfl,trivial⟩];cases h2:A7 sp with
       | false=>rfl
       | true =>
         refine(if_neg (by simp)).trans ?_;rw[d hb hc' h1 h2,vS,gP ⟨rfl,trivial⟩,lE];rfl
section
variable {b:j6}
theorem q0Y(_:p6 b=true){q:Int}(i:m0 q 0 (((lV b).length:Int)-1)=true){a:D7}{n:Nat}(h:Nv b ((lV b).getD q.toNat (b7 y80)) a n){V:Int->Int->Int}(f:NA (a.2.2.2.2.1.getD (((lV b).getD q.toNat (b7 y80)).2.1.tmod 2).toNat (b7 y70)) ((z7 b n).getD 0 0) V)(g:∀s m,V s m<=1000000){c:o5}(o:D3 c=true)(s m:Int) :
  L6 (m7 b) c q s m=some (u0 (V s m*B7 c ((lV b).getD q.toNat (b7 y80)).2.2.1 m) 1000 m):=by
 have i:=y9.1 i;have e:ix q (m7 b).2.2.1.length:=⟨i.1,by show q < ((lV b).length:Int); omega⟩;generalize hl:(lV b).getD q.toNat (b7 y80)=l at h f;have j:(m7 b).2.2.1.getD q.toNat (b7 y80)=l:=hl;have w:=f.pos s m;have v:=g s m;have z:=DE o l.2.2.1 m;have F:=J7 (A:=1000000) (B:=5000) (x:=V s m) (y:=B7 c l.2.2.1 m) (by omega) (by omega) (by omega) (by omega) (by decide);have k:=U3 (V s m*B7 c l.2.2.1 m) 1000 m (by omega) (by omega) (by decide);have d:Az (V s m) (B7 c l.2.2.1 m) m=some (u0 (V s m*B7 c l.2.2.1 m) 1000 m):=by
  unfold Az;rw[k.1,vS,gP ⟨oo,rfl,trivial⟩,lE]
 obtain⟨r,E⟩:=CH h.del h.trs;obtain⟨u,t⟩:=HW b h.nlt;unfold L6;refine(gP ⟨e,trivial⟩).trans ?_;rw[lE,j,Y8 h.pix h.net,vS,gP ⟨rfl,trivial⟩,lE];refine(if_pos (by rw[h.kind]; rfl)).trans ?_;rw[HQ h,vS,u,f.val,vS];refine(gP ⟨rfl,by decide,r,t,rfl,trivial⟩).trans ?_;rw[lE];show AA c l m (V s m)=_;rw[AA,Ny,vS,d,vS,gP ⟨rfl,rfl,trivial⟩,lE]
theorem RC(_:p6 b=true){T:List u1}(g:F9 T true=true){x:Int}(h:x=0∨x=1)(l:Int):∃V,NA (T.getD x.toNat (b7 y70)) l V/\∀s m,V s m<=1000000:=by
 obtain⟨e,f⟩:=CH g h;have a:x.toNat<T.length:=by have:=e.1; have:=e.2; omega
 obtain⟨V,c⟩:=E0h f (Rw g (G6 (d:=b7 y70) a)) l;refine⟨V,c,fun s m=>?_⟩;obtain⟨r,j,_,_,i⟩:=JS f s l m;have:=c.val s m
 grind
theorem y0c(_:wf l6 b)(i:p6 b=true){q:Int}(P:m0 q 0 (((lV b).length:Int)-1)=true){s:Int}(T:0<=s)(F:s<=1000000):∃r z,F2 (m7 b) q s 0=some r/\F2 (m7 b) q s 1=some z/\r<=z:=by
 obtain⟨x,E⟩:=Xf P;have d:ix q (m7 b).2.2.1.length:=x;have e:(lV b).getD q.toNat (b7 y80)∈lV b:=G6 E;rcases HP i e with ⟨a,n,h⟩ | ⟨n,k,h⟩
 ·obtain⟨V,o,t⟩:=RC i h.slw h.trs ((z7 b n).getD 0 0);obtain⟨v,y⟩:=CH h.slw h.trs;obtain⟨g,f⟩:=HW b h.nlt;generalize hl:(lV b).getD q.toNat (b7 y80)=l at h o v y g f;have c:(m7 b).2.2.1.getD q.toNat (b7 y80)=l:=hl;have val:∀m,F2 (m7 b) q s m=some (V s m):=fun m=>by
   unfold F2;refine(gP ⟨d,trivial⟩).trans ?_;rw[lE,c,Y8 h.pix h.net,vS,gP ⟨rfl,trivial⟩,lE];refine(if_pos (by rw[h.kind]; rfl)).trans ?_;rw[HQ h,vS,g,o.val,vS];refine(gP ⟨rfl,by decide,v,f,rfl,trivial⟩).trans ?_;rw[lE];have:=t s m;have:min (V s m) 1000000=V s m:=by omega
   rw[this]
  exact⟨_,_,val 0,val 1,o.two s⟩
 ·have Q:=Bj i h.nlt;obtain⟨dl,W⟩:=Q.delays;have u:=W (u5 b n k).toNat;obtain⟨g,f⟩:=HX b h.nlt;have H:=HK b n;have j:=h.klt;generalize hl:(lV b).getD q.toNat (b7 y80)=l at h;have c:(m7 b).2.2.1.getD q.toNat (b7 y80)=l:=hl;obtain⟨r,z,Y,X,w3⟩:=t0b T F u.1 u.2;have val:∀m r,V3 s ((A6 b n).getD (u5 b n k).toNat 0) m=some r->F2 (m7 b) q s m=some (min r 1000000):=fun m r w=>by
   unfold F2;refine(gP ⟨d,trivial⟩).trans ?_;rw[lE,c,Y8 h.pix h.net,vS,gP ⟨rfl,trivial⟩,lE];refine(if_neg (by rw[h.kind]; decide)).trans ?_;rw[g,h.idx];have G:((k:Int)).toNat=k:=rfl;rw[G,HJ j,w,vS];refine(gP ⟨f,oo,rfl,trivial⟩).trans ?_;rw[lE]
  grind
end
theorem t0a{xs:List Int}(x:Int)(h:F8 xs=true):∃p:Nat,p<xs.length/\((z8 xs x=xs.getD p 0/\O5 xs x=some ([((p:Int),1)],1)) ∨
  (p+1<xs.length/\xs.getD p 0<z8 xs x/\z8 xs x<xs.getD (p+1) 0/\O5 xs x=some ([((p:Int),xs.getD (p+1) 0-z8 xs x),((p:Int)+1,z8 xs x-xs.getD p 0)],(xs.getD (p+1) 0-z8 xs x)+(z8 xs x-xs.getD p 0)))):=by
 obtain⟨u,t⟩:=CB h;have f:((xs.length:Int)-1).toNat=xs.length-1:=by omega
 have j:xs.getD 0 0<=z8 xs x:=by
  have:xs.getD 0 0<=xs.getD (xs.length-1) 0:=by
   by_cases r:xs.length=1
   ·grind
   ·have:=CG h (by omega:0<xs.length-1) (by omega); omega
  unfold z8; omega
 have i:z8 xs x<=xs.getD (xs.length-1) 0:=by unfold z8; omega
 obtain⟨p,a,d,b⟩:=w0B h j i;by_cases g:xs.getD p 0=z8 xs x
 ·refine⟨p,a,.inl ⟨g.symm,?_⟩⟩;unfold O5;rw[gP ⟨oo,oo,oo,trivial⟩,f];change lt (z8 xs x) _=_;rw[lE,Nw (by omega) a d b,gP ⟨rfl,trivial⟩,vS,lE,if_pos (by simpa using g)]
 ·have c:z8 xs x<xs.getD p 0:=by have:=b p (Nat.le_refl _) a; omega
  have o:0<p:=by
   apply Nat.pos_of_ne_zero;intro k; subst k; omega
  obtain⟨q,rfl⟩:∃q,p=q+1:=⟨p-1,by omega⟩;have e:=d q (by omega);have s:=Nu h a;have v:=Nu h (by omega:q<xs.length);have m:(((q+1:Nat):Int))-1=(q:Int):=by omega
  have n:(((q+1:Nat):Int)).toNat=q+1:=rfl;have l:((q:Int)).toNat=q:=rfl;refine⟨q,by omega,.inr ⟨a,e,c,?_⟩⟩;unfold O5;rw[gP ⟨oo,oo,oo,trivial⟩,f];change lt (z8 xs x) _=_;rw[lE,Nw (by omega) a d b,gP ⟨rfl,trivial⟩,vS,lE,if_neg (by grind)];simp only[m,n,l];refine(gP ⟨oo,oo,oo,oo,oo,oo,oo,oo,oo,oo,trivial⟩).trans ?_;rw[lE]
  grind
theorem v0B{t:u1}(ht:C5 t=true)(hp:∀i,i<t.2.2.length->0<=t.2.2.getD i 0)(Y:∀r q,r+1<t.1.length->q<t.2.1.length->I9 t r q<=I9 t (r+1) q)(l:Int){V:Int->Int->Int}(hV:NA t l V){s o m:Int}(hm:m=0∨m=1)(hs:s<=o):V s m<=V o m:=by
 have v:F8 t.1=true/\F8 t.2.1=true:=by
  simp only[C5,ba] at ht;exact⟨ht.1.1.1,ht.1.1.2⟩
 obtain⟨q,c,d,M,hq,hM,h3,h4⟩:=HV l v.2;have u:0<=c/\0<=d/\1<=c+d/\c+d<=100000/\(d≠0->q+1<t.2.1.length):=by
  rcases hM with ⟨rfl,rfl,_⟩ | ⟨_,_,_,_,_⟩ <;> omega
 have Q:∀r,0<=p9 t r q 1 c d:=fun r=>Rx hp (by decide) u.1 u.2.1;have aA:∀r,r+1<t.1.length->p9 t r q 1 c d<=p9 t (r+1) q 1 c d:=fun r hr=>by
  unfold p9;rw[Int.mul_one,Int.mul_one,Int.mul_one,Int.mul_one];have x1:=Int.mul_le_mul_of_nonneg_right (Y r q hr hq) u.1;have x2:I9 t r (q+1)*d<=I9 t (r+1) (q+1)*d:=by
   by_cases hz:d=0
   ·rw[hz,Int.mul_zero,Int.mul_zero]; exact Int.le_refl _
   ·exact Int.mul_le_mul_of_nonneg_right (Y r (q+1) hr (u.2.2.2.2 hz)) u.2.1
  omega
 have aD:∀k r,r+k<t.1.length->p9 t r q 1 c d<=p9 t (r+k) q 1 c d:=by
  intro k
  induction k with
  | zero=>intro r _; exact Int.le_refl _
  | succ k ih =>
    intro r hr;have:=ih r (by omega);have:=aA (r+k) (by omega);rw[show r+(k+1)=r+k+1 by omega];omega
 have f:∀i j,i<=j->j<t.1.length->p9 t i q 1 c d<=p9 t j q 1 c d:=fun i j g T=>by
  have:=aD (j-i) i (by omega);rw[show i+(j-i)=j by omega] at this;exact this
 have F:∀{s:Int} {p:Nat},p<t.1.length->O5 t.1 s=some ([((p:Int),1)],1)->V s m=u0 (p9 t p q 1 c d) (c+d) m:=fun {s p} H h2=>by
  have h1:=Rz ht hp (a:=1) (b:=0) H (.inl ⟨rfl,rfl,rfl⟩) h2 hq hM h4 m;rw[hV.val] at h1;rw[Option.some.inj h1,if_pos rfl,Int.add_zero,Int.add_zero,Int.one_mul]
 have E:∀{s:Int} {p:Nat} {a b:Int},p+1<t.1.length->0<a->0<b->a+b<=100000->O5 t.1 s=some ([((p:Int),a),((p:Int)+1,b)],a+b)->V s m=u0 (a*p9 t p q 1 c d+b*p9 t (p+1) q 1 c d) ((a+b)*(c+d)) m:=fun {s p a b} H ha X aC h2=>by
  have h1:=Rz ht hp (a:=a) (b:=b) (show p<t.1.length by omega) (.inr ⟨H,ha,X,aC,rfl⟩) h2 hq hM h4 m;rw[hV.val] at h1;rw[Option.some.inj h1,if_neg (by omega),Nz t p q a,Nz t (p+1) q b]
 have j7:∀{a b:Int},1<=a+b->0 < (a+b)*(c+d):=fun h=>Int.mul_pos (by omega) (by omega);have w:∀{a b:Int} (p:Nat),0<=a->0<=b->0<=a*p9 t p q 1 c d+b*p9 t (p+1) q 1 c d:=fun p ha X=>by
  have:=Int.mul_nonneg ha (Q p);have:=Int.mul_nonneg X (Q (p+1));omega
 -- below a line, above a line
 have up:∀{a b:Int} (p i:Nat),0<a->0<b->p+1<=i->i<t.1.length->u0 (a*p9 t p q 1 c d+b*p9 t (p+1) q 1 c d) ((a+b)*(c+d)) m<=u0 (p9 t i q 1 c d) (c+d) m:=fun {a b} p i ha X y hi=>by
  refine JU (w p (by omega) (by omega)) (j7 (by omega)) (Q i) (by omega) ?_ hm;have x1:=Int.mul_le_mul_of_nonneg_left (f p i (by omega) hi) (show 0<=a by omega);have x2:=Int.mul_le_mul_of_nonneg_left (f (p+1) i y hi) (show 0<=b by omega);have x3:a*p9 t p q 1 c d+b*p9 t (p+1) q 1 c d<=(a+b)*p9 t i q 1 c d:=by rw[Int.add_mul]; omega
  have:=Int.mul_le_mul_of_nonneg_right x3 (show 0<=c+d by omega);rw[<- Int.mul_assoc,Int.mul_comm (p9 t i q 1 c d)];exact this
 have dn:∀{a b:Int} (p i:Nat),0<a->0<b->i<=p->p+1<t.1.length->u0 (p9 t i q 1 c d) (c+d) m<=u0 (a*p9 t p q 1 c d+b*p9 t (p+1) q 1 c d) ((a+b)*(c+d)) m:=fun {a b} p i ha X y hi=>by
  refine JU (Q i) (by omega) (w p (by omega) (by omega)) (j7 (by omega)) ?_ hm;have x1:=Int.mul_le_mul_of_nonneg_left (f i p y (by omega)) (show 0<=a by omega);have x2:=Int.mul_le_mul_of_nonneg_left (f i (p+1) (by omega) hi) (show 0<=b by omega);have x3:(a+b)*p9 t i q 1 c d<=a*p9 t p q 1 c d+b*p9 t (p+1) q 1 c d:=by rw[Int.add_mul]; omega
  have:=Int.mul_le_mul_of_nonneg_right x3 (show 0<=c+d by omega);rw[<- Int.mul_assoc,Int.mul_comm (p9 t i q 1 c d)];exact this
 have aF:∀i j,i<=j->j<t.1.length->u0 (p9 t i q 1 c d) (c+d) m<=u0 (p9 t j q 1 c d) (c+d) m:=fun i j g T=>JU (Q i) (by omega) (Q j) (by omega) (Int.mul_le_mul_of_nonneg_right (f i j g T) (show 0<=c+d by omega)) hm
 have hx:z8 t.1 s<=z8 t.1 o:=by unfold z8; omega
 have W:=fun {i j:Nat} (g:i<j) (T:j<t.1.length)=>CG v.1 g T;have G:∀{i j:Nat},i<=j->j<t.1.length->t.1.getD i 0<=t.1.getD j 0:=fun {i j} g T=>by
  rcases Nat.eq_or_lt_of_le g with e | e
  ·rw[e]; exact Int.le_refl _
  ·have:=W e T; omega
 obtain⟨p,p1,p2⟩:=t0a s v.1;obtain⟨n,x,aB⟩:=t0a o v.1;have P:=fun {i:Nat} (hi:i<t.1.length)=>Nu v.1 hi;rcases p2 with ⟨e1,w1⟩ | ⟨b1,b2,b3,w1⟩
 ·rw[F p1 w1];rcases aB with ⟨e2,z⟩ | ⟨c1,c2,c3,z⟩
  ·rw[F x z];refine aF p n ?_ x;rcases Nat.lt_or_ge n p with h | h
   ·have:=W h p1; omega
   ·exact h
  ·have:=P (show n<t.1.length by omega);have:=P c1;rw[E c1 (by omega) (by omega) (by omega) z];refine dn n p (by omega) (by omega) ?_ c1;rcases Nat.lt_or_ge n p with h | h
   ·have:=G (show n+1<=p by omega) p1; omega
   ·exact h
 ·have:=P (show p<t.1.length by omega);have:=P b1;rw[E b1 (by omega) (by omega) (by omega) w1];rcases aB with ⟨e2,z⟩ | ⟨c1,c2,c3,z⟩
  ·rw[F x z];refine up p n (by omega) (by omega) ?_ x;rcases Nat.lt_or_ge p n with h | h
   ·exact h
   ·have:=G h (show p<t.1.length by omega); omega
  ·have:=P (show n<t.1.length by omega);have:=P c1;rw[E c1 (by omega) (by omega) (by omega) z];rcases Nat.lt_trichotomy p n with h | h | h
   ·refine Int.le_trans (up p (p+1) (by omega) (by omega) (Nat.le_refl _) b1) ?_;exact dn n (p+1) (by omega) (by omega) (by omega) c1
   ·subst h;refine JU (w p (by omega) (by omega)) (j7 (by omega)) (w p (by omega) (by omega)) (j7 (by omega)) ?_ hm;have e1:(t.1.getD (p+1) 0-z8 t.1 s)+(z8 t.1 s-t.1.getD p 0)=(t.1.getD (p+1) 0-z8 t.1 o)+(z8 t.1 o-t.1.getD p 0):=by omega
    rw[e1];refine Int.mul_le_mul_of_nonneg_right ?_ (by have:=j7 (a:=t.1.getD (p+1) 0-z8 t.1 o) (b:=z8 t.1 o-t.1.getD p 0) (by omega); omega);obtain⟨k,hk⟩:∃k,z8 t.1 o=z8 t.1 s+k:=⟨z8 t.1 o-z8 t.1 s,by omega⟩;have x1:=Int.mul_le_mul_of_nonneg_left (aA p b1) (show 0<=k by omega);have x2:(t.1.getD (p+1) 0-z8 t.1 o)*p9 t p q 1 c d=(t.1.getD (p+1) 0-z8 t.1 s)*p9 t p q 1 c d-k*p9 t p q 1 c d:=by rw[<- Int.sub_mul]; congr 1; omega
    have x3:(z8 t.1 o-t.1.getD p 0)*p9 t (p+1) q 1 c d=(z8 t.1 s-t.1.getD p 0)*p9 t (p+1) q 1 c d+k*p9 t (p+1) q 1 c d:=by rw[<- Int.add_mul]; congr 1; omega
    omega
   ·have:=G (show n+1<=p by omega) (show p<t.1.length by omega); omega
theorem WV{a b:Int}(e:0<=a)(d:0<=b)(h:a*a<b*b):a<b:=by
 rcases Int.lt_or_le a b with c | c
 ·exact c
 ·have:=Int.mul_le_mul c c d (by omega);omega
theorem t0d{n R:Int}(h:Bl n R):n<=(500*N3 n 1 R)*(500*N3 n 1 R):=by
 obtain⟨c,g,f⟩:=h;have b:∀v,R<500*v∨(R<=500*v/\R*R=n)->n<=(500*v)*(500*v):=fun v a=>by
  rcases a with a | ⟨a,e⟩
  ·have:=Int.mul_le_mul (show R+1<=500*v by omega) (show R+1<=500*v by omega) (by omega) (by omega);omega
  ·have:=Int.mul_le_mul a a c (by omega);omega
 refine b _ ?_;unfold N3;split
 ·grind
 ·rename_i d;simp only[beq_self_eq_true,Bool.true_and,dq] at d;rw[Bm c (by decide)];omega
theorem t0c{n R w:Int}(h:Bl n R)(f:0<=w)(g:n<=(500*w)*(500*w)):N3 n 1 R<=w:=by
 obtain⟨b,i,d⟩:=h;unfold N3;split
 ·rename_i a;simp only[beq_self_eq_true,Bool.true_and,dq] at a;have:=WV b (show 0<=500*w by omega) (by omega)
  grind
 ·rename_i a;simp only[beq_self_eq_true,Bool.true_and,dq] at a;have e:R<=500*w:=by
   rcases Int.lt_or_le (500*w) R with c | c
   ·have:=Int.mul_lt_mul' (show 500*w<=R by omega) c (by omega) (by omega);omega
   ·exact c
  grind[Bm]
theorem k0K{n R:Int}(a:0<=R):0<=N3 n 1 R:=by
 grind[N3,Int.tdiv_eq_ediv_of_nonneg,Bm]
theorem o0e{n b R R' m:Int}(h:Bl n R)(a:Bl b R')(e:n<=b)(c:m=0∨m=1):N3 n m R<=N3 b m R':=by
 rcases c with rfl | rfl
 ·have d:R<=R':=by
   have:=WV h.1 (show 0<=R'+1 by have:=a.1; omega) (by have:=h.2.1; have:=a.2.2; omega);omega
  unfold N3;rw[if_neg (by simp),if_neg (by simp),DC h.1 (by decide),DC a.1 (by decide)];omega
 ·exact t0c h (k0K a.1) (by have:=t0d a; omega)
theorem r0y{s c d m:Int}(b:0<=s)(h:s<=c)(k:c<=1000000)(j:0<=d)(H:d<=301000000)(w:m=0∨m=1):∃r z,V3 s d m=some r/\V3 c d m=some z/\r<=z:=by
 have a:∀s,0<=s->s<=1000000->∃R,Bl (250000*(s*s)+d*d) R/\V3 s d m=some (N3 (250000*(s*s)+d*d) m R):=fun s b k=>by
  obtain⟨l,P,Q⟩:=Rt s d;have h:=J7 (A:=1000000) (B:=1000000) (x:=s) (y:=s) (by omega) (by omega) (by omega) (by omega) (by decide);have F:=J7 (A:=301000000) (B:=301000000) (x:=d) (y:=d) (by omega) (by omega) (by omega) (by omega) (by decide);have q:0<=s*s:=Int.mul_nonneg b b;have t:0<=d*d:=Int.mul_nonneg j j;obtain⟨R,f,o,v⟩:=WX (n:=250000*(s*s)+d*d) (by omega) (by omega);have g:=f.1;have E:=J7 (A:=3000000000) (B:=3000000000) (x:=R) (y:=R) (by omega) (by omega) (by omega) (by omega) (by decide);refine⟨R,f,?_⟩;unfold V3;rw[l,v,vS,gP ⟨oo,oo,oo,oo,oo,trivial⟩,gP ⟨rfl,trivial⟩,lE,gP ⟨(fun _=>oo),trivial⟩];unfold N3;split
  ·have:R.tdiv 500=R / 500:=Int.tdiv_eq_ediv_of_nonneg g;exact gP ⟨by decide,oo,trivial⟩
  ·rw[(U3 R 500 m (by omega) (by omega) (by decide)).1,vS,gP ⟨rfl,trivial⟩,lE]
 obtain⟨R,f,e⟩:=a s b (by omega);obtain⟨G,i,u⟩:=a c (by omega) k;refine⟨_,_,e,u,o0e f i ?_ w⟩;have:=Int.mul_le_mul h h b (by omega);omega
variable {b:j6}
theorem I0W(u:p6 b=true){c:o5}(t:D3 c=true){q:Int}(P:m0 q 0 (((lV b).length:Int)-1)=true) :
  ∃d:Int->Int->Int,(∀s m,L6 (m7 b) c q s m=some (d s m))/\∀s,d s 0<=d s 1:=by
 obtain⟨Q,X⟩:=Xf P;have j:(lV b).getD q.toNat (b7 y80)∈lV b:=G6 X;have r:=fun k=>DE t k 0;have e:∀k,B7 c k 0<=B7 c k 1:=fun k=>by
  have h:=t;unfold D3 at h;simp only[ba,dq] at h;unfold B7;have W:((0:Int)==0)=true:=rfl;have e1:((1:Int)==0)=false:=rfl;rw[W,e1];split <;> simp only[if_true,Bool.false_eq_true,if_false] <;> omega
 rcases HP u j with ⟨a,n,h⟩ | ⟨n,k,h⟩
 ·obtain⟨t1,H⟩:=CH h.del h.trs;obtain⟨E,z,_⟩:=FG H;obtain⟨V,o,F⟩:=RC u h.del h.trs ((z7 b n).getD 0 0);have g:=fun s m=>q0Y u P h o F t s m;generalize hlk:(lV b).getD q.toNat (b7 y80)=l at h o g t1 H E z;refine⟨fun s m=>u0 (V s m*B7 c l.2.2.1 m) 1000 m,g,fun s=>?_⟩;refine Xh (Int.mul_nonneg (o.pos _ _) (r _).1) ?_;exact Int.le_trans (Int.mul_le_mul_of_nonneg_right (o.two s) (r _).1) (v0n (o.pos _ _) (e _))
 ·have no:=Bj u h.nlt;obtain⟨dl,db⟩:=no.delays;have g:=db (u5 b n k).toNat;obtain⟨E,z⟩:=HX b h.nlt;have aA:=HK b n;have w:=h.klt;have Y:((k:Int)).toNat=k:=rfl;have T:=fun m=>FP (a:=(A6 b n).getD (u5 b n k).toNat 0) (b:=1000) (K:=301000) m (by decide) (by omega) (by omega);have f:=fun m=>JT (a:=(A6 b n).getD (u5 b n k).toNat 0) (b:=1000) m (by omega) (by decide);generalize hlk:(lV b).getD q.toNat (b7 y80)=l at h;have G:(m7 b).2.2.1.getD q.toNat (b7 y80)=l:=hlk;have i:∀s m,L6 (m7 b) c q s m=some (u0 (u0 ((A6 b n).getD (u5 b n k).toNat 0) 1000 m*B7 c l.2.2.1 m) 1000 m):=fun s m=>by
   have p0:=f m;have p1:=T m;have hf:=DE t l.2.2.1 m;have hp:=J7 (A:=1000000) (B:=5000) (x:=u0 ((A6 b n).getD (u5 b n k).toNat 0) 1000 m) (y:=B7 c l.2.2.1 m) (by omega) (by omega) (by omega) (by omega) (by decide);have g:=U3 (u0 ((A6 b n).getD (u5 b n k).toNat 0) 1000 m*B7 c l.2.2.1 m) 1000 m (by omega) (by omega) (by decide);have v:Az (u0 ((A6 b n).getD (u5 b n k).toNat 0) 1000 m) (B7 c l.2.2.1 m) m=some (u0 (u0 ((A6 b n).getD (u5 b n k).toNat 0) 1000 m*B7 c l.2.2.1 m) 1000 m):=by
    unfold Az;rw[g.1,vS,gP ⟨oo,rfl,trivial⟩,lE]
   unfold L6;refine(gP ⟨Q,trivial⟩).trans ?_;rw[lE,G,Y8 h.pix h.net,vS,gP ⟨rfl,trivial⟩,lE];refine(if_neg (by rw[h.kind]; decide)).trans ?_;rw[E,h.idx,Y,HJ w,(U3 _ 1000 m (by omega) (by omega) (by decide)).1,vS];refine(gP ⟨z,oo,rfl,trivial⟩).trans ?_;rw[lE];show AA c l m _=_;rw[AA,Ny,vS,v,vS,gP ⟨rfl,rfl,trivial⟩,lE]
  refine⟨fun s m=>u0 (u0 ((A6 b n).getD (u5 b n k).toNat 0) 1000 m*B7 c l.2.2.1 m) 1000 m,i,fun s=>?_⟩;refine Xh (Int.mul_nonneg (f 0) (r _).1) ?_;exact Int.le_trans (Int.mul_le_mul_of_nonneg_right (Xh g.1 (Int.le_refl _)) (r _).1) (v0n (f 1) (e _))
theorem y0d{b:j6}(F:wf l6 b)(x:p6 b=true){q:Int}(t:m0 q 0 (((lV b).length:Int)-1)=true){s m:Int}(T:0<=s)(G:s<=1000000)(P:m=0∨m=1){r:Int}(g:F2 (m7 b) q s m=some r):0<=r:=by
 have t:=y9.1 t;have d:ix q (m7 b).2.2.1.length:=⟨t.1,by show q < ((lV b).length:Int); omega⟩;generalize hl:(lV b).getD q.toNat (b7 y80)=l;have f:(m7 b).2.2.1.getD q.toNat (b7 y80)=l:=hl;have e:l∈lV b:=by rw[<- hl]; exact G6 (by omega)
 rcases HP x e with ⟨a,n,h⟩ | ⟨n,k,h⟩
 ·obtain⟨v,w⟩:=CH h.slw h.trs;obtain⟨i,y,W,Y,l4⟩:=JS w s ((z7 b n).getD 0 0) m;obtain⟨o,j⟩:=HW b h.nlt;have u:(l.2.1.tmod 2).toNat<a.2.2.2.2.2.length:=by have:=v.1; have:=v.2; omega
  have hp:=q0J w (Rw h.slw (G6 u)) s ((z7 b n).getD 0 0) m i y;have c:F2 (m7 b) q s m=some (min i 1000000):=by
   unfold F2;refine(gP ⟨d,trivial⟩).trans ?_;rw[lE,f,Y8 h.pix h.net,vS,gP ⟨rfl,trivial⟩,lE];refine(if_pos (by rw[h.kind]; rfl)).trans ?_;rw[HQ h,vS,o,y,vS];refine(gP ⟨rfl,by decide,v,j,rfl,trivial⟩).trans ?_;rw[lE]
  rw[c] at g;cases g;omega
 ·obtain⟨i,z,V,X⟩:=I0c F x h.nlt h.klt T G P;obtain⟨o,j⟩:=HX b h.nlt;have Q:=HK b n;have E:=h.klt;have c:F2 (m7 b) q s m=some (min i 1000000):=by
   unfold F2;refine(gP ⟨d,trivial⟩).trans ?_;rw[lE,f,Y8 h.pix h.net,vS,gP ⟨rfl,trivial⟩,lE];refine(if_neg (by rw[h.kind]; decide)).trans ?_;rw[o,h.idx];have H:((k:Int)).toNat=k:=rfl;rw[H,z,vS];refine(gP ⟨j,oo,rfl,trivial⟩).trans ?_;rw[lE]
  rw[c] at g;cases g;omega
section
variable {b:j6}
end
end Go.Proofs.YtdjgagoledoaaaaGreatDoor
end
section
namespace Go.Proofs.Xd
open Go.Proofs.Xl
theorem q0T{b:Type}{l:List b}{p q:b->Bool}(h:∀a∈l,p a=q a):l.find? p=l.find? q:=by
 induction l with
 | nil=>rfl
 | cons a r c =>
   grind
theorem n0C{b:Type}(l:List b)(p q r:b->Bool)(h:∀a∈l,(p a).toNat=(q a).toNat+(r a).toNat):l.countP p=l.countP q+l.countP r:=by
 induction l with
 | nil=>rfl
 | cons a t c =>
   grind
theorem s0w{b:Type}(l:List b)(p q:b->Bool)(h:∀a∈l,p a=q a):l.countP p=l.countP q:=by
 induction l with
 | nil=>rfl
 | cons a t c =>
   grind
section
variable (M N:Nat) (fr to:Nat->Nat) (lv:Nat->Bool)
def W5(out:List Nat)(v:Nat):Nat:=(List.range M).countP fun i=>lv i&&to i==v&&!out.contains (fr i)
def HY(o:List Int)(i:Nat):List Int:=o.set (to i) (o.getD (to i) 0-1)
def FQ(o:List Int)(i:Nat):List Int:=o.set (to i) (o.getD (to i) 0+1)
def JV:List Int:=((List.range M).filter lv).foldl (FQ to) (List.replicate N 0)
def NB(o:List Int)(v:Nat):List Int:=((List.range M).filter fun i=>lv i&&fr i==v).foldl (HY to) (o.set v (-1))
def CI(out:List Nat):List Int:=out.foldl (NB M fr to lv) (JV M N to lv)
def M1(out:List Nat):Option Nat:=(List.range N).find? fun v=>!out.contains v&&W5 M fr to lv out v==0
def AG:Nat->List Nat->Option (List Nat)
 | 0,out=>some out
 | k+1,out=>match M1 M N fr to lv out with
   | none=>none
   | some v=>AG k (out++[v])
theorem m0U(a:List Nat)(v:Nat):CI M N fr to lv (a++[v])=NB M fr to lv (CI M N fr to lv a) v:=by
 grind[CI]
theorem NC{o:List Int}{i v:Nat}(x:Int)(hi:i<o.length):(o.set i x).getD v 0=if v=i then x else o.getD v 0:=by
 grind
theorem E0J(a:List Nat)(o:List Int)(h:∀i∈a,to i<o.length)(v:Nat):(a.foldl (HY to) o).length=o.length/\(a.foldl (HY to) o).getD v 0=o.getD v 0-(a.countP fun i=>to i==v):=by
 induction a generalizing o with
 | nil=>simp
 | cons i r b =>
   grind[HY,NC]
theorem E0q(a:List Nat)(o:List Int)(h:∀i∈a,to i<o.length)(v:Nat):(a.foldl (FQ to) o).length=o.length/\(a.foldl (FQ to) o).getD v 0=o.getD v 0+(a.countP fun i=>to i==v):=by
 induction a generalizing o with
 | nil=>simp
 | cons i r b =>
   grind[FQ,NC]
variable {M N fr to lv}
theorem k0A(p:Nat->Bool):(List.range M).countP p<=M:=by
 grind[List.countP_le_length,List.range,List.length_range]
theorem u0X(d:∀i,i<M->to i<N)(v:Nat):(JV M N to lv).length=N/\(JV M N to lv).getD v 0=W5 M fr to lv [] v:=by
 have b:∀i∈(List.range M).filter lv,to i < (List.replicate N (0:Int)).length:=fun i hi=>by
  grind
 obtain⟨e,a⟩:=E0q to ((List.range M).filter lv) (List.replicate N 0) b v;refine⟨by grind[JV,List.length_replicate],?_⟩;rw[JV,a,List.countP_filter];have c:(List.replicate N (0:Int)).getD v 0=0:=by
  rw[gq,List.getElem?_replicate];split <;> rfl
 rw[c,Int.zero_add];congr 1;refine s0w _ _ _ (fun i _=>?_)
 grind
structure ND(M N:Nat)(fr to:Nat->Nat)(lv:Nat->Bool)(out:List Nat)(o:List Int):Prop where
 len:o.length=N
 un:∀v,v<N->v ∉ out->o.getD v 0=W5 M fr to lv out v
 li:∀v,v<N->v∈out->o.getD v 0<0
 lo:∀v,v<N -> -(1+(out.length:Int)*M)<=o.getD v 0
 hi:∀v,v<N->o.getD v 0<=M
theorem z0R{a:List Nat}{v:Nat}(b:v ∉ a)(w:Nat):W5 M fr to lv a w=((List.range M).countP fun i=>to i==w&&(lv i&&fr i==v))+W5 M fr to lv (a++[v]) w:=by
 unfold W5;refine n0C _ _ _ _ (fun i _=>?_)
 grind
theorem B0Z(a:∀i,i<M->to i<N):ND M N fr to lv [] (JV M N to lv):=by
 have h:=fun v=>u0X (fr:=fr) (lv:=lv) a v;refine⟨(h 0).1,fun v _ _=>(h v).2,fun v _ b=>(nomatch b),fun v _=>?_,fun v _=>?_⟩
 ·grind
 grind[W5,k0A]
theorem v0a(n:∀i,i<M->to i<N){a:List Nat}{o:List Int}(h:ND M N fr to lv a o){v:Nat}(s:v<N)(m:v ∉ a):ND M N fr to lv (a++[v]) (NB M fr to lv o v):=by
 have j:(o.set v (-1)).length=N:=by rw[List.length_set,h.len]
 have g:=fun w=>E0J to ((List.range M).filter fun i=>lv i&&fr i==v) (o.set v (-1)) (fun i hi=>by
  rw[List.mem_filter,List.mem_range] at hi;rw[j];exact n i hi.1) w
 have d:∀w,(NB M fr to lv o v).getD w 0=(if w=v then -1 else o.getD w 0)-((List.range M).countP fun i=>to i==w&&(lv i&&fr i==v)):=fun w=>by
  grind[NB,NC,List.countP_filter]
 have k:∀w,(((List.range M).countP fun i=>to i==w&&(lv i&&fr i==v):Nat):Int)<=M:=fun w=>by
  have:=k0A (M:=M) (fun i=>to i==w&&(lv i&&fr i==v));omega
 have c:((a++[v]).length:Int)*M=(a.length:Int)*M+M:=by
  rw[List.length_append,List.length_singleton,Int.natCast_add,Int.add_mul];simp
 have r:(0:Int)<=(a.length:Int)*M:=Int.mul_nonneg (Int.natCast_nonneg _) (Int.natCast_nonneg _);refine⟨(g 0).1.trans j,fun w b f=>?_,fun w b f=>?_,fun w b=>?_,fun w b=>?_⟩
 ·rw[d,if_neg (fun e=>f (by simp[e])),h.un w b (fun e=>f (by simp[e])),z0R m w];omega
 ·rw[d];by_cases e:w=v
  ·omega
  ·rw[if_neg e];have:=h.li w b (by
    grind)
   omega
 ·rw[d,c];have q:=k w;have l:=h.lo w b;omega
 ·rw[d];have q:=k w;have l:=h.hi w b;omega
theorem v0b{a:List Nat}{o:List Int}(h:ND M N fr to lv a o):(List.range o.length).find? (fun v=>(0:Int)==o.getD v 0)=M1 M N fr to lv a:=by
 unfold M1;rw[h.len];refine q0T (fun v c=>?_);have c:=List.mem_range.1 c;by_cases b:v∈a
 ·have e:=h.li v c b;have d:a.contains v=true:=List.contains_iff_mem.2 b;have f:((0:Int)==o.getD v 0)=false:=beq_eq_false_iff_ne.2 (by omega);rw[d,f]; rfl
 ·have e:=h.un v c b;have d:a.contains v=false:=by rw[<- Bool.not_eq_true,List.contains_iff_mem]; exact b
  rw[e,d,Bool.not_false,Bool.true_and,Bool.eq_iff_iff];simp only[beq_iff_eq];omega
theorem NE{a:List Nat}{v:Nat}(h:M1 M N fr to lv a=some v):v<N/\v ∉ a:=by
 grind[M1]
def N5(N:Nat)(out:List Nat):List Bool:=out.foldl (fun l v=>l.set v true) (List.replicate N false)
theorem JW{o:List Bool}{i v:Nat}(x:Bool)(hi:i<o.length):(o.set i x).getD v false=if v=i then x else o.getD v false:=by
 grind
theorem n0e(a:List Nat)(v:Nat):N5 N (a++[v])=(N5 N a).set v true:=by
 grind[N5]
theorem u0y(a:List Nat)(o:List Bool)(h:∀v∈a,v<o.length)(w:Nat):(a.foldl (fun l v=>l.set v true) o).length=o.length/\(a.foldl (fun l v=>l.set v true) o).getD w false=(a.contains w||o.getD w false):=by
 induction a generalizing o with
 | nil=>simp
 | cons v r b =>
   grind
theorem NF{a:List Nat}(h:∀v∈a,v<N)(w:Nat):(N5 N a).length=N/\(N5 N a).getD w false=a.contains w:=by
 obtain⟨d,b⟩:=u0y a (List.replicate N false) (fun v c=>by grind) w
 grind[List.replicate,N5]
def FR(fr to:Nat->Nat)(lv:Nat->Bool)(out:List Nat)(k:Nat)(w:List Bool):List Bool:=if(lv k&&!out.contains (fr k))=true then w.set (to k) true else w
theorem p0t(b:∀i,i<M->to i<N)(a:List Nat)(v:Nat):∀m,m<=M->(fN (FR fr to lv a) m (List.replicate N false)).length=N/\(fN (FR fr to lv a) m (List.replicate N false)).getD v false=(List.range m).any fun i=>lv i&&to i==v&&!a.contains (fr i):=by
 intro m
 induction m with
 | zero =>
   intro _;refine⟨List.length_replicate,?_⟩;show(List.replicate N false).getD v false=false
   grind
 | succ m c =>
   grind[FR,fN,List.replicate]
theorem t0h(b:∀i,i<M->to i<N){a:List Nat}(c:∀v∈a,v<N):(List.range N).find? (fun v=>!((N5 N a).getD v false||(fN (FR fr to lv a) M (List.replicate N false)).getD v false))=M1 M N fr to lv a:=by
 unfold M1;refine q0T (fun v _=>?_);rw[(NF c v).2,(p0t b a v M (Nat.le_refl _)).2,Bool.not_or]
 grind[W5]
end
inductive Rch(M:Nat)(fr to:Nat->Nat)(lv:Nat->Bool)(s:Nat):Nat->Prop
 | refl:Rch M fr to lv s s
 | step {i:Nat}:Rch M fr to lv s (fr i)->i<M->lv i=true->Rch M fr to lv s (to i)
theorem Rch.trans{M:Nat}{fr to:Nat->Nat}{lv:Nat->Bool}{a b c:Nat}(h:Rch M fr to lv a b)(k:Rch M fr to lv b c):Rch M fr to lv a c:=by
 induction k with
 | refl=>exact h
 | step _ hi d e=>exact e.step hi d
theorem Rch.one{M:Nat}{fr to:Nat->Nat}{lv:Nat->Bool}{i:Nat}(hi:i<M)(a:lv i=true):Rch M fr to lv (fr i) (to i):=Rch.refl.step hi a
theorem Rch.head{M:Nat}{fr to:Nat->Nat}{lv:Nat->Bool}{i c:Nat}(hi:i<M)(a:lv i=true)(k:Rch M fr to lv (to i) c):Rch M fr to lv (fr i) c:=(Rch.one hi a).trans k
theorem Rch.back{M:Nat}{fr to:Nat->Nat}{lv:Nat->Bool}{a b:Nat}(h:Rch M fr to lv a b):Rch M to fr lv b a:=by
 induction h with
 | refl=>exact .refl
 | step _ hi c d=>grind[Rch.head]
theorem Rch.lt{M N:Nat}{fr to:Nat->Nat}{lv:Nat->Bool}(d:∀i,i<M->to i<N){a b:Nat}(h:Rch M fr to lv a b)(c:a<N):b<N:=by
 cases h with
 | refl=>exact c
 | step _ hi _=>grind
section
variable (M N:Nat) (fr to:Nat->Nat) (lv:Nat->Bool)
def RB(s:Nat)(L:List Bool):Prop:=L.length=N/\∀v,v<N->(L.getD v false=true↔Rch M fr to lv s v)
theorem RB.uniq{M N:Nat}{fr to:Nat->Nat}{lv:Nat->Bool}{s:Nat}{L K:List Bool}(h:RB M N fr to lv s L)(k:RB M N fr to lv s K):L=K :=
 JX false (h.1.trans k.1.symm) fun i hi=>by
  have a:i<N:=by rw[<- h.1]; exact hi
  rw[Bool.eq_iff_iff,h.2 i a,k.2 i a]
structure RI(s:Nat)(r:List Bool):Prop where
 len:r.length=N
 src:r.getD s false=true
 snd:∀v,r.getD v false=true->Rch M fr to lv s v
theorem RI.done{M N:Nat}{fr to:Nat->Nat}{lv:Nat->Bool}{s:Nat}{r:List Bool}(h:RI M N fr to lv s r)(e:∀i,i<M->lv i=true->r.getD (fr i) false=true->r.getD (to i) false=true):RB M N fr to lv s r :=
 ⟨h.len,fun v a=>⟨h.snd v,fun b=>by
   clear a
   induction b with
   | refl=>exact h.src
   | step _ hi c d=>grind⟩⟩
def C6(r:List Bool):Nat:=r.countP id
theorem r0a{r:List Bool}{i:Nat}(hi:i<r.length)(h:r.getD i false=false):C6 (r.set i true)=C6 r+1:=by
 grind[List.getD_cons_zero,C6]
theorem Xj(r:List Bool):C6 r<=r.length:=List.countP_le_length
def F4(k:Nat)(s:List Bool×Bool):List Bool×Bool:=if(lv k&&s.1.getD (fr k) false&&!s.1.getD (to k) false)=true then(s.1.set (to k) true,true) else s
theorem D0D(k:∀i,i<M->to i<N){s:Nat}{r:List Bool}(h:RI M N fr to lv s r):∀m,m<=M->RI M N fr to lv s (fN (F4 fr to lv) m (r,false)).1 /\
  ((fN (F4 fr to lv) m (r,false)).2=false->(fN (F4 fr to lv) m (r,false)).1=r/\∀i,i<m->lv i=true->r.getD (fr i) false=true->r.getD (to i) false=true) /\
  ((fN (F4 fr to lv) m (r,false)).2=true->C6 r<C6 (fN (F4 fr to lv) m (r,false)).1)/\C6 r<=C6 (fN (F4 fr to lv) m (r,false)).1:=by
 intro m
 induction m with
 | zero=>intro _; exact⟨h,fun _=>⟨rfl,fun i hi=>by omega⟩,(fun h=>by cases h),Nat.le_refl _⟩
 | succ m f =>
   intro o;obtain⟨b,i2,i3,i4⟩:=f (by omega);show RI M N fr to lv s (F4 fr to lv m (fN (F4 fr to lv) m (r,false))).1/\((F4 fr to lv m (fN (F4 fr to lv) m (r,false))).2=false->(F4 fr to lv m (fN (F4 fr to lv) m (r,false))).1=r/\_)/\((F4 fr to lv m (fN (F4 fr to lv) m (r,false))).2=true->_<C6 (F4 fr to lv m (fN (F4 fr to lv) m (r,false))).1)/\_<=C6 (F4 fr to lv m (fN (F4 fr to lv) m (r,false))).1;generalize fN (F4 fr to lv) m (r,false)=q at b i2 i3 i4 ⊢;unfold F4;split
   ·rename_i d;simp only[ba,Bool.not_eq_true'] at d;obtain⟨⟨j,n⟩,l⟩:=d;have a:to m<q.1.length:=by rw[b.len]; exact k m (by omega)
    have g:=r0a a l;refine⟨⟨by rw[List.length_set,b.len],?_,fun v c=>?_⟩,(fun h=>by cases h),fun _=>by show C6 r<C6 (q.1.set (to m) true); omega,by show C6 r<=C6 (q.1.set (to m) true); omega⟩
    ·show(q.1.set (to m) true).getD s false=true;rw[JW true a];split
     ·rfl
     ·exact b.src
    ·rw[JW true a] at c;split at c
     ·rename_i e;subst e;exact(b.snd _ n).step (by omega) j
     ·exact b.snd v c
   grind
theorem p0S{ρ:Type}(n:∀i,i<M->to i<N)(r:N<=1000000){s:Nat}(m:s<N){F:(List Bool×Bool->Option ρ)->List Bool×Bool->Option ρ}{J:List Bool->Option ρ}
  (k:∀g (q:List Bool×Bool),q.1.length=N->F g q=if q.2=true then g (fN (F4 fr to lv) M (q.1,false)) else J q.1):∃L,RB M N fr to lv s L/\lp F ((List.replicate N false).set s true,true)=J L:=by
 have j:RI M N fr to lv s ((List.replicate N false).set s true):=by
  have b:s < (List.replicate N false).length:=by rw[List.length_replicate]; exact m
  refine⟨by rw[List.length_set,List.length_replicate],by rw[JW true b,if_pos rfl],fun v c=>?_⟩;rw[JW true b] at c;split at c
  ·rename_i e; subst e; exact .refl
  ·grind
 obtain⟨q,⟨_,a⟩,f,t⟩:=WU (J:=fun q:List Bool×Bool=>J q.1) (fun q=>2*(N-C6 q.1)+q.2.toNat) (fun q=>RI M N fr to lv s q.1/\(q.2=false->RB M N fr to lv s q.1)) (fun q=>q.2) (fun q=>fN (F4 fr to lv) M (q.1,false))
  (fun g q a=>k g q a.1.len) (fun q a f=>by
    obtain⟨d,i2,i3,i4⟩:=D0D M N fr to lv n a.1 M (Nat.le_refl _);refine⟨⟨d,fun h=>?_⟩,?_⟩
    ·obtain⟨e,l⟩:=i2 h;rw[e];exact a.1.done l
    ·have o:=Xj (fN (F4 fr to lv) M (q.1,false)).1;rw[d.len] at o;show 2*(N-C6 (fN (F4 fr to lv) M (q.1,false)).1)+(fN (F4 fr to lv) M (q.1,false)).2.toNat<2*(N-C6 q.1)+q.2.toNat;rw[f];cases h:(fN (F4 fr to lv) M (q.1,false)).2 with
     | true=>grind
     | false=>grind) (((List.replicate N false).set s true),true) ⟨j,fun h=>by cases h⟩ (by grind)
 grind
def S0f(r:List Bool):Nat:=(List.range M).countP fun i=>lv i&&!r.getD (fr i) false
structure QI(s:Nat)(q:List Int×List Bool):Prop where
 len:q.2.length=N
 mem:∀x∈q.1,0<=x/\x.toNat<N/\Rch M fr to lv s x.toNat
 snd:∀v,q.2.getD v false=true->Rch M fr to lv s v
 src:q.2.getD s false=true∨(s:Int)∈q.1
 cls:∀i,i<M->lv i=true->q.2.getD (fr i) false=true->q.2.getD (to i) false=true∨(to i:Int)∈q.1
 cnt:q.1.length+S0f M fr lv q.2<=M+1
theorem B0S(a:∀i,i<M->to i<N)(b:N<=1000000){s:Nat}(c:s<N):∃L,RB M N fr to lv s L:=by
 obtain⟨L,h,_⟩:=p0S (ρ:=Unit) M N fr to lv a b c (F:=fun g q=>if q.2=true then g (fN (F4 fr to lv) M (q.1,false)) else none) (J:=fun _=>none) (fun _ _ _=>rfl)
 grind
end
abbrev Sp:=Int×Int
abbrev r5:=Sp×Sp
def M3(a b:Sp):Sp:=(min a.1 b.1,max a.2 b.2)
def R5(a b:Sp):Sp:=(a.1+b.1,a.2+b.2)
def RD(o:Option r5)(x:r5):Option r5:=match o with
 | none=>some x
 | some y=>some (M3 y.1 x.1,M3 y.2 x.2)
section
variable (M:Nat) (fr to:Nat->Nat) (lv:Nat->Bool) (sp:Nat->Sp->Sp×Sp) (src:Nat->Option r5)
def DG(T:Nat->Option r5)(v k:Nat)(o:Option r5):Option r5:=if(lv k&&to k==v)=true then(match T (fr k) with
 | none=>o
 | some x=>RD o (R5 x.1 (sp k x.2).1,(sp k x.2).2)) else o
def AH(T:Nat->Option r5)(v:Nat):Option r5:=fN (DG fr to lv sp T v) M (src v)
def L0(T:Nat->Option r5)(v:Nat)(x:Option r5):Nat->Option r5:=fun w=>if w=v then x else T w
variable (ok:r5->Bool)
def DH(x:Option r5):Bool:=match x with
 | none=>true
 | some y=>ok y
def AI:List Nat->(Nat->Option r5)->Option (Nat->Option r5)
 | [],T=>some T
 | v :: r,T=>if DH ok (AH M fr to lv sp src T v)=true then AI r (L0 T v (AH M fr to lv sp src T v)) else none
end
theorem n0r{a:Type}{f g:Nat->a->a}:∀(n:Nat) (s:a),(∀i s,i<n->f i s=g i s)->fN f n s=fN g n s
 | 0,_,_=>rfl
 | n+1,s,h=>by
   show f n (fN f n s)=g n (fN g n s);rw[n0r n s (fun i s hi=>h i s (by omega)),h n _ (by omega)]
theorem Xk{a:Type}{f:Nat->a->a}(I:a->Prop):∀(n:Nat) (s:a),I s->(∀i s,i<n->I s->I (f i s))->I (fN f n s)
 | 0,_,h,_=>h
 | n+1,s,h,hs=>hs n _ (by omega) (Xk I n s h fun i s hi=>hs i s (by omega))
section
variable {M:Nat} {fr to:Nat->Nat} {lv:Nat->Bool} {sp:Nat->Sp->Sp×Sp} {src:Nat->Option r5} {ok:r5->Bool}
theorem i0k{T T':Nat->Option r5}{v:Nat}(h:∀k,k<M->lv k=true->to k=v->T (fr k)=T' (fr k)):AH M fr to lv sp src T v=AH M fr to lv sp src T' v:=by
 unfold AH;refine n0r M _ fun k s a=>?_
 grind[DG]
def JY(M:Nat)(fr to:Nat->Nat)(lv:Nat->Bool):List Nat->List Nat->Prop
 | _,[]=>True
 | d,v :: r=>(∀k,k<M->lv k=true->to k=v->fr k∈d)/\JY M fr to lv (d++[v]) r
theorem u0L{v:Nat}{r:List Nat}{T:Nat->Option r5}:AI M fr to lv sp src ok (v :: r) T=if DH ok (AH M fr to lv sp src T v)=true then AI M fr to lv sp src ok r (L0 T v (AH M fr to lv sp src T v)) else none:=rfl
theorem Xm:∀(r:List Nat) (T T':Nat->Option r5),AI M fr to lv sp src ok r T=some T'->∀w,w ∉ r->T' w=T w
 | [],T,T',h,w,_=>by cases h; rfl
 | v :: r,T,T',h,w,hw=>by
   unfold AI at h;split at h
   ·rw[List.mem_cons,not_or] at hw;rw[Xm r _ T' h w hw.2]
    grind[L0]
   grind
theorem k0i:∀(r d:List Nat) (T T':Nat->Option r5),(d++r).Nodup->JY M fr to lv d r->AI M fr to lv sp src ok r T=some T'->∀v∈r,T' v=AH M fr to lv sp src T' v/\DH ok (T' v)=true
 | [],_,_,_,_,_,_,v,hv=>by cases hv
 | u :: r,d,T,T',hd,ha,h,v,hv=>by
   have a:(d++[u]++r).Nodup:=by rw[List.append_assoc]; exact hd
   have c:=List.nodup_append.1 hd;have o:=h;unfold AI at h;split at h
   ·rename_i b;rcases List.mem_cons.1 hv with e | hv
    ·subst e;have j:v ∉ r:=(List.nodup_cons.1 c.2.1).1;have f:=Xm r _ T' h v j;have n:L0 T v (AH M fr to lv sp src T v) v=AH M fr to lv sp src T v:=if_pos rfl;rw[n] at f;rw[f];refine⟨i0k fun k m g l=>?_,b⟩;have i:=ha.1 k m g l
     grind[Xm]
    ·exact k0i r (d++[u]) _ T' a ha.2 h v hv
   grind
theorem v0g(P:r5->Prop)(i:∀v x,src v=some x->P x)(h:∀x y,P x->P y->P (M3 x.1 y.1,M3 x.2 y.2))(b:∀k x,k<M->lv k=true->P x->P (R5 x.1 (sp k x.2).1,(sp k x.2).2)){T:Nat->Option r5}(g:∀v x,T v=some x->P x)(v:Nat):∀x,AH M fr to lv sp src T v=some x->P x:=by
 unfold AH;refine Xk (fun o:Option r5=>∀x,o=some x->P x) M _ (i v) fun k o f d=>?_;unfold DG;split
 ·rename_i c;simp only[ba,beq_iff_eq] at c;cases e:T (fr k) with
  | none=>exact d
  | some y =>
    intro x a;cases o with
    | none =>
      have a:some (R5 y.1 (sp k y.2).1,(sp k y.2).2)=some x:=a;cases a;exact b k y f c.1 (g _ _ e)
    | some z =>
      have a:some (M3 z.1 (R5 y.1 (sp k y.2).1),M3 z.2 (sp k y.2).2)=some x:=a;cases a;exact h z (R5 y.1 (sp k y.2).1,(sp k y.2).2) (d z rfl) (b k y f c.1 (g _ _ e))
 omega
theorem q0f(P:r5->Prop)(d:∀v x,src v=some x->P x)(b:∀x y,P x->P y->P (M3 x.1 y.1,M3 x.2 y.2))(c:∀k x,k<M->lv k=true->P x->P (R5 x.1 (sp k x.2).1,(sp k x.2).2)):∀(r:List Nat) (T T':Nat->Option r5),(∀v x,T v=some x->P x)->AI M fr to lv sp src ok r T=some T'->∀v x,T' v=some x->P x
 | [],T,T',hT,h=>by cases h; exact hT
 | u :: r,T,T',hT,h=>by
   unfold AI at h;split at h
   ·refine q0f P d b c r _ T' (fun v x a=>?_) h;unfold L0 at a;split at a
    ·exact v0g P d b c hT u x a
    grind
   grind
def JZ(a b:Sp):Prop:=b.1<=a.1/\a.2<=b.2
def insO(x y:Option r5):Prop:=∀a,x=some a->∃c,y=some c/\JZ a.1 c.1/\JZ a.2 c.2
theorem insO.refl(x:Option r5):insO x x:=fun a h=>⟨a,h,⟨Int.le_refl _,Int.le_refl _⟩,⟨Int.le_refl _,Int.le_refl _⟩⟩
theorem insO.none(y:Option r5):insO none y:=fun _ h=>by cases h
end
end Go.Proofs.Xd
end
section
namespace Go.Proofs.YtdjgagoledoaaaaGreatDoor
open Go Go.Proofs Go.Proofs.Sv Go.Proofs.Xv Go.Proofs.Xl Go.Proofs.Xd
structure SpanV(b:j6)(c:o5)(q:Int)(dv lv:Int->Int->Int):Prop where
 del:∀s m,L6 (m7 b) c q s m=some (dv s m)
 d0:∀s m,0<=dv s m/\dv s m<=5000000
 d2:∀s,dv s 0<=dv s 1
 slw:∀s m,0<=s->s<=1000000->m=0∨m=1->F2 (m7 b) q s m=some (lv s m)/\0<=lv s m/\lv s m<=1000000
 l2:∀s,0<=s->s<=1000000->lv s 0<=lv s 1
section
variable {b:j6}
theorem H0O(o:wf l6 b)(_:cnt l6 b<=1048576)(a:p6 b=true){c:o5}(_:wf o8 c)(k:D3 c=true){q:Int}(f:m0 q 0 (((lV b).length:Int)-1)=true):∃dv lv,SpanV b c q dv lv:=by
 obtain⟨B,t⟩:=E0I a f;obtain⟨d,l,g⟩:=I0W a k f;have e:∀s m,d s m=u0 (B s m*B7 c ((lV b).getD q.toNat (b7 y80)).2.2.1 m) 1000 m:=fun s m=>by
  have u:=l s m;rw[t.val c k] at u
  grind
 refine⟨d,fun s m=>vl (F2 (m7 b) q s m),⟨l,fun s m=>?_,g,fun s m j i h=>?_,fun s j i=>?_⟩⟩
 ·rw[e];have F:=t.bd s m;have z:=DE k ((lV b).getD q.toNat (b7 y80)).2.2.1 m;have v:=Int.mul_nonneg F.1 z.1;have u:=J7 (A:=1000000) (B:=5000) (x:=B s m) (y:=B7 c ((lV b).getD q.toNat (b7 y80)).2.2.1 m) (by omega) (by omega) (by omega) (by omega) (by decide);exact⟨JT m v (by decide),(FP (K:=5000000) m (by decide) (by omega) (by omega)).2⟩
 ·obtain⟨r,n,_,E⟩:=Nx o a f j i h;have w:=y0d o a f j i h n;show _=some (vl (F2 (m7 b) q s m))/\0<=vl (F2 (m7 b) q s m)/\vl (F2 (m7 b) q s m)<=1000000;rw[n];exact⟨rfl,w,E⟩
 grind[y0c,vl,F2,m7]
def AJ(dv lv:Int->Int->Int)(sp:Sp):Sp×Sp:=((min (dv sp.1 0) (dv sp.2 0),max (dv sp.1 1) (dv sp.2 1)),min (lv sp.1 0) (lv sp.2 0),max (lv sp.1 1) (lv sp.2 1))
theorem SpanV.spans{c:o5}{q:Int}{a lv:Int->Int->Int}(h:SpanV b c q a lv)(j:m0 q 0 (((lV b).length:Int)-1)=true){sp:Sp}(e:A7 sp=true):Ba (m7 b) c q sp=some (AJ a lv sp):=by
 unfold A7 at e;rw[ba,ba] at e;have f:=y9.1 e.1.2;have d:=y9.1 e.2;have i:=y9.1 j;have g:ix q (m7 b).2.2.1.length:=⟨i.1,by show q < ((lV b).length:Int); omega⟩;unfold Ba;rw[h.del,h.del,h.del,h.del];refine(gP ⟨rfl,rfl,rfl,rfl,trivial⟩).trans ?_;rw[lE];refine(gP ⟨g,trivial⟩).trans ?_;rw[lE];refine(if_neg ?_).trans ?_
 ·show ¬(decide ((0:Int)<0)&&_)=true;simp
 ·show Hh (m7 b) q sp (min (a sp.1 0) (a sp.2 0),max (a sp.1 1) (a sp.2 1))=_;rw[Hh,(h.slw sp.1 0 f.1 f.2 (.inl rfl)).1,(h.slw sp.2 0 d.1 d.2 (.inl rfl)).1,(h.slw sp.1 1 f.1 f.2 (.inr rfl)).1,(h.slw sp.2 1 d.1 d.2 (.inr rfl)).1];rfl
theorem SpanV.ok{c:o5}{q:Int}{a lv:Int->Int->Int}(h:SpanV b c q a lv){sp:Sp}(f:A7 sp=true):0<=(AJ a lv sp).1.1/\(AJ a lv sp).1.1<=(AJ a lv sp).1.2/\(AJ a lv sp).1.2<=5000000/\A7 (AJ a lv sp).2=true:=by
 unfold A7 at f;rw[ba,ba] at f;have d:=y9.1 f.1.2;have e:=y9.1 f.2;have g:=h.d0 sp.1 0;have r:=h.d0 sp.2 0;have k:=h.d0 sp.1 1;have j:=h.d0 sp.2 1;have s:=h.d2 sp.1;have n:=(h.slw sp.1 0 d.1 d.2 (.inl rfl)).2;have i:=(h.slw sp.2 0 e.1 e.2 (.inl rfl)).2;have o:=(h.slw sp.1 1 d.1 d.2 (.inr rfl)).2;have l:=(h.slw sp.2 1 e.1 e.2 (.inr rfl)).2;have m:=h.l2 sp.1 d.1 d.2;unfold AJ;refine⟨by grind,by grind,by grind,?_⟩;unfold A7 C2;simp only[ba,dq]
 grind[y9]
def NG(t:u1):Prop:=∀r q,r+1<t.1.length->q<t.2.1.length->I9 t r q<=I9 t (r+1) q
def N0h(b:j6):Prop:=∀ce∈b.1,∀ar∈ce.2.2.2.1,(∀t∈ar.2.2.2.2.1,NG t)/\∀t∈ar.2.2.2.2.2,NG t
theorem z0V{l:w6}{a:D7}{n:Nat}(i:N0h b)(h:Nv b l a n):(∀t∈a.2.2.2.2.1,NG t)/\∀t∈a.2.2.2.2.2,NG t:=by
 have g:=h.cix;have f:=h.aix;have c:(m9 b.2.1 (u4 b.2.1 (l.2.1.tdiv 2).toNat).1.toNat).2.1.toNat<b.1.length:=by have:=g.1; have:=g.2; omega
 have e:l.2.2.2.toNat < (b.1.getD (m9 b.2.1 (u4 b.2.1 (l.2.1.tdiv 2).toNat).1.toNat).2.1.toNat (b7 y64)).2.2.2.1.length:=by have:=f.1; have:=f.2; omega
 have:=i _ (G6 (d:=b7 y64) c) _ (G6 (d:=b7 y67) e);rw[h.arc] at this;omega
theorem v0C{T:List u1}(f:F9 T true=true)(g:∀t∈T,NG t){x:Int}(j:x=0∨x=1)(l:Int){s c m:Int}(h:m=0∨m=1)(k:s<=c){V:Int->Int->Int}(i:NA (T.getD x.toNat (b7 y70)) l V):V s m<=V c m:=by
 obtain⟨e,n⟩:=CH f j;have b:x.toNat<T.length:=by have:=e.1; have:=e.2; omega
 have a:=G6 (d:=b7 y70) b;exact v0B n (Rw f a) (g _ a) l i h k
theorem SpanV.mono(_:wf l6 b)(E:p6 b=true)(hM:N0h b){c:o5}(Y:D3 c=true){q:Int}(hq:m0 q 0 (((lV b).length:Int)-1)=true){G lv:Int->Int->Int}(h:SpanV b c q G lv):(∀s s' m,s<=s'->m=0∨m=1->G s m<=G s' m)/\∀s s' m,0<=s->s<=s'->s'<=1000000->m=0∨m=1->lv s m<=lv s' m:=by
 obtain⟨x1,x2⟩:=Xf hq;have j:ix q (m7 b).2.2.1.length:=x1;have o:(lV b).getD q.toNat (b7 y80)∈lV b:=G6 x2;rcases HP E o with ⟨a,n,e⟩ | ⟨n,k,e⟩
 ·obtain⟨m1,m2⟩:=z0V hM e;obtain⟨V,hV,aG⟩:=RC E e.del e.trs ((z7 b n).getD 0 0);obtain⟨W,hW,X⟩:=RC E e.slw e.trs ((z7 b n).getD 0 0);have ed:∀s m,G s m=u0 (V s m*B7 c ((lV b).getD q.toNat (b7 y80)).2.2.1 m) 1000 m:=fun s m=>by
   have h1:=h.del s m
   grind[q0Y,Option.some.inj]
  refine⟨fun s s' m i f=>?_,fun s s' m H i F f=>?_⟩
  ·rw[ed,ed];refine w0e m (Int.mul_nonneg (hV.pos _ _) (DE Y _ _).1) ?_;exact Int.mul_le_mul_of_nonneg_right (v0C e.del m1 e.trs _ f i hV) (DE Y _ _).1
  ·have aB:=v0C e.slw m2 e.trs _ f i hW;obtain⟨t1,t2⟩:=CH e.slw e.trs;obtain⟨v,u⟩:=HW b e.nlt;have T:=(h.slw s m H (by omega) f).1;have Q:=(h.slw s' m (by omega) F f).1;generalize hll:(lV b).getD q.toNat (b7 y80)=l at e hV hW t1 t2 v u aB;have g:(m7 b).2.2.1.getD q.toNat (b7 y80)=l:=hll;have val:∀s,F2 (m7 b) q s m=some (W s m):=fun s=>by
    unfold F2;refine(gP ⟨j,trivial⟩).trans ?_;rw[lE,g,Y8 e.pix e.net,vS,gP ⟨rfl,trivial⟩,lE];refine(if_pos (by rw[e.kind]; rfl)).trans ?_;rw[HQ e,vS,v,hW.val,vS];refine(gP ⟨rfl,by decide,t1,u,rfl,trivial⟩).trans ?_;rw[lE];have:=X s m;have:min (W s m) 1000000=W s m:=by omega
    rw[this]
   grind
 ·have no:=Bj E e.nlt;obtain⟨dl,db⟩:=no.delays;have hd:=db (u5 b n k).toNat;obtain⟨v,u⟩:=HX b e.nlt;have aD:=HK b n;have t:=e.klt;have e4:((k:Int)).toNat=k:=rfl;generalize hll:(lV b).getD q.toNat (b7 y80)=l at e;have g:(m7 b).2.2.1.getD q.toNat (b7 y80)=l:=hll;refine⟨fun s s' m i f=>?_,fun s s' m H i F f=>?_⟩
  ·have h1:=h.del s m;have h2:=h.del s' m;have hv:=FP (a:=(A6 b n).getD (u5 b n k).toNat 0) (b:=1000) (K:=301000) m (by decide) (by omega) (by omega);have aF:=JT (a:=(A6 b n).getD (u5 b n k).toNat 0) (b:=1000) m (by omega) (by decide);have aC:∀s,L6 (m7 b) c q s m=some (u0 (u0 ((A6 b n).getD (u5 b n k).toNat 0) 1000 m*B7 c l.2.2.1 m) 1000 m):=fun s=>by
    have hf:=DE Y l.2.2.1 m;have hp:=J7 (A:=1000000) (B:=5000) (x:=u0 ((A6 b n).getD (u5 b n k).toNat 0) 1000 m) (y:=B7 c l.2.2.1 m) (by omega) (by omega) (by omega) (by omega) (by decide);have aA:=U3 (u0 ((A6 b n).getD (u5 b n k).toNat 0) 1000 m*B7 c l.2.2.1 m) 1000 m (by omega) (by omega) (by decide);have P:Az (u0 ((A6 b n).getD (u5 b n k).toNat 0) 1000 m) (B7 c l.2.2.1 m) m=some (u0 (u0 ((A6 b n).getD (u5 b n k).toNat 0) 1000 m*B7 c l.2.2.1 m) 1000 m):=by
     unfold Az;rw[aA.1,vS,gP ⟨oo,rfl,trivial⟩,lE]
    unfold L6;refine(gP ⟨x1,trivial⟩).trans ?_;rw[lE,g,Y8 e.pix e.net,vS,gP ⟨rfl,trivial⟩,lE];refine(if_neg (by rw[e.kind]; decide)).trans ?_;rw[v,e.idx,e4,HJ t,(U3 _ 1000 m (by omega) (by omega) (by decide)).1,vS];refine(gP ⟨u,oo,rfl,trivial⟩).trans ?_;rw[lE];show AA c l m _=_;rw[AA,Ny,vS,P,vS,gP ⟨rfl,rfl,trivial⟩,lE]
   grind
  ·obtain⟨r,z,w1,w2,w3⟩:=r0y (d:=(A6 b n).getD (u5 b n k).toNat 0) (m:=m) H i F hd.1 hd.2 f;have val:∀s r,V3 s ((A6 b n).getD (u5 b n k).toNat 0) m=some r->F2 (m7 b) q s m=some (min r 1000000):=fun s r w=>by
    unfold F2;refine(gP ⟨j,trivial⟩).trans ?_;rw[lE,g,Y8 e.pix e.net,vS,gP ⟨rfl,trivial⟩,lE];refine(if_neg (by rw[e.kind]; decide)).trans ?_;rw[v,e.idx];rw[e4,HJ t,w,vS];refine(gP ⟨u,oo,rfl,trivial⟩).trans ?_;rw[lE]
   have T:=(h.slw s m H (by omega) f).1;have Q:=(h.slw s' m (by omega) F f).1
   grind
theorem SpanV.ins{b lv:Int->Int->Int}(h:∀s a m,s<=a->m=0∨m=1->b s m<=b a m)(f:∀s a m,0<=s->s<=a->a<=1000000->m=0∨m=1->lv s m<=lv a m){s a:Sp}(g:A7 s=true)(j:A7 a=true)(hi:JZ s a):JZ (AJ b lv s).1 (AJ b lv a).1/\JZ (AJ b lv s).2 (AJ b lv a).2:=by
 have d:∀{s:Sp},A7 s=true->0<=s.1/\s.1<=s.2/\s.2<=1000000:=fun {s} g=>by
  unfold A7 C2 at g;simp only[ba,dq] at g
  grind[y9]
 obtain⟨k,i,l⟩:=d g;obtain⟨n,x,o⟩:=d j;have e:=hi.1;have c:=hi.2;have q:=h a.1 s.1 0 e (.inl rfl);have t:=h s.1 s.2 0 i (.inl rfl);have u:=h s.2 a.2 1 c (.inr rfl);have v:=h s.1 s.2 1 i (.inr rfl);have r:=f a.1 s.1 0 n e (by omega) (.inl rfl);have w:=f s.1 s.2 0 k i l (.inl rfl);have y:=f s.2 a.2 1 (by omega) c o (.inr rfl);have z:=f s.1 s.2 1 k i l (.inr rfl)
 grind[JZ,AJ]
end
end Go.Proofs.YtdjgagoledoaaaaGreatDoor
end
section
namespace Go.Proofs.Xd
open Go.Proofs.Xl
abbrev NH:=List Bool×List Sp×List Sp
def C0(N:Nat)(T:Nat->Option r5):NH:=((List.range N).map fun v=>(T v).isSome,(List.range N).map fun v=>((T v).getD ((0,0),(0,0))).1,(List.range N).map fun v=>((T v).getD ((0,0),(0,0))).2)
def K4(t:NH):Nat->Option r5:=fun v=>if t.1.getD v false=true then some (t.2.1.getD v (0,0),t.2.2.getD v (0,0)) else none
theorem Kb{a:Type}(f:Nat->a)(N:Nat)(d:a){v:Nat}(h:v<N):((List.range N).map f).getD v d=f v:=by
 grind
theorem E0d{a:Type}(f g:Nat->a)(N v:Nat)(h:∀w,w<N->w≠v->f w=g w):((List.range N).map f).set v (g v)=(List.range N).map g:=by
 refine List.ext_getElem? fun i=>?_
 grind
theorem E0K{N:Nat}{T:Nat->Option r5}{v:Nat}(h:v<N):K4 (C0 N T) v=T v:=by
 unfold K4 C0;simp only;rw[Kb _ N _ h,Kb _ N _ h,Kb _ N _ h];cases T v <;> rfl
theorem z0J{N:Nat}{T:Nat->Option r5}{v:Nat}(h:T v=none):C0 N (L0 T v none)=C0 N T:=by
 have:L0 T v none=T:=by
  funext w;unfold L0;split
  ·rename_i e; rw[e,h]
  ·rfl
 rw[this]
theorem RE{N:Nat}{T:Nat->Option r5}:(C0 N T).1.length=N/\(C0 N T).2.1.length=N/\(C0 N T).2.2.length=N:=by
 grind[C0]
def p7(s:Sp)(md:Int):Int:=if(md==0)=true then s.1 else s.2
def FT(s:Option r5)(md:Int)(y:r5):Bool:=match s with
 | none=>false
 | some s=>p7 s.1 md==p7 y.1 md
section
variable (M:Nat) (fr to:Nat->Nat) (lv:Nat->Bool) (sp:Nat->Sp->Sp×Sp) (src:Nat->Option r5) (T:Nat->Option r5) (md:Int)
def Ae(want:Int)(v k:Nat):Bool:=lv k&&to k==v&&(match T (fr k) with
 | none=>false
 | some x=>p7 x.1 md+p7 (sp k x.2).1 md==want)
def DI(v:Nat):Option (Option Nat):=match T v with
 | none=>none
 | some y=>if FT (src v) md y=true then some none
   else match(List.range M).find? (Ae fr to lv sp T md (p7 y.1 md) v) with
    | some k=>some (some k)
    | none=>none
def HZ:Nat->Nat->List Int->Option (List Int)
 | 0,_,_=>none
 | n+1,v,acc=>match DI M fr to lv sp src T md v with
   | none=>none
   | some none=>some acc
   | some (some k)=>HZ n (fr k) ((k:Int) :: acc)
def NI:List Int->Nat->Int->Nat->Prop
 | [],v,sum,z=>v=z/\sum=0
 | x :: r,v,sum,z=>∃k:Nat,∃y:r5,x=(k:Int)/\k<M/\lv k=true/\to k=v/\T (fr k)=some y/\NI r (fr k) (sum-p7 (sp k y.2).1 md) z
end
section
variable {M:Nat} {fr to:Nat->Nat} {lv:Nat->Bool} {sp:Nat->Sp->Sp×Sp} {src:Nat->Option r5} {T:Nat->Option r5} {md:Int}
theorem RF{v:Nat}{y:r5}(e:T v=some y):DI M fr to lv sp src T md v=if FT (src v) md y=true then some none else match(List.range M).find? (Ae fr to lv sp T md (p7 y.1 md) v) with
  | some k=>some (some k)
  | none=>none:=by
 grind[DI]
theorem p0r{v:Nat}(e:T v=none):DI M fr to lv sp src T md v=none:=by
 grind[DI]
theorem p0s{v k:Nat}(h:DI M fr to lv sp src T md v=some (some k)):k<M/\lv k=true/\to k=v/\∃x y,T (fr k)=some x/\T v=some y/\p7 x.1 md+p7 (sp k x.2).1 md=p7 y.1 md:=by
 cases e:T v with
 | none=>grind[p0r]
 | some y =>
   rw[RF e] at h;by_cases c:FT (src v) md y=true
   ·grind
   ·rw[if_neg c] at h;cases hf:(List.range M).find? (Ae fr to lv sp T md (p7 y.1 md) v) with
    | none=>grind
    | some a =>
      rw[hf] at h;obtain rfl:a=k:=by grind
      have d:=List.mem_range.1 (List.mem_of_find?_eq_some hf);have b:=List.find?_some hf;unfold Ae at b
      grind
theorem C0u{v:Nat}(h:DI M fr to lv sp src T md v=some none):∃s y,src v=some s/\T v=some y/\p7 s.1 md=p7 y.1 md:=by
 cases e:T v with
 | none=>grind[p0r]
 | some y =>
   rw[RF e] at h;by_cases a:FT (src v) md y=true
   ·unfold FT at a
    grind
   grind
theorem w0y:∀(n v:Nat) (acc p:List Int),HZ M fr to lv sp src T md n v acc=some p->∃q z s y,p=q++acc/\src z=some s/\T v=some y/\NI M fr to lv sp T md q.reverse v (p7 y.1 md-p7 s.1 md) z
 | 0,_,_,_,h=>by cases h
 | n+1,v,acc,p,h=>by
   unfold HZ at h;cases e:DI M fr to lv sp src T md v with
   | none=>grind
   | some w =>
     rw[e] at h;cases w with
     | none =>
       cases h;obtain⟨s,y,b,a,f⟩:=C0u e;exact⟨[],v,s,y,rfl,b,a,rfl,by omega⟩
     | some k =>
       obtain⟨b,a,f,x,y,c,i,o⟩:=p0s e;obtain⟨q,z,s,m,l,g,d,j⟩:=w0y n (fr k) ((k:Int) :: acc) p h;rw[c] at d;cases d;refine⟨q++[(k:Int)],z,s,y,by grind,g,i,?_⟩;rw[List.reverse_append,List.reverse_singleton];refine⟨k,x,rfl,b,a,f,c,?_⟩;have:p7 y.1 md-p7 s.1 md-p7 (sp k x.2).1 md=p7 x.1 md-p7 s.1 md:=by omega
       simp_all
end
abbrev M4:=Int×Sp×Sp
def BT(l:List M4):Prop:=l.Pairwise fun x y=>x.1<y.1
def H7(l:List M4)(v:Nat):Option r5:=(l.find? fun s=>s.1==(v:Int)).map fun s=>s.2
theorem Kc{l:List M4}(h:BT l){s:M4}(f:s∈l){v:Nat}(n:s.1=(v:Int)):H7 l v=some s.2:=by
 unfold H7;cases e:l.find? fun s=>s.1==(v:Int) with
 | none =>
   have:=List.find?_eq_none.1 e s f;simp[n] at this
 | some x =>
   have k:=List.find?_some e;have m:=List.mem_of_find?_eq_some e;have k:x.1=(v:Int):=by simpa using k
   obtain⟨i,hi,b⟩:=List.getElem_of_mem m;obtain⟨j,d,a⟩:=List.getElem_of_mem f;have g:=List.pairwise_iff_getElem.1 h;rcases Nat.lt_trichotomy i j with c | c | c
   ·have:=g i j hi d c;rw[b,a] at this;omega
   ·subst c;rw[b] at a;rw[a];rfl
   ·have:=g j i d hi c;rw[b,a] at this;omega
theorem x0V{l:List M4}{v:Nat}(h:∀s∈l,s.1≠(v:Int)):H7 l v=none:=by
 unfold H7;rw[List.find?_eq_none.2 fun s a=>by simpa using h s a];rfl
theorem RG{l:List M4}{v:Nat}{x:r5}(h:H7 l v=some x):∃s∈l,s.1=(v:Int)/\s.2=x:=by
 unfold H7 at h;cases e:l.find? fun s=>s.1==(v:Int) with
 | none=>rw[e] at h; cases h
 | some s =>
   rw[e] at h;cases h;exact⟨s,List.mem_of_find?_eq_some e,by simpa using List.find?_some e,rfl⟩
def DJ(l:List M4)(d:M4)(v:Nat)(i:Nat)(o:Option r5):Option r5:=if((l.getD i d).1==(v:Int))=true then some (l.getD i d).2 else o
theorem x0W{l:List M4}(h:BT l)(d:M4)(v:Nat):fN (DJ l d v) l.length none=H7 l v:=by
 have g:∀n,n<=l.length->fN (DJ l d v) n none=H7 (l.take n) v:=by
  intro n
  induction n with
  | zero=>intro _; rfl
  | succ n k =>
    intro r;have b:n<l.length:=by omega
    have o:l.getD n d=l[n]:=by rw[gq,List.getElem?_eq_getElem b]; rfl
    have hi:BT (l.take (n+1)):=h.sublist (List.take_sublist _ _);have i:l.take (n+1)=l.take n++[l[n]]:=by rw[List.take_add_one,List.getElem?_eq_getElem b]; rfl
    show DJ l d v n (fN (DJ l d v) n none)=_;rw[k (by omega)];unfold DJ;rw[o];by_cases c:(l[n].1==(v:Int))=true
    ·rw[if_pos c];exact(Kc hi (by rw[i]; exact List.mem_append_right _ (List.mem_singleton.2 rfl)) (by simpa using c)).symm
    ·rw[if_neg c];cases e:H7 (l.take n) v with
     | none =>
       refine(x0V fun s a f=>?_).symm;rw[i] at a;rcases List.mem_append.1 a with a | a
       ·have:=Kc (h.sublist (List.take_sublist n l)) a f;rw[e] at this;cases this
       ·rw[List.mem_singleton.1 a] at f;exact c (by simpa using f)
     | some x =>
       obtain⟨s,q,j,m⟩:=RG e;have:=Kc hi (by rw[i]; exact List.mem_append_left _ q) j;rw[this,m]
 have:=g l.length (Nat.le_refl _)
 rwa [List.take_of_length_le (Nat.le_refl _)] at this
end Go.Proofs.Xd
end
section
namespace Go.Proofs.YtdjgagoledoaaaaGreatDoor
open Go Go.Proofs Go.Proofs.Sv Go.Proofs.Xv Go.Proofs.Xl Go.Proofs.Xd
theorem j9{ρ:Type}{V:Prop}[Decidable V]{e:Option ρ}{P:ρ->Prop}(a:V)(h:∃r,e=some r/\P r):∃r,gd V e=some r/\P r:=by grind[gP]
theorem N6{a ρ:Type}{F:(a->Option ρ)->a->Option ρ}(b:a->Nat)(I:a->Prop){P:ρ->Prop}(i:∀g s,I s->(∀s',I s'->b s'<b s->∃r,g s'=some r/\P r)->∃r,F g s=some r/\P r){s:a}(d:I s)(j:b s<=18446744073709551616):∃r,lp F s=some r/\P r:=by
 have e:∀n s,I s->b s<n->∃r,H3 F n s=some r/\P r:=by
  intro n
  induction n with
  | zero=>omega
  | succ n f =>
    intro s d h;exact i (H3 F n) s d fun s' c k=>f s' c (by omega)
 exact e U2 s d (by grind[U2])
def Sd(s:l5):Prop:=sd s/\s.1.length<=9223372036854775807/\∀b∈s.1,0<=b/\b<=255
theorem Sd.sd{s:l5}(h:Sd s):YtdjgagoledoaaaaGreatDoor.sd s:=h.1
theorem u9{s:l5}{n:Int}(h:Sd s)(o:n<=9223372036854775807):∃v s',b9 s n=some (v,s')/\Sd s'/\0<=v/\(1<=n->v<n)/\(n<=1->v=0):=by
 obtain⟨⟨f,g,k⟩,d,c⟩:=h;have i:∀x:Int,0<=x->0<=x.tmod 2147483647/\x.tmod 2147483647<2147483647:=fun x a=>⟨Int.tmod_nonneg _ a,Int.tmod_lt_of_pos x (by omega)⟩;unfold b9;by_cases e:n<=1
 ·rw[if_pos (decide_eq_true e)];exact⟨0,_,rfl,⟨⟨f,g,k⟩,d,c⟩,by omega,by omega,fun _=>rfl⟩
 ·rw[if_neg (by grind)];by_cases j:s.2.1 < (s.1.length:Int)
  ·rw[if_pos (decide_eq_true j)];have l:0<=s.1.getD s.2.1.toNat 0/\s.1.getD s.2.1.toNat 0<=255:=by
    have b:s.2.1.toNat<s.1.length:=by omega
    rw[gq,List.getElem?_eq_getElem b];exact c _ (List.getElem_mem b)
   rw[gP ⟨⟨f,j⟩,trivial,trivial⟩,gP ⟨oo,trivial⟩];by_cases m:n<=256
   ·rw[if_pos (decide_eq_true m),gP ⟨by omega,trivial⟩];exact⟨_,_,rfl,⟨⟨by grind,g,k⟩,d,c⟩,Int.tmod_nonneg _ l.1,fun _=>Int.tmod_lt_of_pos _ (by omega),fun h=>(e h).elim⟩
   ·rw[if_neg (by grind),gP ⟨oo,oo,oo,by omega,trivial⟩,lE,gP ⟨by omega,trivial⟩];have a:=i (s.2.2*48271+s.1.getD s.2.1.toNat 0+1) (by omega);exact⟨_,_,rfl,⟨⟨by grind,a.1,a.2⟩,d,c⟩,Int.tmod_nonneg _ a.1,fun _=>Int.tmod_lt_of_pos _ (by omega),fun h=>(e h).elim⟩
  ·rw[if_neg (by grind),gP ⟨oo,oo,by omega,trivial⟩,gP ⟨by omega,by omega,trivial⟩];have a:=i (s.2.2*48271+11) (by omega);exact⟨_,_,rfl,⟨⟨f,a.1,a.2⟩,d,c⟩,Int.tmod_nonneg _ (Int.tdiv_nonneg a.1 (by omega)),fun _=>Int.tmod_lt_of_pos _ (by omega),fun h=>(e h).elim⟩
theorem w0z{s:l5}{n:Int}(h:Sd s)(l:1<=n)(F:n<=1000):∃r,Hs s n=some r/\Sd r.2/\1<=r.1.length/\r.1.length<=3:=by
 obtain⟨Q,V,w,d,T,k,_⟩:=u9 (n:=n) h (by omega);obtain⟨H,G,E,f,W,o,_⟩:=u9 (n:=3) d (by omega);have k:=k l;have o:=o (by omega);unfold Hs;simp only[w,E,vS,lE,Option.isSome_some];refine j9 ⟨trivial,trivial⟩ (j9 ⟨trivial,oo,trivial⟩ ?_);refine N6 (fun x=>x.2.1.toNat) (fun x=>Sd (x.2.2.1,x.2.2.2.1,x.2.2.2.2.1)/\0<=x.1/\x.1+1001*x.2.1<=5000/\0<=x.2.1/\1<=(x.2.2.2.2.2.length:Int)+x.2.1/\(x.2.2.2.2.2.length:Int)+x.2.1<=3) ?_ ⟨f,by omega,by grind,by grind,by grind,by grind⟩ (by grind);rintro g ⟨x,m,c,z,q,y⟩ ⟨i,i2,i3,i4,i5,i6⟩ u;simp only at i i2 i3 i4 i5 i6;unfold A0j;dsimp only;by_cases t:0<m
 ·obtain⟨v,P,e,j,a,b,_⟩:=u9 (n:=n) i (by omega);have b:=b l;simp only[e,vS,lE,Option.isSome_some];rw[if_pos (decide_eq_true t)];refine j9 ⟨⟨by grind,by grind⟩,trivial⟩ (j9 ⟨oo,trivial,oo,trivial⟩ (j9 ⟨oo,trivial⟩ ?_));exact u _ ⟨j,by omega,by grind,by grind,by grind,by grind⟩ (by grind)
 ·rw[if_neg (by grind)];exact⟨_,rfl,i,by grind,by grind⟩
def Ia(t:u1):Prop:=t.1.length<=3/\t.2.1.length<=3/\t.2.2.length<=9
theorem Ra{s:l5}{base:Int}(h:Sd s)(h1 : -1000<=base)(h2:base<=1000):∃r,FB s base=some r/\Sd r.2/\Ia r.1:=by
 obtain⟨⟨G,s0⟩,V,t,a0,W⟩:=w0z (n:=60) h (by omega) (by omega);obtain⟨⟨k,s1⟩,e1,u,a1,b1⟩:=w0z (n:=40) t (by omega) (by omega);simp only at t a0 W u a1 b1 V e1;unfold FB;simp only[V,e1,vS,lE,Option.isSome_some];refine j9 ⟨trivial,trivial⟩ (j9 ⟨trivial,trivial⟩ ?_);have X:G.length*k.length<=9:=Nat.mul_le_mul W b1;have H:((G.length:Int)*(k.length:Int))=((G.length*k.length:Nat):Int):=by simp
 refine N6 (fun x=>(10-x.1).toNat) (fun x=>Sd x.2.2/\0<=x.1/\x.1<=9/\(x.2.1.length:Int)=x.1/\∀y∈x.2.1,-2000<=y/\y<=2000+40*x.1) ?_ ⟨u,by omega,by omega,by simp,by simp⟩ (by omega);rintro g ⟨i,f,c,aC,aA⟩ ⟨T,i2,i3,i4,i5⟩ ih;simp only at T i2 i3 i4 i5;unfold A0m;dsimp only;refine j9 ⟨oo,trivial⟩ ?_;rw[H];by_cases cm:i < ((G.length*k.length:Nat):Int)
 ·rw[if_pos (decide_eq_true cm)];obtain⟨v,s',e,E,a,b,_⟩:=u9 (n:=10) T (by omega);have b:=b (by omega);simp only[e,vS,lE,Option.isSome_some];refine j9 ⟨trivial,oo,trivial⟩ (j9 ⟨by omega,trivial⟩ ?_);have l:∀j:Nat,-2000<=f.getD j 0/\f.getD j 0<=2000+40*i:=fun j=>by
   rw[gq];cases hj:f[j]? with
   | none=>grind
   | some y=>exact i5 y (List.mem_of_getElem? hj)
  -- the m step
  have m:∀(y:Int) (d:l5),Sd d -> -2000<=y->y<=2040+40*i->∃r,MA i f g (y,d.1,d.2.1,d.2.2)=some r/\Sd r.2/\Ia r.1:=by
   intro y d q y1 y2;unfold MA;dsimp only;refine j9 ⟨⟨by grind,by grind⟩,trivial⟩ (j9 ⟨oo,trivial⟩ ?_);refine ih _ ⟨q,by omega,by omega,by grind,fun z hz=>?_⟩ (by omega);rcases List.mem_append.1 hz with hz | hz
   ·grind
   ·grind
  have F:∀(y:Int) (d:l5),Sd d -> -2000<=y->y<=2040+40*i->∃r,MB i f (k,s1) g (y,d.1,d.2.1,d.2.2)=some r/\Sd r.2/\Ia r.1:=by
   intro y d q y1 y2;unfold MB;dsimp only;obtain⟨v2,P,Q,o,a3,w,_⟩:=u9 (n:=20) q (by omega);have w:=w (by omega);obtain⟨c2,a2,d2⟩:=d;simp only[Q,vS,lE,Option.isSome_some];by_cases c3:(k.length:Int)<=i
   ·rw[if_pos (decide_eq_true c3)];have:=l (i-(k.length:Int)).toNat;refine j9 ⟨oo,oo,by omega,trivial,oo,trivial⟩ ?_;exact m _ P o (by omega) (by omega)
   ·grind
  by_cases Y:0<i.tmod (k.length:Int)
  ·rw[if_pos (decide_eq_true Y)];obtain⟨v2,P,Q,o,a3,w,_⟩:=u9 (n:=20) E (by omega);have w:=w (by omega);simp only[Q,vS,Option.isSome_some];have aB:i≠0:=fun h=>by subst h; simp at Y
   have:=l (i-1).toNat;refine j9 ⟨oo,oo,by omega,trivial,oo,trivial⟩ ?_;exact F _ P o (by omega) (by omega)
  ·rw[if_neg (by grind)];exact F _ s' E (by omega) (by omega)
 ·rw[if_neg (by grind)];refine⟨_,rfl,T,by omega,by omega,by grind⟩
theorem Xn{s:l5}{base:Int}(h:Sd s)(f : -1000<=base)(c:base<=1000):∃r,Dq s base=some r/\Sd r.2/\r.1.length=2/\∀t∈r.1,Ia t:=by
 obtain⟨⟨j,m⟩,e,b,i⟩:=Ra h f c;obtain⟨⟨k,n⟩,d,a,g⟩:=Ra b f c;simp only at b i a g e d;unfold Dq;simp only[e,d,vS,lE,Option.isSome_some];refine j9 ⟨trivial,trivial⟩ (j9 ⟨trivial,trivial⟩ ⟨_,rfl,a,rfl,fun t l=>?_⟩)
 grind
def Ke(a:A9):Prop:=a.2.2.2.2.1.length<=2/\(∀t∈a.2.2.2.2.1,Ia t)/\a.2.2.2.2.2.length<=2/\∀t∈a.2.2.2.2.2,Ia t
theorem NJ{s:l5}{k x y z:Int}(h:Sd s):∃r,K7 s k x y z=some r/\Sd r.2/\Ke r.1:=by
 unfold K7;by_cases c:4<=k
 ·rw[if_pos (decide_eq_true c)];obtain⟨v,q,e,f,a,b,_⟩:=u9 (n:=10) h (by omega);have b:=b (by omega);obtain⟨⟨t,w⟩,j,d,l,i⟩:=Xn (base:=5-v) f (by omega) (by omega);simp only at d l i j;simp only[e,j,vS,lE,Option.isSome_some];refine j9 ⟨trivial,oo,trivial,trivial⟩ ⟨_,rfl,d,?_⟩;exact⟨by grind,i,by simp,by simp⟩
 ·rw[if_neg (by grind)];obtain⟨v,q,e,f,a,b,_⟩:=u9 (n:=20) h (by omega);have b:=b (by omega);obtain⟨⟨t,w⟩,j,d,l,i⟩:=Xn (base:=5+v) f (by omega) (by omega);obtain⟨⟨F,E⟩,m,g,u,o⟩:=Xn (base:=10) d (by omega) (by omega);simp only at d l i j g u o m;simp only[e,j,m,vS,lE,Option.isSome_some];refine j9 ⟨trivial,oo,trivial,trivial⟩ (j9 ⟨trivial,trivial⟩ ⟨_,rfl,g,?_⟩);exact⟨by grind,i,by grind,o⟩
theorem B0N{a:Type}{f:a->Nat}{k:Nat}:∀{xs:List a},(∀x∈xs,f x<=k)->(xs.map f).sum<=xs.length*k
 | [],_=>by simp
 | x :: r,h=>by
   have:=B0N (xs:=r) (fun y b=>h y (by grind))
   grind[List.length_cons,Nat.add_mul]
theorem CJ{e:Ty}{xs:List (j7 e)}{m k:Nat}(a:xs.length<=m)(h:∀x∈xs,cnt e x<=k):cnt (.sl e) xs<=m+m*k:=by
 rw[AK];have:=B0N h;have:=Nat.mul_le_mul_right k a;omega
theorem q9{a ρ:Type}{x:a}{f:a->Option ρ}{P:ρ->Prop}(h:∃r,f x=some r/\P r):∃r,lt x f=some r/\P r:=h
theorem u0m{t:u1}(h:Ia t):cnt y70 t<=15:=by
 obtain⟨c,a,b⟩:=h
 grind[J0,FU]
theorem w0D{a:A9}(h:Ke a):cnt y67 a<=64:=by
 obtain⟨g,c,f,d⟩:=h;show cnt (.pr (.int .i64) (.pr (.int .i64) (.pr (.int .i64) (.pr (.int .i64) (.pr (.sl y70) (.sl y70)))))) a<=64;have i:=CJ (e:=y70) g (fun t b=>u0m (c t b));have j:=CJ (e:=y70) f (fun t b=>u0m (d t b))
 grind[J0,FV]
theorem y0e{c:m6}{m p:Nat}(o:m<=3)(n:p<m)(k:c.2.2.2.2.1.length=2 ^ m):∃r,ME c (p:Int)=some r/\True:=by
 have d:∀m,m<4->∀p,p<m->∀j,j<8->j<2 ^ m->(j &&& 2 ^ p)=0->j+2 ^ p<2 ^ m:=by decide
 have h:((1:Int)*(2:j7 i64) ^ ((p:Int)).toNat)=((2 ^ p:Nat):Int):=by
  show(1:Int)*(2:Int) ^ p=_;simp
 have q:2 ^ p<=4:=(Nat.pow_le_pow_right (by omega) (by omega):2 ^ p<=2 ^ 2);have f:2 ^ m<=8:=(Nat.pow_le_pow_right (by omega) o:2 ^ m<=2 ^ 3);have d:=d m (by omega) p n;generalize 2 ^ p=P at d h q;generalize 2 ^ m=M at d k f;unfold ME;refine j9 ⟨oo,⟨oo,?_⟩,trivial⟩ ?_
 ·have e:((1:Int)*(2:Int) ^ ((p:Int)).toNat)=(P:Int):=h;rw[e];exact oo
 refine N6 (fun x=>(9-x.2.2).toNat) (fun x=>∃j:Nat,x.2.2=(j:Int)/\j<=8) ?_ ⟨0,rfl,by omega⟩ (by grind);rintro g ⟨a,b,i⟩ ⟨j,hi,u⟩ l;simp only at hi;subst hi;unfold A0C;dsimp only;rw[k];by_cases s:(j:Int) < (M:Int)
 ·rw[if_pos (decide_eq_true s)];generalize hBB:((1:Int)*(2:j7 i64) ^ ((p:Int)).toNat)=B;rw[h] at hBB;subst hBB;refine j9 ⟨oo,trivial⟩ ?_;have nx:∀a b,∃r,MD (j:Int) g (a,b)=some r/\True:=fun a b=>by
   unfold MD;dsimp only;exact j9 ⟨oo,trivial⟩ (l _ ⟨j+1,by grind,by omega⟩ (by grind))
  by_cases t:(j &&& P)=0
  ·have:=d j (by omega) (by omega) t;rw[if_neg (by simp_all)];refine j9 ⟨fun _=>oo,fun _=>oo,fun _=>oo,trivial⟩ (j9 ⟨fun _=>oo,fun _=>oo,fun _=>oo,trivial⟩ ?_);exact nx _ _
  ·rw[if_pos (by simp_all)];exact nx _ _
 ·rw[if_neg (by grind)];unfold Vx;dsimp only
  repeat' split
  all_goals exact⟨_,rfl,trivial⟩
def NK(c:m6):Prop:=cnt y64 c<=300
theorem y0N:∀k:Nat,(([ByteArray.mk #[97],ByteArray.mk #[98],ByteArray.mk #[99],ByteArray.mk #[100]]:List ByteArray).getD k (b7 Ty.str)).size<=1
 | 0 | 1 | 2 | 3=>by decide
 | n+4=>by
   simp[b7];exact Nat.zero_le _
theorem z0y{s:l5}{nm:ByteArray}{tr:List Int}{k:Nat}{pins:List H9}{v1 t:Int}{T W:l5}(hn:nm.size<=8)(g:k<=3)(X:tr.length=2 ^ k)(hp:pins.length=k)(i1:Sd s)(i2:∀p∈pins,cnt y233 p<=3):∃r,QB nm tr (v1,T) (t,W) (pins,s.1,s.2.1,s.2.2)=some r/\Sd r.2/\NK r.1:=by
 have aB:2 ^ k<=8:=(Nat.pow_le_pow_right (by omega) g:2 ^ k<=2 ^ 3);unfold QB;refine j9 ⟨⟨by grind,by grind⟩,trivial⟩ ?_;refine q9 ?_;dsimp only;have o:cnt (.sl y233) (pins++[(ByteArray.mk #[(121:UInt8)],(2:Int),(0:Int),false)])<=4+4*3:=CJ (by grind) (fun p a=>by
  rcases List.mem_append.1 a with a | a
  ·grind
  ·rw[List.mem_singleton.1 a];show cnt (.pr .str (.pr (.int .i64) (.pr (.int .i64) .bool))) _<=3;simp only[J0,FV,Xo,FW];decide)
 refine N6 (fun x=>(5-x.1).toNat) (fun x=>∃j:Nat,x.1=(j:Int)/\j<=k/\x.2.1.length<=j/\Sd x.2.2/\∀q∈x.2.1,Ke q) ?_ ⟨0,rfl,by omega,by simp,i1,by simp⟩ (by omega);rintro V ⟨i',h,c',Y,aA⟩ ⟨j,F,H,j1,i,u⟩ n;simp only at F j1 i u;subst F;unfold A0R;dsimp only;rw[hp];by_cases c2:(j:Int) < (k:Int)
 ·rw[if_pos (decide_eq_true c2)];obtain⟨w,ew,-⟩:=y0e (c:=(nm,(1:Int),pins++[(ByteArray.mk #[(121:UInt8)],(2:Int),(0:Int),false)],[],tr,v1,t)) g (p:=j) (m:=k) (by omega) X;rw[ew];refine j9 ⟨rfl,trivial⟩ (q9 ?_);rw[vS];have nx:∀(d:List A9) (f:l5),Sd f->d.length<=j+1->(∀q∈d,Ke q)->∃r,MF (j:Int) V (d,f.1,f.2.1,f.2.2)=some r/\Sd r.2/\NK r.1:=fun d f P Q l=>by
   unfold MF;dsimp only;exact j9 ⟨oo,trivial⟩ (n _ ⟨j+1,by omega,by omega,Q,P,l⟩ (by omega))
  by_cases c3:w != 0
  ·rw[if_pos c3];obtain⟨⟨q,G⟩,v,e,E⟩:=NJ (k:=1) (x:=(j:Int)) (y:=(k:Int)) (z:=w) i;simp only at e E v;rw[v];refine j9 ⟨rfl,⟨by grind,by grind⟩,trivial⟩ (q9 (nx _ G e (by grind) fun q' b=>?_));rcases List.mem_append.1 b with b | b
   ·grind
   ·rw[List.mem_singleton.1 b]; exact E
  grind
 ·rw[if_neg (by grind)];unfold Vy;refine⟨_,rfl,i,?_⟩;have ha:cnt (.sl y67) h<=4+4*64:=CJ (by omega) (fun q l=>w0D (u q l));show cnt (.pr .str (.pr (.int .i64) (.pr (.sl y233) (.pr (.sl y67) (.pr (.sl (.int .i64)) (.pr (.int .i64) (.int .i64))))))) _<=300
  grind[J0,FV,FW,FU]
theorem NL{s:l5}{nm:ByteArray}{tr:List Int}{m:Nat}(h:Sd s)(W:nm.size<=8)(G:1<=m/\m<=3)(X:tr.length=2 ^ m):∃r,C4 s nm tr=some r/\Sd r.2/\NK r.1:=by
 have F:2 ^ m<=8:=(Nat.pow_le_pow_right (by omega) G.2:2 ^ m<=2 ^ 3);obtain⟨v1,s1,e1,u,-,-,-⟩:=u9 (n:=50) h (by omega);obtain⟨v2,s2,e2,y,-,-,-⟩:=u9 (n:=80) u (by omega);unfold C4;refine q9 ?_;dsimp only;simp only[e1,e2,vS,Option.isSome_some];refine j9 ⟨trivial,trivial,trivial⟩ (q9 ?_);dsimp only;refine N6 (fun x=>(16-x.1).toNat) (fun x=>∃k,k<=m/\x.1=((2 ^ k:Nat):Int)/\x.2.1.length=k/\Sd x.2.2/\∀p∈x.2.1,cnt y233 p<=3) ?_ ⟨0,by omega,rfl,rfl,y,by simp⟩ (by omega);rintro g ⟨i,pins,c,z,t⟩ ⟨k,Y,hi,H,w,i2⟩ P;simp only at hi H w i2;unfold A0S;dsimp only;subst hi;rw[X];have j:2 ^ k<=2 ^ m:=Nat.pow_le_pow_right (by omega) Y;have o:0<2 ^ k:=Nat.pos_of_ne_zero (by simp);have l:2 ^ (k+1)=2*2 ^ k:=by rw[Nat.pow_succ]; omega
 have d:k<m->2 ^ (k+1)<=2 ^ m:=fun h=>Nat.pow_le_pow_right (by omega) h;have V:((2 ^ k:Nat):Int)=((2 ^ k:Nat):Int):=rfl;generalize hK2:2 ^ k=K2 at j o l ⊢;generalize hM2:2 ^ m=M2 at j F d ⊢;by_cases Q:(K2:Int) < (M2:Int)
 ·rw[if_pos (decide_eq_true Q)];have f:k<m:=by
   rcases Nat.lt_or_ge k m with q | q
   ·exact q
   ·grind
  obtain⟨v,s',e,E,a,b,-⟩:=u9 (n:=9) w (by omega);have b:=b (by omega);simp only[e,vS,lE,Option.isSome_some];refine j9 ⟨⟨by omega,by grind⟩,by grind,trivial,oo,⟨by grind,by grind⟩,trivial⟩ (j9 ⟨oo,trivial⟩ ?_);refine P _ ⟨k+1,by omega,by omega,by grind,E,fun p T=>?_⟩ (by omega)
  grind[List.mem_singleton,J0,FV,Xo,FW,y0N]
 ·rw[if_neg (by grind)];have f:k=m:=by
   rcases Nat.lt_or_ge k m with q | q
   ·omega
   ·omega
  subst f;exact z0y (s:=(c,z,t)) W G.2 (by omega) H w i2
theorem Xp{s:l5}{nm:ByteArray}{k e:Int}(h:Sd s)(hn:nm.size<=8):∃r,Dr s nm k e=some r/\Sd r.2/\NK (r.1.1,r.1.2.1,r.1.2.2.1,r.1.2.2.2.1,[],r.1.2.2.2.2):=by
 obtain⟨v1,s1,e1,m,-,-,-⟩:=u9 (n:=50) h (by omega);obtain⟨Y,s2,e2,v,-,-,-⟩:=u9 (n:=80) m (by omega);obtain⟨v3,s3,X,t,a3,F,-⟩:=u9 (n:=9) v (by omega);obtain⟨P,s4,e4,l,a4,E,-⟩:=u9 (n:=9) t (by omega);have F:=F (by omega);have E:=E (by omega);obtain⟨⟨W,s5⟩,G,i,a5⟩:=NJ (k:=e) (x:=1) (y:=2) (z:=0) l;simp only at i a5 G;obtain⟨⟨q6,s6⟩,w,j,a6⟩:=NJ (k:=4) (x:=1) (y:=0) (z:=0) i;simp only at j a6 w;obtain⟨⟨Q,s7⟩,H,b,a7⟩:=NJ (k:=5) (x:=1) (y:=0) (z:=0) j;simp only at b a7 H;obtain⟨⟨q8,s8⟩,e8,d,a8⟩:=NJ (k:=1) (x:=0) (y:=2) (z:=1) b;simp only at d a8 e8;unfold Dr;simp only[lE,e1,e2,X,e4,G,w,H,e8,vS,Option.isSome_some];refine j9 ⟨trivial,trivial,trivial⟩ (j9 ⟨trivial,oo,trivial,oo,trivial⟩ (j9 ⟨trivial,trivial,trivial,trivial⟩ ?_));have f:∀(a:List A9) (g:l5),Sd g->a.length<=4->(∀q∈a,Ke q)->∃r,MC nm k [(ByteArray.mk #[(100:UInt8)],(1:Int),(1:Int)+v3,false),(ByteArray.mk #[(99:UInt8),(107:UInt8)],(1:Int),(1:Int)+P,true),(ByteArray.mk #[(113:UInt8)],(2:Int),(0:Int),false)] (v1,s1) (Y,s2) (a,g.1,g.2.1,g.2.2)=some r/\Sd r.2/\NK (r.1.1,r.1.2.1,r.1.2.2.1,r.1.2.2.2.1,[],r.1.2.2.2.2):=fun a g h9 V u=>by
  unfold MC;refine⟨_,rfl,h9,?_⟩;have ha:cnt (.sl y67) a<=4+4*64:=CJ V (fun q o=>w0D (u q o));show cnt (.pr .str (.pr (.int .i64) (.pr (.sl y233) (.pr (.sl y67) (.pr (.sl (.int .i64)) (.pr (.int .i64) (.int .i64))))))) _<=300;have hp:∀x y:Int,cnt (.sl y233) [(ByteArray.mk #[(100:UInt8)],(1:Int),x,false),(ByteArray.mk #[(99:UInt8),(107:UInt8)],(1:Int),y,true),(ByteArray.mk #[(113:UInt8)],(2:Int),(0:Int),false)]<=10:=fun x y=>by
   rw[AK];simp only[List.map_cons,List.map_nil,List.sum_cons,List.sum_nil,List.length_cons,List.length_nil];show _+(cnt (.pr .str (.pr (.int .i64) (.pr (.int .i64) .bool))) _+(cnt (.pr .str (.pr (.int .i64) (.pr (.int .i64) .bool))) _+(cnt (.pr .str (.pr (.int .i64) (.pr (.int .i64) .bool))) _+0)))<=10;simp only[J0,FV,Xo,FW];decide
  grind[J0,FV,FW,FU,List.length_nil]
 have T:∀q∈[W,q6,Q],Ke q:=fun q u=>by
  grind
 by_cases c:(k==3)=true
 ·rw[if_pos c];refine j9 ⟨trivial,⟨by simp,by simp⟩,trivial⟩ (f _ s8 d (by simp) fun q u=>?_)
  grind
 ·rw[if_neg c];exact f _ s7 b (by simp) T
theorem I0r{s:l5}(h:Sd s):∃r,MG s=some r/\Sd r.2/\cnt (.sl y64) r.1<=2408:=by
 obtain⟨⟨V,s1⟩,G,v,F⟩:=NL (nm:=ByteArray.mk #[105,110,118]) (tr:=[1,0]) (m:=1) h (by decide) (by decide) rfl;simp only at v F G;obtain⟨⟨c2,s2⟩,E,a,P⟩:=NL (nm:=ByteArray.mk #[98,117,102]) (tr:=[0,1]) (m:=1) v (by decide) (by decide) rfl;simp only at a P E;obtain⟨⟨c3,W⟩,o,d,q⟩:=NL (nm:=ByteArray.mk #[110,97,110,100]) (tr:=[1,1,1,0]) (m:=2) a (by decide) (by decide) rfl;simp only at d q o;obtain⟨⟨c4,T⟩,x,y,f⟩:=NL (nm:=ByteArray.mk #[120,111,114]) (tr:=[0,1,1,0]) (m:=2) d (by decide) (by decide) rfl;simp only at y f x;obtain⟨⟨X,s5⟩,z,t,Q⟩:=NL (nm:=ByteArray.mk #[109,117,120]) (tr:=[0,1,0,1,0,0,1,1]) (m:=3) y (by decide) (by decide) rfl;simp only at t Q z;obtain⟨⟨c6,s6⟩,n,w,u⟩:=Xp (nm:=ByteArray.mk #[102,108,111,112]) (k:=2) (e:=2) t (by decide);simp only at w u n;obtain⟨⟨Y,s7⟩,H,g,j⟩:=Xp (nm:=ByteArray.mk #[102,108,111,112,110]) (k:=2) (e:=3) w (by decide);simp only at g j H;obtain⟨⟨c8,s8⟩,e8,b,l⟩:=Xp (nm:=ByteArray.mk #[108,97,116,99,104]) (k:=3) (e:=2) g (by decide);simp only at b l e8;unfold MG;simp only[lE,G,E,o,x,z,n,H,e8,vS,Option.isSome_some];refine j9 ⟨trivial,trivial,trivial⟩ (j9 ⟨trivial,trivial,trivial⟩ (j9 ⟨trivial,trivial,trivial⟩ (j9 ⟨trivial,trivial,trivial⟩ (j9 ⟨trivial,trivial,trivial⟩ (j9 ⟨trivial,trivial⟩ (j9 ⟨trivial,trivial⟩ (j9 ⟨trivial,trivial⟩ ⟨_,rfl,b,?_⟩)))))));refine Nat.le_trans (CJ (m:=8) (k:=300) (by simp) fun c i=>?_) (by decide);simp only[List.mem_cons,List.not_mem_nil,or_false] at i;rcases i with rfl | rfl | rfl | rfl | rfl | rfl | rfl | rfl
 ·exact F
 ·exact P
 ·exact q
 ·exact f
 ·exact Q
 ·exact u
 ·exact j
 ·exact l
theorem N7{e:Option Unit}(h:∃r,e=some r/\True):e=some ():=by
 grind
theorem Bn{s:l5}(a:wf m4 s)(h:sd s):Sd s:=⟨h,a.1.1,fun b c=>a.1.2 b c⟩
theorem v0d:∀(m:Nat) (n:Int),0<=n->n<10 ^ m->1<=m/\m<=40->∃r,Ju m n=some r/\r.size<=m
 | 0,n,h0,h1,a=>by omega
 | m+1,n,h0,h1,hm=>by
   show ∃r,QC (Ju m) n=some r/\r.size<=m+1;unfold QC;rw[if_neg (by grind)];have a:0<=n.tmod 10/\n.tmod 10<10:=⟨Int.tmod_nonneg _ h0,Int.tmod_lt_of_pos _ (by omega)⟩;by_cases c:n<10
   ·rw[if_pos (decide_eq_true c)];refine j9 ⟨oo,trivial,by simp,trivial⟩ ⟨_,rfl,?_⟩
    grind[strOfNums_size]
   ·rw[if_neg (by simpa using c)];have d:n.tdiv 10<10 ^ m:=by
     rw[Int.tdiv_eq_ediv_of_nonneg h0];have:(10:Int) ^ (m+1)=10*10 ^ m:=by rw[Int.pow_succ]; omega
     omega
    have b:1<=m:=by
     rcases Nat.eq_zero_or_pos m with h | h
     ·grind
     ·exact h
    obtain⟨r,e,f⟩:=v0d m (n.tdiv 10) (Int.tdiv_nonneg h0 (by omega)) d (by omega);rw[e];refine j9 ⟨by omega,rfl,by omega,oo,trivial,by simp,?_,trivial⟩ (q9 ⟨_,rfl,?_⟩)
    ·grind[vS,strOfNums_size]
    grind[vS,ByteArray.size_append,strOfNums_size]
theorem C0c{n:Int}(a:0<=n)(b:n<1000):∃r,CA n=some r/\r.size<=25 :=
 v0d 25 n a (by omega) (by omega)
theorem Xq{xs:List Int}(h:xs.length<=1000):J9 xs=some xs:=by
 unfold J9;rw[gP ⟨oo,trivial⟩];rfl
def Xr(d:r6):Prop:=(d.1.length<=6/\∀i∈d.1,i.2.2.length<=4)/\d.2.2.length<=5
theorem E0F{d:r6}(h:Xr d):∃r,I5 d=some r/\r.length<=29:=by
 obtain⟨⟨w,o⟩,v⟩:=h;unfold I5;refine N6 (fun x=>(7-x.1).toNat) (fun x=>0<=x.1/\x.1<=6/\(x.2.length:Int)<=4*x.1) ?_ ⟨by omega,by omega,by simp⟩ (by omega);rintro g ⟨i,t⟩ ⟨n,i2,i3⟩ q;simp only at n i2 i3;unfold TP;dsimp only;by_cases c:i < (d.1.length:Int)
 ·rw[if_pos (decide_eq_true c)];refine j9 ⟨⟨n,c⟩,trivial⟩ (q9 ?_);have f:i.toNat<d.1.length:=by omega
  have s:(d.1.getD i.toNat (b7 y139)).2.2.length<=4:=by
   rw[gq,List.getElem?_eq_getElem f];exact o _ (List.getElem_mem f)
  generalize d.1.getD i.toNat (b7 y139)=x at s;refine N6 (fun x=>(5-x.1).toNat) (fun y=>0<=y.1/\y.1<=4/\(y.2.length:Int)<=4*i+y.1) ?_ ⟨by simp only; omega,by simp only; omega,by simp only; omega⟩ (by simp only; omega);rintro u ⟨k,j⟩ ⟨e,m,l⟩ a;simp only at e m l;unfold TO;dsimp only;by_cases b:k < (x.2.2.length:Int)
  ·rw[if_pos (decide_eq_true b)];refine j9 ⟨⟨e,b⟩,oo,⟨by grind,by grind⟩,trivial⟩ (q9 ?_);dsimp only;exact j9 ⟨oo,trivial⟩ (a _ ⟨by omega,by omega,by grind⟩ (by omega))
  ·rw[if_neg (by grind)];unfold OY;exact j9 ⟨oo,trivial⟩ (q _ ⟨by omega,by omega,by grind⟩ (by omega))
 ·rw[if_neg (by grind)];unfold IM;refine N6 (fun x=>(6-x.1).toNat) (fun y=>0<=y.1/\y.1<=5/\(y.2.length:Int)<=24+y.1) ?_ ⟨by omega,by omega,by grind⟩ (by omega);rintro u ⟨k,j⟩ ⟨e,m,l⟩ a;simp only at e m l;unfold TN;dsimp only;by_cases b:k < (d.2.2.length:Int)
  ·rw[if_pos (decide_eq_true b)];refine j9 ⟨⟨e,b⟩,⟨e,b⟩,⟨by grind,by grind⟩,trivial⟩ (q9 ?_);dsimp only;exact j9 ⟨oo,trivial⟩ (a _ ⟨by omega,by omega,by grind⟩ (by omega))
  ·rw[if_neg (by grind)];exact⟨_,rfl,by omega⟩
theorem H0P{d:r6}{t:Int}(h:Xr d):∃r,S7 d t=some r/\r.length<=29:=by
 obtain⟨p,e,l⟩:=E0F h;unfold S7;rw[e];refine j9 ⟨rfl,trivial⟩ (q9 ?_);rw[vS];refine N6 (fun x=>(30-x.1).toNat) (fun x=>0<=x.1/\x.1<=29/\(x.2.length:Int)<=x.1) ?_ ⟨by omega,by omega,by simp⟩ (by omega);rintro g ⟨i,k⟩ ⟨a,i2,i3⟩ f;simp only at a i2 i3;unfold TQ;dsimp only;by_cases c:i < (p.length:Int)
 ·rw[if_pos (decide_eq_true c)];refine j9 ⟨⟨a,c⟩,by omega,fun _=>⟨a,c⟩,fun _=>by omega,trivial⟩ ?_;have nx:∀b:List Int,(b.length:Int)<=i+1->∃r,IN i g b=some r/\r.length<=29:=fun b j=>by
   unfold IN;exact j9 ⟨oo,trivial⟩ (f _ ⟨by omega,by omega,j⟩ (by omega))
  split
  ·exact j9 ⟨⟨by grind,by grind⟩,trivial⟩ (nx _ (by grind))
  grind
 ·rw[if_neg (by grind)];exact⟨_,rfl,by omega⟩
section
variable [Alw]
theorem C0x{s:l5}{n:Int}(h:Sd s)(F:0<=n)(h1:n<=40):QL s n=some ():=by
 refine N7 ?_;obtain⟨r,s0,z,d,a0,b0,-⟩:=u9 (n:=6) h (by omega);obtain⟨v1,s1,e1,e,a1,t,-⟩:=u9 (n:=4) d (by omega);have t:=t (by omega);have G:MH n r=some ([-1],[0],[r],List.replicate n.toNat 0):=by
  unfold MH;rw[gP ⟨⟨F,rfl,by omega,by omega⟩,trivial⟩]
 unfold QL;simp only[z,G,vS,Option.isSome_some];refine j9 ⟨trivial,trivial,trivial⟩ (q9 ?_);dsimp only;simp only[e1,vS,Option.isSome_some];refine j9 ⟨trivial,trivial⟩ (q9 ?_);refine N6 (fun x=>x.1.toNat) (fun x=>Sd (x.2.1,x.2.2.1,x.2.2.2.1)/\0<=x.1/\(1<=x.2.2.2.2.1.length/\(x.2.2.2.2.1.length:Int)+x.1<=4)/\(1<=x.2.2.2.2.2.1.length/\(x.2.2.2.2.2.1.length:Int)+x.1<=4)/\1<=x.2.2.2.2.2.2.length/\(x.2.2.2.2.2.2.length:Int)+x.1<=4) ?_ ⟨e,by omega,⟨by simp,by grind⟩,⟨by simp,by grind⟩,by simp,by grind⟩ (by omega);rintro g ⟨m,c,aA,v,P,R,C⟩ ⟨k,i2,⟨i3,i4⟩,⟨i5,i6⟩,i7,i8⟩ y;simp only at k i2 i3 i4 i5 i6 i7 i8;unfold B0A;dsimp only;by_cases w:0<m
 ·rw[if_pos (decide_eq_true w)];obtain⟨v2,s2,Y,l,-,-,-⟩:=u9 (n:=(P.length:Int)) k (by omega);obtain⟨v3,s3,H,f,-,-,-⟩:=u9 (n:=400) l (by omega);obtain⟨v4,s4,V,a,-,-,-⟩:=u9 (n:=8) f (by omega);rw[Xq (xs:=P) (by omega),Xq (xs:=R) (by omega),Xq (xs:=C) (by omega)];simp only[Y,H,V,vS,Option.isSome_some];refine j9 ⟨trivial,trivial,⟨by grind,by grind⟩,trivial,trivial,⟨by grind,by grind⟩,trivial,trivial,⟨by grind,by grind⟩,trivial⟩ (q9 ?_);dsimp only;exact j9 ⟨oo,trivial⟩ (y _ ⟨a,by omega,⟨by simp,by grind⟩,⟨by simp,by grind⟩,by simp,by grind⟩ (by omega))
 ·rw[if_neg (by grind)];unfold VN;refine N6 (fun x=>(41-x.1).toNat) (fun x=>Sd (x.2.1,x.2.2.1,x.2.2.2.1)/\0<=x.1/\x.1<=40/\x.2.2.2.2.length=n.toNat) ?_ ⟨k,by omega,by omega,by simp⟩ (by omega);rintro g2 ⟨i,c',X,aB,Q⟩ ⟨b,q,E,T⟩ o;simp only at b q E T;unfold B0z;dsimp only;by_cases u:i < (Q.length:Int)
  ·rw[if_pos (decide_eq_true u)];obtain⟨v5,s5,W,j,-,-,-⟩:=u9 (n:=(P.length:Int)) b (by omega);simp only[W,vS,Option.isSome_some];refine j9 ⟨trivial,⟨q,u⟩,by omega,trivial⟩ (q9 ?_);exact j9 ⟨oo,trivial⟩ (o _ ⟨j,by omega,by omega,by grind⟩ (by omega))
  ·rw[if_neg (by grind)];unfold VM;refine j9 ⟨b.1,i3,i5,i7,?_⟩ ⟨_,rfl,trivial⟩
   grind[J0,FU]
end
theorem r0u{e:Ty}(a:∀x y,w8 e x y->cnt e y=cnt e x):∀{xs ys:List (j7 e)},AllS (w8 e) xs ys->(ys.map (cnt e)).sum=(xs.map (cnt e)).sum
 | [],_,h=>by rw[show _=[] from h]
 | x :: r,_,⟨y,r',e1,h1,h2⟩=>by
   subst e1;simp only[List.map_cons,List.sum_cons];rw[a x y h1,r0u a h2]
theorem Ib:∀(t:Ty) (x y:j7 t),w8 t x y->cnt t y=cnt t x
 | .int _,_,_,_=>by grind[cnt]
 | .bool,_,_,h=>by rw[show _=_ from h]
 | .str,_,_,h=>by rw[show _=_ from h]
 | .sl e,x,y,h=>by
   rw[AK,AK,AllS.len h,r0u (Ib e) h]
 | .pt e,x,y,h=>by
   show cnt e y=cnt e x;exact Ib e x y h
 | .pr a b,x,y,h=>by
   rw[J0,J0,Ib a x.1 y.1 h.1,Ib b x.2 y.2 h.2]
theorem Af[Alw]{a:Type}{p:a->Prop}{f:a->Option Unit}(h:∀z,p z->f z=some ()):∃r,Alw.alp p f=some r/\True:=⟨(),Alw.alp_u h,trivial⟩
theorem E0S:∀j:Nat,0<=([(0:Int),1,2,2,3,4,5,5,5,6,7,1]).getD j 0/\([(0:Int),1,2,2,3,4,5,5,5,6,7,1]).getD j 0<=7
 | 0 | 1 | 2 | 3 | 4 | 5 | 6 | 7 | 8 | 9 | 10 | 11=>by decide
 | n+12=>by simp
theorem I0e:∀j:Nat,j<8->2<=([(2:Int),2,3,3,4,3,3,3]).getD j 0/\([(2:Int),2,3,3,4,3,3,3]).getD j 0<=4
 | 0,_ | 1,_ | 2,_ | 3,_ | 4,_ | 5,_ | 6,_ | 7,_=>by decide
 | n+8,h=>by omega
def Bo(x:o4):Prop:=1<=x.2.2.length/\x.2.2.length<=4/\x.1.size<=26
theorem E0o{x:o4}(h:Bo x):cnt y139 x<=30:=by
 obtain⟨c,a,b⟩:=h
 grind[J0,FW,FV,FU]
theorem E0n{x y:o4}(h:w8 y139 x y)(c:Bo x):Bo y:=by
 obtain⟨b,d,a⟩:=h;obtain⟨f,g,e⟩:=c;have a:y.2.2.length=x.2.2.length:=AllS.len a;have b:y.1=x.1:=b;exact⟨by omega,by omega,by grind⟩
section
variable [Alw]
abbrev RH:List r8:=[(ByteArray.mk #[(99:UInt8),(107:UInt8)],(1:Int),(0:Int)),(ByteArray.mk #[(97:UInt8)],(1:Int),(1:Int)),(ByteArray.mk #[(98:UInt8)],(1:Int),(2:Int))]
theorem n0A{c:List o4}{a:List ByteArray}{b:List r8}{s:l5}(h:Sd s)(j:c.length<=6)(f:∀x∈c,Bo x)(l:3<=a.length/\a.length<=9)(n:∀x∈a,x.size<=26)(g:1<=b.length/\b.length<=5)(q:∀p∈b,p.1.size<=2) :
  ∃r,MQ c a (b,s.1,s.2.1,s.2.2)=some r/\True:=by
 unfold MQ;refine j9 ⟨h.1,⟨j,fun i hi=>(f i hi).2.1⟩,⟨by grind,by grind⟩,g,?_⟩ ⟨_,rfl,trivial⟩;have m:=CJ (e:=y139) j (fun x d=>E0o (f x d));have t:=CJ (e:=.str) l.2 (fun x d=>(by grind[FW]:cnt .str x<=26));have o:=CJ (e:=y202) g.2 (k:=2) (fun x d=>by
  grind[J0,FW,FV])
 grind[J0]
theorem z0O{f a b:List o4}{c u:List ByteArray}{G:List r8}{s:l5}(h:Sd s)(m:f.length<=6)(k:∀x∈f,Bo x)(l:3<=c.length/\c.length<=9)(o:∀x∈c,x.size<=26) :
  ∃r,QM c RH (s.1,s.2.1,s.2.2,f,a,b,u,G)=some r/\True:=by
 unfold QM;refine j9 ⟨⟨by simp,by simp⟩,trivial⟩ (j9 ⟨oo,⟨by simp,by simp⟩,trivial⟩ (q9 ?_));dsimp only;obtain⟨v,y,e,g,-,-,-⟩:=u9 (n:=2) h (by omega);obtain⟨w,z,E,j,P,q,-⟩:=u9 (n:=(c.length:Int)-1) g (by omega);have q:=q (by omega);obtain⟨H,F,t⟩:=s;simp only[e,vS,Option.isSome_some];refine j9 ⟨trivial,trivial⟩ (q9 ?_);dsimp only;have i:∀p∈([]++RH++[(ByteArray.mk #[(121:UInt8)],(2:Int),(c.length:Int)-1)]:List r8),p.1.size<=2:=fun p i=>by
  simp only[RH,List.nil_append,List.cons_append,List.mem_cons,List.not_mem_nil,or_false] at i;rcases i with rfl | rfl | rfl | rfl
  ·decide
  ·decide
  ·decide
  ·exact(by decide:(ByteArray.mk #[(121:UInt8)]).size<=2)
 split
 ·simp only[E,vS,Option.isSome_some];refine j9 ⟨oo,trivial,oo,⟨by simp,by simp⟩,trivial⟩ (q9 ?_);dsimp only;refine n0A (s:=z) j m k l o (by simp) (fun p d=>?_);rcases List.mem_append.1 d with d | d
  ·grind
  ·rw[List.mem_singleton.1 d];exact(by decide:(ByteArray.mk #[(122:UInt8)]).size<=2)
 ·exact n0A (s:=y) g m k l o (by simp) i
theorem z0P{t a b:List o4}{d n2:List ByteArray}{p2:List r8}{s:l5}{E:Bool}(h:Sd s)(h1:t.length<=6)(h2:∀x∈t,Bo x)(h3:3<=d.length/\d.length<=9)(h4:∀x∈d,x.size<=26) :
  ∃r,QN E RH (s.1,s.2.1,s.2.2,d,t,a,b,n2,p2)=some r/\True:=by
 unfold QN;refine N6 (fun x=>(7-x.1).toNat) (fun x=>Sd (x.2.1,x.2.2.1,x.2.2.2.1)/\0<=x.1/\x.1<=6/\x.2.2.2.2.1.length<=6/\∀y∈x.2.2.2.2.1,Bo y) ?_ ⟨h,by omega,by omega,h1,h2⟩ (by omega);rintro g ⟨i,c,Y,T,f,a2,b2,n3,p3⟩ ⟨X,i2,i3,i4,i5⟩ ih;simp only at X i2 i3 i4 i5;unfold B0B;dsimp only;by_cases Q:i < (f.length:Int)
 ·rw[if_pos (decide_eq_true Q)];obtain⟨v,s1,e,z,-,-,-⟩:=u9 (n:=4) X (by omega);obtain⟨w,s2,e2,o,wa,wb,-⟩:=u9 (n:=(d.length:Int)-1) z (by omega);have wb:=wb (by omega);have j:i.toNat<f.length:=by omega
  simp only[e,vS,Option.isSome_some];refine j9 ⟨trivial,fun _=>⟨i2,Q⟩,fun _=>j,fun _=>⟨i2,Q⟩,fun _=>j,trivial⟩ (q9 ?_);dsimp only;have nx:∀(u:l5) (k a3 b3:List o4) (n4:List ByteArray) (p4:List r8),Sd u->k.length<=6->(∀y∈k,Bo y)->∃r,MR i g (u.1,u.2.1,u.2.2,k,a3,b3,n4,p4)=some r/\True:=fun u k a3 b3 n4 p4 q1 q2 q3=>by
   unfold MR;exact j9 ⟨oo,trivial⟩ (ih _ ⟨q1,by omega,by omega,q2,q3⟩ (by omega))
  split
  ·simp only[e2,vS,Option.isSome_some];have V:Bo (f.getD i.toNat (b7 y139)):=by
    rw[gq,List.getElem?_eq_getElem j];exact i5 _ (List.getElem_mem j)
   have:=V.1;refine j9 ⟨⟨i2,Q⟩,j,oo,trivial,oo,oo,trivial⟩ (Af ?_);rintro⟨aD,aB,m,aC,l,F,P,G,H⟩ ⟨-,-,k3,-,k5,-⟩;dsimp only;refine N7 (j9 trivial ?_);have hw:wf (.sl (.int .u8)) m:=k3.2 ⟨o.2.1,fun b W=>o.2.2 b W⟩;have hl:l.length=f.length:=AllS.len k5;refine nx (m,s2.2.1,s2.2.2) l F P G H ⟨o.1,hw.1,fun b W=>hw.2 b W⟩ (by omega) ?_;exact AllS.all (p:=Bo) (q:=Bo) (fun x y aA hx=>E0n aA hx) k5 i5
  ·exact nx s1 f a2 b2 n3 p3 z i4 i5
 ·rw[if_neg (by grind)];exact z0O (s:=(c,Y,T)) X i4 i5 h3 h4
theorem I0F{s:l5}{a:Int}{j:Bool}(h:Sd s)(h0:2<=a)(h1:a<=6):QO s a j=some ():=by
 refine N7 ?_;unfold QO;refine q9 ?_;refine q9 ?_;obtain⟨v,s0,e0,o,a0,Q,-⟩:=u9 (n:=a-1) h (by omega);have Q:=Q (by omega);simp only[e0,vS,Option.isSome_some];refine j9 ⟨⟨by simp,by simp⟩,trivial⟩ (j9 ⟨oo,trivial,oo,trivial⟩ (q9 ?_));refine N6 (fun x=>x.1.toNat) (fun x=>Sd (x.2.1,x.2.2.1,x.2.2.2.1)/\0<=x.1/\(x.2.2.2.2.2.1.length:Int)+x.1<=6/\3<=x.2.2.2.2.1.length/\(x.2.2.2.2.1.length:Int)+x.1<=9/\(∀y∈x.2.2.2.2.2.1,Bo y)/\∀y∈x.2.2.2.2.1,y.size<=26) ?_
  ⟨o,by omega,by grind,by simp,by grind,by simp,by
    intro y e;simp only[List.nil_append,List.mem_cons,List.not_mem_nil,or_false] at e;rcases e with rfl | rfl | rfl <;> decide⟩ (by omega)
 rintro g ⟨m,c,z,l,f,E,a1,a2,a3,a4⟩ ⟨w,i2,i3,i4,i5,i6,i7⟩ ih;simp only at w i2 i3 i4 i5 i6 i7;unfold B0D;dsimp only;by_cases cm:0<m
 ·rw[if_pos (decide_eq_true cm)];obtain⟨V,s1,e1,t,q1,q2,-⟩:=u9 (n:=12) w (by omega);have q2:=q2 (by omega);simp only[e1,vS,Option.isSome_some];refine j9 ⟨trivial,oo,by simp; omega,trivial⟩ (q9 ?_);dsimp only;have hc:=E0S V.toNat;generalize ([(0:Int),1,2,2,3,4,5,5,5,6,7,1]).getD V.toNat 0=cell at hc ⊢;obtain⟨nm,e2,aD⟩:=C0c (n:=(E.length:Int)) (by omega) (by omega);obtain⟨aF,e3,X⟩:=C0c (n:=(f.length:Int)) (by omega) (by omega);rw[e2]
  refine j9 ⟨rfl,by rw[vS]; have:(ByteArray.mk #[117]).size=1:=rfl
                    omega,trivial⟩ (q9 ?_)
  rw[vS];have aC:=I0e cell.toNat (by omega);refine N6 (fun x=>(5-x.1).toNat) (fun x=>Sd (x.2.2.1,x.2.2.2.1,x.2.2.2.2)/\0<=x.1/\x.1<=3/\(x.2.1.length:Int)=x.1) ?_ ⟨t,by omega,by omega,by simp⟩ (by omega);rintro T ⟨k,xn,c2,aB,aA⟩ ⟨q,k2,k3,k4⟩ F;simp only at q k2 k3 k4;unfold B0C;dsimp only;refine j9 ⟨⟨by omega,by grind⟩,by grind,oo,trivial⟩ ?_;by_cases ck:k < ([(2:Int),2,3,3,4,3,3,3]).getD cell.toNat 0-1
  ·rw[if_pos (decide_eq_true ck)];obtain⟨v3,s3,e4,u,w1,P,-⟩:=u9 (n:=(f.length:Int)-1) q (by omega);have P:=P (by omega);obtain⟨v4,H,e5,i,-,-,-⟩:=u9 (n:=3) u (by omega);simp only[e4,vS,Option.isSome_some];refine j9 ⟨oo,trivial,oo,trivial⟩ (q9 ?_);dsimp only;simp only[e5,vS,Option.isSome_some];refine j9 ⟨trivial,trivial⟩ (q9 ?_);dsimp only;have W:∀(x:Int) (b:l5),Sd b->∃r,MS k xn b.1 b.2.1 b.2.2 T x=some r/\True:=fun x b d=>by
    unfold MS;exact j9 ⟨oo,⟨by grind,by grind⟩,trivial⟩ (j9 ⟨oo,trivial⟩ (F _ ⟨d,by omega,by omega,by grind⟩ (by omega)))
   have G:∀(x:Int) (b:l5),Sd b->∃r,MT k xn cell T (b.1,b.2.1,b.2.2,x)=some r/\True:=fun x b d=>by
    unfold MT;dsimp only;split
    ·exact W _ b d
    ·exact W _ b d
   split
   ·exact j9 ⟨oo,trivial⟩ (G _ H i)
   ·exact G _ H i
  ·rw[if_neg (by grind)];unfold VS;dsimp only;refine j9 ⟨oo,⟨by grind,by grind⟩,trivial⟩ ?_;rw[e3];have hu:(ByteArray.mk #[110]).size=1:=rfl;refine j9 ⟨rfl,by grind[vS],⟨by grind,by grind⟩,trivial⟩ (q9 ?_);rw[vS];refine j9 ⟨⟨by grind,by grind⟩,trivial⟩ (q9 ?_);dsimp only;unfold VR;dsimp only;refine j9 ⟨oo,trivial⟩ (ih _ ⟨q,by omega,by grind,by grind,by grind,fun y e=>?_,fun y e=>?_⟩ (by omega))
   ·rcases List.mem_append.1 e with e | e
    ·grind
    ·rw[List.mem_singleton.1 e];exact⟨by simp,by grind,by
      have Y:(ByteArray.mk #[117]).size=1:=rfl;rw[ByteArray.size_append]; omega⟩
   grind
 ·rw[if_neg (by grind)];exact z0P (s:=(c,z,l)) w (by omega) i6 ⟨i4,by omega⟩ i7
end
theorem O0w{s:l5}{k:Int}(h:sd s)(a:0<=k)(b:k<=40):MO (s,k,()):=⟨h,a,b⟩
theorem RJ{s:l5}{k:Int}{b:Bool}(h:sd s)(a:2<=k)(e:k<=6):FD (s,k,b,()):=⟨h,a,e⟩
theorem u0n{a:Type}{f:a->Nat}{y d:a}:∀{xs:List a} {i:Nat},i<xs.length->((xs.set i y).map f).sum+f (xs.getD i d)=(xs.map f).sum+f y
 | x :: r,0,_=>by grind
 | x :: r,i+1,h=>by
   have:=u0n (f:=f) (y:=y) (d:=d) (xs:=r) (i:=i) (by grind);simp only[List.set_cons_succ,List.map_cons,List.sum_cons,List.getD_cons_succ];omega
theorem E0G{d a:r6}(e:w8 (.sl y139) d.1 a.1)(b:w8 (.sl .str) d.2.1 a.2.1)(c:w8 (.sl y202) d.2.2 a.2.2):cnt y31 a=cnt y31 d :=
 Ib (.pr (.sl y139) (.pr (.sl .str) (.sl y202))) d a ⟨e,b,c⟩
theorem E0x{c:List Int}(d:wf (.sl (.int .u8)) c):∃s,Hk c=some s/\Sd s:=by
 unfold Hk;refine N6 (fun x=>(65-x.1).toNat) (fun x=>0<=x.1/\x.1<=64/\0<=x.2/\x.2<2147483647) ?_ ⟨by omega,by omega,by omega,by omega⟩ (by omega);rintro g ⟨i,x⟩ ⟨f,i2,i3,i4⟩ j;simp only at f i2 i3 i4;unfold H0f;dsimp only;split
 ·rename_i h;simp only[ba,dq] at h;have a:i.toNat<c.length:=by omega
  have e:0<=c.getD i.toNat 0/\c.getD i.toNat 0<=255:=by
   rw[gq,List.getElem?_eq_getElem a];exact d.2 _ (List.getElem_mem a)
  refine j9 ⟨oo,⟨f,h.1⟩,trivial,oo,by omega,trivial⟩ (j9 ⟨oo,trivial⟩ ?_);exact j _ ⟨by omega,by omega,Int.tmod_nonneg _ (by omega),Int.tmod_lt_of_pos _ (by omega)⟩ (by omega)
 ·exact⟨_,rfl,⟨⟨by grind,i3,i4⟩,d.1,fun b e=>d.2 b e⟩⟩
section
variable [Alw]
def N0G(w:x9):Prop:=(1<=w.1.length/\1<=w.2.1.length/\1<=w.2.2.1.length)/\cnt l9 w<=60
theorem I0R{s:l5}{a:Int}{j:Bool}(h:Sd s)(W:2<=a)(h1:a<=6):QP s a j=some ():=by
 refine N7 ?_;obtain⟨⟨l,s0⟩,u,f,V⟩:=I0r h;simp only at f V u;unfold QP;simp only[u,vS,Option.isSome_some];refine j9 ⟨trivial,trivial⟩ (q9 ?_);refine j9 ⟨trivial,f.1,W,h1⟩ (Af ?_);rintro⟨d,s1⟩ ⟨⟨t1,⟨Q,T⟩,⟨t4,t5⟩,⟨r,F⟩,t8⟩,-,hz⟩;have o:Sd s1:=Bn hz t1;have y:Xr d:=⟨⟨Q,T⟩,F⟩;refine N7 (j9 trivial ?_);refine N6 (fun x=>(21-x.1).toNat) (fun x=>Sd (x.2.2.1,x.2.2.2.1,x.2.2.2.2)/\0<=x.1/\x.1<=20/\(x.2.1.length:Int)=x.1/\∀w∈x.2.1,N0G w) ?_ ⟨o,by omega,by omega,by simp,by simp⟩ (by omega);rintro g ⟨i,G,c,aA,v⟩ ⟨q,i2,i3,i4,i5⟩ z;simp only at q i2 i3 i4 i5 t4 t5 r t8;unfold G0H;dsimp only;by_cases E:i < (d.2.1.length:Int)
 ·rw[if_pos (decide_eq_true E)];obtain⟨k,e1,hk⟩:=H0P (t:=i) y;simp only[e1,vS,Option.isSome_some];refine j9 ⟨⟨trivial,trivial⟩,O0w q.1 (by omega) (by omega)⟩ (Af ?_);rintro⟨w,s2⟩ ⟨⟨X,P,Y,H,w5⟩,-,n⟩;refine N7 (j9 ⟨⟨by grind,by grind⟩,trivial⟩ (j9 ⟨oo,trivial⟩ (q9 ?_)));refine z _ ⟨Bn n X,by omega,by omega,by grind,fun x b=>?_⟩ (by omega);rcases List.mem_append.1 b with b | b
  ·grind
  ·rw[List.mem_singleton.1 b];exact⟨⟨P,Y,H⟩,w5⟩
 ·rw[if_neg (by grind)];unfold VU;have hw:=CJ (e:=l9) (m:=20) (k:=60) (xs:=G) (by omega) (fun x b=>(i5 x b).2);refine j9 ⟨q.1,by grind,fun x b=>(i5 x b).1,r,?_⟩ ⟨_,rfl,trivial⟩
  grind[J0]
theorem RL{s:l5}{a:List x9}{d:r6}{l:List m6}(h:Sd s)(b:cnt (.sl y64) l+(cnt y31 d+cnt (.sl l9) a)<=20000) :
  ∃r,BJ (s.1,s.2.1,s.2.2,a,d.1,d.2.1,d.2.2,l)=some r/\True:=by
 unfold BJ;refine j9 ⟨h.1,?_⟩ ⟨_,rfl,trivial⟩
 grind[J0]
theorem I0Y{s:l5}(h:Sd s):QR s=some ():=by
 refine N7 ?_;obtain⟨v,s0,e0,aJ,-,-,-⟩:=u9 (n:=3) h (by omega);unfold QR;simp only[e0,vS,Option.isSome_some];refine j9 ⟨⟨trivial,trivial⟩,RJ aJ.1 (by omega) (by omega)⟩ (Af ?_);rintro⟨⟨l,d,c⟩,s1⟩ ⟨⟨t1,t2,t3,t4,t5⟩,-,hz⟩;have aQ:Sd s1:=Bn hz t1;simp only at t2 t3 t4 t5;refine N7 (j9 trivial ?_);have bC:c.length<=9223372036854775807:=by
  have G:cnt (.pr (.sl y64) (.pr y31 (.sl l9))) (l,d,c)<=10000:=t5;rw[J0,J0,AK (e:=l9)] at G;simp only at G;omega
 have hc:cnt (.sl y64) l+(cnt y31 d+cnt (.sl l9) c)<=10000:=by
  have G:cnt (.pr (.sl y64) (.pr y31 (.sl l9))) (l,d,c)<=10000:=t5;rw[J0,J0] at G;exact G
 obtain⟨k,s2,e2,aO,V,kb,-⟩:=u9 (n:=(c.length:Int)) aQ (by omega);have kb:=kb (by omega);obtain⟨q,X,e3,j,-,-,-⟩:=u9 (n:=20) aO (by omega);have aH:b9 (P0 ((l,d,c),s1)) (c.length:Int)=some (k,s2):=e2;dsimp only;simp only[aH,vS,Option.isSome_some];refine j9 ⟨trivial,trivial⟩ (q9 ?_);dsimp only;simp only[e3,vS,Option.isSome_some];refine j9 ⟨trivial,trivial⟩ (q9 ?_);dsimp only;have i:k.toNat<c.length:=by omega
 have bB:1<=(c.getD k.toNat (b7 l9)).1.length/\1<=(c.getD k.toNat (b7 l9)).2.1.length/\1<=(c.getD k.toNat (b7 l9)).2.2.1.length:=by
  rw[gq,List.getElem?_eq_getElem i];exact t3 _ (List.getElem_mem i)
 have Y:cnt l9 (c.getD k.toNat (b7 l9))<=10000:=by
  have:=C0o (t:=l9) (d:=b7 l9) i;rw[AK (e:=l9)] at hc;omega
 -- a number deep in the data has turned
 have Q:∀(P:l5) (c4:List Int) (T:r6) (w4:List x9) (l4:List m6),Sd P->wf (.sl (.int .u8)) c4->w8 (.sl y139) d.1 T.1->w8 (.sl .str) d.2.1 T.2.1->w8 (.sl y202) d.2.2 T.2.2->w8 (.sl l9) c w4->w8 (.sl y64) l l4 ->
   ∃r,BJ (c4,P.2.1,P.2.2,w4,T.1,T.2.1,T.2.2,l4)=some r/\True:=fun P c4 T w4 l4 q1 q2 q3 q4 q5 q6 q7 =>
  RL (s:=(c4,P.2.1,P.2.2)) ⟨q1.1,q2.1,fun b hb=>q2.2 b hb⟩ (by rw[Ib _ _ _ q7,E0G q3 q4 q5,Ib _ _ _ q6]; omega)
 have H:∀{P:l5},Sd P->wf (.sl (.int .u8)) P.1:=fun q=>⟨q.2.1,fun b hb=>q.2.2 b hb⟩;split
 ·refine j9 ⟨⟨by omega,by omega,by omega⟩,trivial⟩ ?_;refine RL (s:=X) (d:=d) j ?_;have:cnt (.sl l9) (List.drop (Int.toNat (1:Int)) c)<=cnt (.sl l9) c:=by
   cases c with
   | nil=>simp
   | cons x r =>
     rw[AK,AK];simp only[show Int.toNat (1:Int)=1 from rfl,List.drop_succ_cons,List.drop_zero,List.map_cons,List.sum_cons,List.length_cons];omega
  omega
 split
 ·have bJ:(c.getD k.toNat (b7 l9)).2.2.2.length<=10000:=by
   have G:cnt (.pr (.sl (.int .i64)) (.pr (.sl (.int .i64)) (.pr (.sl (.int .i64)) (.sl (.int .i64))))) (c.getD k.toNat (b7 l9))<=10000:=Y;rw[J0,J0,J0] at G;simp only[FU] at G;omega
  have aL:J9 (c.getD k.toNat (b7 l9)).2.2.2=some (c.getD k.toNat (b7 l9)).2.2.2:=by
   unfold J9;rw[gP ⟨oo,trivial⟩];rfl
  simp only[aL,vS,Option.isSome_some];refine j9 ⟨⟨⟨V,by omega⟩,i,trivial,⟨by rw[List.length_singleton]; omega,by rw[List.length_singleton]; omega⟩,⟨V,by omega⟩,trivial⟩,i,trivial⟩ ?_;refine RL (s:=X) (d:=d) j ?_;have aA:=u0n (f:=cnt l9) (d:=b7 l9) (y:=((c.getD k.toNat (b7 l9)).1,(c.getD k.toNat (b7 l9)).2.1,(c.getD k.toNat (b7 l9)).2.2.1,(c.getD k.toNat (b7 l9)).2.2.2++[0])) i;have W:cnt l9 ((c.getD k.toNat (b7 l9)).1,(c.getD k.toNat (b7 l9)).2.1,(c.getD k.toNat (b7 l9)).2.2.1,(c.getD k.toNat (b7 l9)).2.2.2++[0])=cnt l9 (c.getD k.toNat (b7 l9))+1:=by
   generalize c.getD k.toNat (b7 l9)=w;show cnt (.pr (.sl (.int .i64)) (.pr (.sl (.int .i64)) (.pr (.sl (.int .i64)) (.sl (.int .i64))))) _=cnt (.pr (.sl (.int .i64)) (.pr (.sl (.int .i64)) (.pr (.sl (.int .i64)) (.sl (.int .i64))))) w+1;simp only[J0,FU,List.length_append,List.length_singleton];omega
  rw[W] at aA;rw[AK (e:=l9),List.length_set];rw[AK (e:=l9)] at hc;omega
 split
 ·refine j9 ⟨⟨V,by omega⟩,i,oo,trivial⟩ (Af ?_);rintro⟨v3,v4,v5,v6,v7,v8,v9,aN⟩ ⟨-,-,u,o,z,E,m,g⟩;refine N7 (j9 trivial ?_);exact Q X v5 (v6,v7,v8) v9 aN j (u.2 (H j)) o.1 z.1 E.1 m g
 split
 ·obtain⟨q5,s5,e5,F,qa,qb,-⟩:=u9 (n:=3) j (by omega);have qb:=qb (by omega);simp only[e5,vS,Option.isSome_some];refine j9 ⟨⟨V,by omega⟩,i,trivial,⟨by omega,by simp; omega⟩,by simp; omega,oo,trivial⟩ (Af ?_);rintro⟨bH,bI,aS,bK,aK,aX,aG,aW,aP⟩ ⟨-,-,u,-,o,z,E,m,g⟩;refine N7 (j9 trivial ?_);exact Q s5 aS (aK,aX,aG) aW aP F (u.2 (H F)) o.1 z.1 E.1 m g
 split
 ·obtain⟨q5,s5,e5,F,qa,qb,-⟩:=u9 (n:=5) j (by omega);have qb:=qb (by omega);have hP:(c.getD k.toNat (b7 l9)).1.length<=10000:=by
   have G:cnt (.pr (.sl (.int .i64)) (.pr (.sl (.int .i64)) (.pr (.sl (.int .i64)) (.sl (.int .i64))))) (c.getD k.toNat (b7 l9))<=10000:=Y;rw[J0,J0,J0] at G;simp only[FU] at G;omega
  simp only[e5,vS,Option.isSome_some];refine j9 ⟨⟨V,by omega⟩,i,⟨V,by omega⟩,i,oo,trivial,oo,oo,trivial⟩ (Af ?_);rintro⟨bA,bF,bD,aM,bE,aD,aY,aR,aC,aU⟩ ⟨-,-,-,u,-,o,z,E,m,g⟩;refine N7 (j9 trivial ?_);exact Q s5 aM (aD,aY,aR) aC aU F (u.2 (H F)) o.1 z.1 E.1 m g
 split
 ·refine j9 ⟨oo,trivial⟩ (Af ?_);rintro⟨bL,bM,bG,aZ,aB,aI,aF,aT,aV⟩ ⟨-,-,-,u,o,z,E,m,g⟩;refine N7 (j9 trivial ?_);exact Q X aZ (aB,aI,aF) aT aV j (u.2 (H j)) o.1 z.1 E.1 m g
 ·exact RL (s:=X) (d:=d) j (by omega)
theorem L0D:VK:=S0c fun _ b a=>C0x (Bn b.1 a.1) a.2.1 a.2.2
theorem L0E:VQ:=S0d fun _ b a=>I0F (Bn b.1 a.1) a.2.1 a.2.2
theorem Xs:MU:=e61 L0D L0E fun _ b a=>I0R (Bn b.1 a.1) a.2.1 a.2.2
theorem L0F:VW:=S0e Xs fun _ a b=>I0Y (Bn a.1 b)
theorem r0k{v:Int}{s:l5}{b:Bool}(h:Sd s):∃r,MW (v,s) b=some r/\True:=by
 unfold MW;dsimp only;split
 ·refine j9 ⟨trivial,RJ h.1 (by omega) (by omega)⟩ (Af ?_);rintro⟨b,f⟩ ⟨⟨a,d,g,e,c⟩,-,hz⟩;exact N7 (j9 trivial (j9 ⟨a,Nat.le_trans c (by decide)⟩ ⟨_,rfl,trivial⟩))
 ·refine j9 ⟨trivial,RJ h.1 (by omega) (by omega)⟩ (Af ?_);rintro⟨b,f⟩ ⟨⟨a,d,g,e,c⟩,-,hz⟩;exact N7 (j9 trivial (j9 ⟨a,Nat.le_trans c (by decide)⟩ ⟨_,rfl,trivial⟩))
theorem E0Z{s:l5}(h:Sd s):QU s=some ():=by
 refine N7 ?_;obtain⟨v,g,d,a,-,-,-⟩:=u9 (n:=12) h (by omega);unfold QU;simp only[d,vS,Option.isSome_some];refine j9 ⟨trivial,trivial⟩ (q9 ?_);dsimp only;split
 ·refine j9 ⟨trivial,a.1⟩ (Af ?_);rintro⟨b,f⟩ ⟨⟨c,e⟩,-,hz⟩;exact N7 (j9 trivial (j9 ⟨c,e⟩ ⟨_,rfl,trivial⟩))
 ·split
  ·exact r0k a
  ·exact r0k a
theorem P0E:VY:=e58 Xs L0F fun _ a b=>E0Z (Bn a.1 b)
end
theorem w0d(pl:Nat->B2)(t:Int):∀m,0<m->T9 pl t m<m
 | 1,_=>by
   have e:T9 pl t 1=if((pl 0).2.2.1==t&&(pl 0).2.2.2)=true then((0:Nat):Int) else 0:=rfl
   rw[e];split <;> simp
 | m+2,_=>by
   have e:T9 pl t (m+2)=if((pl (m+1)).2.2.1==t&&(pl (m+1)).2.2.2)=true then((m+1:Nat):Int) else T9 pl t (m+1):=rfl
   have:=w0d pl t (m+1) (by omega);omega
theorem s0o{b:j6}(n:p6 b=true){l:w6}(h:l∈lV b):0<=l.1/\l.1<2*((r4 b.2.1).length:Int)/\0<=l.2.1/\l.2.1<2*((r4 b.2.1).length:Int):=by
 obtain⟨m,f,_⟩:=U0 n;have u:=R3 m;rcases WS h with ⟨i,j,t,hi,x,g,rfl⟩ | ⟨i,k,t,hi,hk,g,rfl⟩
 ·obtain⟨E,s,T⟩:=FN u hi;obtain⟨G,W,c3,r⟩:=FO s;obtain⟨a1,X,V,F⟩:=r j x;obtain⟨A,o⟩:∃A:Nat,(o3 (x6 b i) j).2.1=(A:Int):=⟨(o3 (x6 b i) j).2.1.toNat,by omega⟩;obtain⟨B,y⟩:∃B:Nat,(o3 (x6 b i) j).2.2.1=(B:Int):=⟨(o3 (x6 b i) j).2.2.1.toNat,by omega⟩;have e:A < (m9 b.2.1 i).2.2.length:=by omega
  have a:B < (m9 b.2.1 i).2.2.length:=by omega
  have lA:z6 (m9 b.2.1) i+A < (r4 b.2.1).length:=by
   have:=Nt (m9 b.2.1) hi e;unfold r4;rw[JQ]; omega
  have P:z6 (m9 b.2.1) i+B < (r4 b.2.1).length:=by
   have:=Nt (m9 b.2.1) hi a;unfold r4;rw[JQ]; omega
  have Y:=(Rf _ _).2 _ (G6 (d:=(0,0)) g);have w:(HL (z6 (m9 b.2.1) i:Int) (o3 (x6 b i) j) j t).1=2*((z6 (m9 b.2.1) i:Int)+(A:Int))+((I7 (o3 (x6 b i) j).1 (o3 (x6 b i) j).2.2.2.1).getD t (0,0)).1:=by
   rw[<- o]; rfl
  have v:(HL (z6 (m9 b.2.1) i:Int) (o3 (x6 b i) j) j t).2.1=2*((z6 (m9 b.2.1) i:Int)+(B:Int))+((I7 (o3 (x6 b i) j).1 (o3 (x6 b i) j).2.2.2.1).getD t (0,0)).2:=by
   rw[<- y]; rfl
  omega
 ·obtain⟨q,c,z,Q,_⟩:=Nh (u4 b.2.1) i (r4 b.2.1).length _ (G6 (d:=0) hk);have c:(x8 b.2.1 i).getD k 0=(q:Int):=c;have H:=(Wt (u4 b.2.1) i (r4 b.2.1).length).1;have d2:=w0d (u4 b.2.1) i (r4 b.2.1).length (by omega);have w:(DA (I8 b i) ((x8 b.2.1 i).getD k 0) k t).1=2*T9 (u4 b.2.1) i (r4 b.2.1).length+(t:Int):=rfl;have v:(DA (I8 b i) ((x8 b.2.1 i).getD k 0) k t).2.1=2*(q:Int)+(t:Int):=by
   rw[<- c]; rfl
  omega
section
variable (b:j6)
def j5:Nat:=2*(r4 b.2.1).length
def m5(i:Nat):Nat:=((lV b).getD i (b7 y80)).1.toNat
def o9(i:Nat):Nat:=((lV b).getD i (b7 y80)).2.1.toNat
theorem J8(a:p6 b=true){i:Nat}(hi:i < (lV b).length):((lV b).getD i (b7 y80)).1=(m5 b i:Int)/\((lV b).getD i (b7 y80)).2.1=(o9 b i:Int)/\m5 b i<j5 b/\o9 b i<j5 b:=by
 obtain⟨g,c,f,e⟩:=s0o a (G6 (d:=b7 y80) hi)
 grind[m5,o9,j5]
theorem Ag(a:p6 b=true):j5 b<=1000000:=by
 have c:=(R3 (U0 a).1).len
 grind[j5]
theorem r89(a:p6 b=true):P7 (m7 b)=some (j5 b:Int):=by
 have c:=(R3 (U0 a).1).len;have e:∀s:List B6,IX s=some (s.length:Int):=fun _=>rfl;unfold P7;rw[e,vS,gP ⟨rfl,⟨by omega,by show 2*((r4 b.2.1).length:Int)<=_; omega⟩,trivial⟩,lE];unfold j5;rw[Int.natCast_mul];rfl
theorem Ic(d:wf l6 b)(c:p6 b=true):J5 b=some (j5 b:Int):=by
 have a:=R3 (U0 c).1;have e:=a.len;unfold J5;rw[Dy b.2.1 d.2.1 a.fac.ni14 a.fac.np8 a.pin,vS,gP ⟨rfl,⟨by omega,by grind⟩,trivial⟩,lE]
 grind[j5,Int.natCast_mul]
end
def B9(l:List Int)(x:Int):Bool:=(List.range l.length).any fun j=>l.getD j 0==x
theorem Xt(l:List Int)(x:Int)(b:l.length<=9223372036854775807):S8 l x=some (B9 l x):=by
 have a:=F1 b (fun j=>l.getD j 0==x) (some true) (e:=some false) (F:=ZT l x) (fun g i hi=>by
  have c:((i:Int)).toNat=i:=rfl;refine(if_pos (decide_eq_true (by omega))).trans ((gP ⟨oo,trivial⟩).trans ?_);rw[c];by_cases h:(l.getD i 0==x)=true
  ·simp_all
  ·rw[if_neg h,if_neg h];exact gP ⟨oo,trivial⟩) (fun g=>if_neg (by simp))
 refine a.trans ?_
 grind[B9,List.range]
def A0(M:Nat)(br:List Int):List Bool:=fN (AF fun k=>!B9 br (k:Int)) M []
theorem RM(a:List l8)(br:List Int)(e:a.length<=1048576)(c:br.length<=1048576):Z6 a br=some (A0 a.length br):=by
 refine(lF (n:=a.length) (by omega) (fun i (s:List Bool)=>((i:Int),s)) (AF fun k=>!B9 br (k:Int)) (fun i s=>s.length=i) (J:=fun s=>some s) (F:=ZW br a) (fun g i s hi b=>?_) (fun i s _ b=>by show(s++[_]).length=_; grind) (fun g s _=>if_neg (by simp)) [] rfl).trans rfl;have d:((i:Int)).toNat=i:=rfl;refine(if_pos (decide_eq_true (by omega))).trans ?_;rw[Xt br _ (by omega),vS];refine(gP ⟨rfl,⟨by grind,by grind⟩,trivial⟩).trans ?_;exact gP ⟨oo,trivial⟩
def Bp(M:Nat)(br:List Int):Bool:=br.all (m0 · 0 ((M:Int)-1))&&Du br
theorem E0p:Cw []=some true:=by
 unfold Cw;refine E0e (fun n a=>?_);obtain⟨m,rfl⟩:∃m,n=m+1:=⟨n-1,by omega⟩;rfl
theorem K0W(xs:List Int)(h:xs.length<=9223372036854775807):Cw xs=some (Du xs):=by
 cases xs with
 | nil=>exact E0p
 | cons x r=>grind[Wx]
theorem r65{b:j6}(a:p6 b=true)(br:List Int)(h:br.length<=1048576):Jm (m7 b) br=some (Bp (lV b).length br):=by
 have c:=K3 a;have e:Bb (m7 b).2.2.1=some ((lV b).length:Int):=rfl;unfold Jm;rw[e,vS,HF br 0 _ (by omega),vS,K0W br (by omega),vS,gP ⟨rfl,oo,rfl,(fun _=>rfl),trivial⟩];rfl
theorem M0u(M:Nat)(br:List Int)(l:M<=1048576)(h:br.length<=1048576):Pk br (M:Int)=some (Bp M br):=by
 have b:=F1 (n:=br.length) (by omega) (fun i=>!m0 (br.getD i 0) 0 ((M:Int)-1)||(decide (0<i)&&decide (br.getD i 0<=br.getD (i-1) 0))) (some false) (e:=some true) (F:=B0r br (M:Int)) (fun g i hi=>by
  have j:((i:Int)).toNat=i:=rfl;have c:((i:Int)-1).toNat=i-1:=by omega
  refine(if_pos (decide_eq_true (by omega))).trans ?_;rw[R2,vS,j,c];refine(gP ⟨oo,oo,rfl,(fun a=>oo),(fun a=>⟨by have:=of_decide_eq_true a.1; omega,by omega⟩),(fun _=>oo),trivial⟩).trans ?_;have k:decide ((0:Int) < (i:Int))=decide (0<i):=by
   rw[decide_eq_decide]; omega
  rw[k];by_cases a:(!m0 (br.getD i 0) 0 ((M:Int)-1)||(decide (0<i)&&decide (br.getD i 0<=br.getD (i-1) 0)))=true
  ·rw[if_pos a,if_pos a]
  ·rw[if_neg a,if_neg a];exact gP ⟨oo,trivial⟩) (fun g=>if_neg (by simp))
 refine b.trans ?_;have e:Bp M br=!((List.range br.length).any fun i=>!m0 (br.getD i 0) 0 ((M:Int)-1)||(decide (0<i)&&decide (br.getD i 0<=br.getD (i-1) 0))):=by
  unfold Bp Du;rw[Bool.eq_iff_iff];simp only[ba,Bool.not_eq_true',<- Bool.not_eq_true,List.any_eq_true,List.all_eq_true,List.mem_range,Bool.or_eq_true];constructor
  ·grind
  ·intro d;refine⟨fun x f=>?_,fun⟨i,hi,a⟩=>d ⟨i,hi,.inr a⟩⟩;obtain⟨i,hi,rfl⟩:=List.getElem_of_mem f
   simp_all
 grind
theorem i0G{b:Type}(g:b->Nat->b)(l:List Nat)(s:b):fN (fun i s=>g s (l.getD i 0)) l.length s=l.foldl g s:=by
 have a:∀n,n<=l.length->fN (fun i s=>g s (l.getD i 0)) n s=(l.take n).foldl g s:=by
  intro n
  induction n with
  | zero=>intro _; rfl
  | succ n c =>
    intro d;have e:l.take (n+1)=l.take n++[l.getD n 0]:=by
     rw[List.take_add_one,gq,List.getElem?_eq_getElem (by omega)];rfl
    rw[e,List.foldl_append,<- c (by omega)];rfl
 have:=a l.length (Nat.le_refl _)
 rwa [List.take_length] at this
theorem D0w(M:Nat):∀m,m<=M->(fN (fun i (s:List Bool)=>s.set i true) m (List.replicate M false)).length=M/\∀k,k<m->(fN (fun i (s:List Bool)=>s.set i true) m (List.replicate M false)).getD k false=true:=by
 intro m
 induction m with
 | zero=>exact fun _=>⟨List.length_replicate,fun k b=>by omega⟩
 | succ m a =>
   intro d;obtain⟨e,c⟩:=a (by omega);refine⟨by show(List.set _ _ _).length=M; grind,fun k b=>?_⟩;show(List.set _ _ _).getD k false=true;rw[JW _ (by omega)]
   grind
theorem E0X(br:List Int)(s:List Bool):∀m,(∀j,j<m->(br.getD j 0).toNat<s.length)->(fN (fun i (s:List Bool)=>s.set (br.getD i 0).toNat false) m s).length=s.length/\∀k,(fN (fun i (s:List Bool)=>s.set (br.getD i 0).toNat false) m s).getD k false=(s.getD k false&&!(List.range m).any fun j=>(br.getD j 0).toNat==k):=by
 intro m
 induction m with
 | zero=>exact fun _=>⟨rfl,fun k=>by show s.getD k false=_; simp⟩
 | succ m a =>
   intro b;obtain⟨e,c⟩:=a (fun j d=>b j (by omega));refine⟨by show(List.set _ _ _).length=_; grind,fun k=>?_⟩;show(List.set _ _ _).getD k false=_
   grind
def F5(p:Nat->Bool)(M:Nat):List Int:=((List.range M).filter p).map fun i:Nat=>(i:Int)
theorem DK(p:Nat->Bool):∀m,fN (fun i (s:List Int)=>if p i=true then s++[(i:Int)] else s) m []=F5 p m
 | 0=>rfl
 | m+1=>by
   show(if p m=true then fN _ m []++[(m:Int)] else fN _ m [])=_;rw[DK p m];unfold F5;rw[List.range_succ,List.filter_append,List.map_append]
   grind
theorem DL(p:Nat->Bool)(M:Nat):(F5 p M).length<=M/\(F5 p M).length=((List.range M).filter p).length:=by
 unfold F5
 grind
theorem Xu(p:Nat->Bool)(M i:Nat):(F5 p M).getD i 0=((((List.range M).filter p).getD i 0:Nat):Int):=by
 grind[F5,List.range]
theorem NM{p:Nat->Bool}{M i:Nat}(h:i < ((List.range M).filter p).length):((List.range M).filter p).getD i 0<M:=by
 grind[G6]
def W8(o:Option (List Nat)):List Int×Bool:=match o with
 | none=>([],false)
 | some l=>(l.map (fun v:Nat=>(v:Int)),true)
section
variable {b:j6}
theorem r67(q:p6 b=true){br:List Int}(a:Bp (lV b).length br=true)(v:br.length<=1048576):Mv (m7 b) br=some (m7 b,A0 (lV b).length br):=by
 have w:=K3 q;have a:=a;unfold Bp at a;rw[ba] at a;have c:∀j,j<br.length->0<=br.getD j 0/\br.getD j 0 < ((lV b).length:Int):=fun j h=>by
  grind[y9,JG]
 obtain⟨f,t⟩:=D0w (lV b).length (lV b).length (Nat.le_refl _);obtain⟨l,u⟩:=E0X br (fN (fun i (s:List Bool)=>s.set i true) (lV b).length (List.replicate (lV b).length false)) br.length (fun j h=>by
  have:=c j h;omega)
 have o:fN (fun i (s:List Bool)=>s.set (br.getD i 0).toNat false) br.length (fN (fun i (s:List Bool)=>s.set i true) (lV b).length (List.replicate (lV b).length false))=A0 (lV b).length br:=by
  refine JX false (by rw[l,f]; exact(FK _ _).symm) (fun k d=>?_);have d:k < (lV b).length:=by rw[l,f] at d; exact d
  rw[u,t k d,Bool.true_and];refine Eq.trans ?_ (JL (fun k=>!B9 br (k:Int)) false _ k d).symm;congr 1;unfold B9;rw[Bool.eq_iff_iff,List.any_eq_true,List.any_eq_true];constructor
  ·grind
  ·grind
 unfold Mv;have r:((m7 b).2.2.1.length:Int)=((lV b).length:Int):=rfl;rw[r,Int.toNat_natCast];refine(gP ⟨⟨by omega,rfl,by omega,by omega⟩,trivial⟩).trans ?_;rw[lE,List.length_replicate];refine(lF (n:=(lV b).length) (by omega) (fun i (s:List Bool)=>((i:Int),s)) (fun i s=>s.set i true) (fun _ s=>s.length=(lV b).length) (J:=fun s=>Mu br (m7 b) s) (F:=G0w br (m7 b) ((lV b).length:Int)) (fun g i s hi e=>?_) (fun i s _ e=>by grind) (fun g s _=>if_neg (by simp)) (List.replicate (lV b).length false) List.length_replicate).trans ?_
 ·have m:((i:Int)).toNat=i:=rfl;refine(if_pos (decide_eq_true (by omega))).trans ?_;refine(gP ⟨oo,by omega,trivial⟩).trans ?_;exact gP ⟨oo,trivial⟩
 ·show Mu br (m7 b) _=_;rw[Mu];refine(lF (n:=br.length) (by omega) (fun i (s:List Bool)=>((i:Int),s)) (fun i s=>s.set (br.getD i 0).toNat false) (fun _ s=>s.length=(lV b).length) (J:=fun s=>some (m7 b,s)) (F:=G0v br (m7 b)) (fun g i s hi e=>?_) (fun i s _ e=>by grind) (fun g s _=>if_neg (by simp)) _ f).trans ?_
  ·have m:((i:Int)).toNat=i:=rfl;have:=c i hi;refine(if_pos (decide_eq_true (by omega))).trans ?_;refine(gP ⟨oo,trivial⟩).trans ?_;rw[m];refine(gP ⟨oo,by omega,trivial⟩).trans ?_;exact gP ⟨oo,trivial⟩
  grind
theorem K0U(c:p6 b=true){lv:List Bool}(e:lv.length=(lV b).length):Qu (m7 b,lv)=some (F5 (fun i=>lv.getD i false) (lV b).length):=by
 have f:=K3 c;refine(lF (n:=(lV b).length) (by omega) (fun i (s:List Int)=>(s,(i:Int))) (fun i s=>if lv.getD i false=true then s++[(i:Int)] else s) (fun i s=>s.length<=i) (J:=fun s=>some s) (F:=j0Z (m7 b,lv)) (fun g i s hi d=>?_) (fun i s _ d=>?_) (fun g s _=>if_neg (by simp[m7])) [] (Nat.le_refl _)).trans (congrArg some (DK _ _))
 ·have j:((i:Int)).toNat=i:=rfl;have a:ix (i:Int) (m7 b).2.2.1.length:=⟨by omega,by show(i:Int) < ((lV b).length:Int); omega⟩;refine(if_pos (decide_eq_true a.2)).trans ((gP ⟨a,trivial⟩).trans ?_);rw[lE];refine(gP ⟨⟨by omega,by grind⟩,(fun _=>rfl),trivial⟩).trans ?_;show(if(lv.getD i false&&true)=true then _ else _)=_;rw[Bool.and_true];by_cases h:lv.getD i false=true
  ·rw[if_pos h,if_pos h];refine(gP ⟨⟨by grind,by grind⟩,trivial⟩).trans ?_;exact gP ⟨oo,trivial⟩
  ·rw[if_neg h,if_neg h];exact gP ⟨oo,trivial⟩
 grind
theorem K0V(c:p6 b=true){lv:List Bool}(j:lv.length=(lV b).length)(a:Nat):Qr (m7 b,lv) (a:Int)=some (F5 (fun i=>lv.getD i false&&m5 b i==a) (lV b).length):=by
 have l:=K3 c;refine(lF (n:=(lV b).length) (by omega) (fun i (s:List Int)=>(s,(i:Int))) (fun i s=>if(lv.getD i false&&m5 b i==a)=true then s++[(i:Int)] else s) (fun i s=>s.length<=i) (J:=fun s=>some s) (F:=j0V (m7 b,lv) (a:Int)) (fun g i s hi f=>?_) (fun i s _ f=>?_) (fun g s _=>if_neg (by simp[m7])) [] (Nat.le_refl _)).trans (congrArg some (DK _ _))
 ·have m:((i:Int)).toNat=i:=rfl;have d:ix (i:Int) (m7 b).2.2.1.length:=⟨by omega,by show(i:Int) < ((lV b).length:Int); omega⟩;refine(if_pos (decide_eq_true d.2)).trans ((gP ⟨d,trivial⟩).trans ?_);rw[lE];refine(gP ⟨⟨by omega,by show(i:Int) < (lv.length:Int); omega⟩,(fun _=>rfl),trivial⟩).trans ?_;obtain⟨e,_⟩:=J8 b c hi;have k:(((lV b).getD i (b7 y80)).1==(a:Int))=(m5 b i==a):=by
   rw[e,Bool.eq_iff_iff,beq_iff_eq,beq_iff_eq]; omega
  show(if(lv.getD i false&&(((lV b).getD i (b7 y80)).1==(a:Int)))=true then _ else _)=_;rw[k];by_cases h:(lv.getD i false&&m5 b i==a)=true
  ·rw[if_pos h,if_pos h];refine(gP ⟨⟨by grind,by grind⟩,trivial⟩).trans ?_;exact gP ⟨oo,trivial⟩
  ·rw[if_neg h,if_neg h];exact gP ⟨oo,trivial⟩
 grind
theorem O0r(d:p6 b=true){lv:List Bool}(c:lv.length=(lV b).length)(a:Nat):Hp (m7 b,lv) (a:Int)=some (F5 (fun i=>lv.getD i false&&m5 b i==a) (lV b).length):=by
 unfold Hp;rw[K0V d c,vS,gP ⟨rfl,trivial⟩,lE]
theorem O0s(o:List Int)(h:o.length<=9223372036854775807):Qt o 0=some (match(List.range o.length).find? (fun v=>(0:Int)==o.getD v 0) with | some v=>(v:Int) | none => -1):=by
 have a:=FY h (fun v=>(0:Int)==o.getD v 0) (fun v=>some (v:Int)) (e:=some (-1)) (F:=B0u 0 o) 0 (Nat.zero_le _) (fun g i _ hi=>by
  have c:((i:Int)).toNat=i:=rfl;refine(if_pos (decide_eq_true (by omega))).trans ((gP ⟨oo,trivial⟩).trans ?_);rw[c];by_cases b:((0:Int)==o.getD i 0)=true
  ·simp_all
  ·rw[if_neg b,if_neg b];exact gP ⟨oo,trivial⟩) (fun g=>if_neg (by simp))
 rw[Nat.sub_zero,<- List.range_eq_range'] at a;refine Eq.trans a ?_
 grind
end
section
variable {b:j6}
theorem u0A{o:List Int}{i N:Nat}{x:Int}(h:o.length=N):(o.set i x).length=N:=by grind
theorem K0M(c:p6 b=true){lv:List Bool}{p:Nat->Bool}:lp (Vq (m7 b,lv) (F5 p (lV b).length)) (0,List.replicate (j5 b) 0)=Mw (m7 b,lv) (((List.range (lV b).length).filter p).foldl (FQ (o9 b)) (List.replicate (j5 b) 0)):=by
 have x:=K3 c;obtain⟨E,w⟩:=DL p (lV b).length;rw[<- i0G,<- w];refine lF (n:=(F5 p (lV b).length).length) (by omega) (fun i (s:List Int)=>((i:Int),s)) (fun i o=>FQ (o9 b) o (((List.range (lV b).length).filter p).getD i 0)) (fun i o=>o.length=j5 b/\∀v,0<=o.getD v 0/\o.getD v 0<=(i:Int)) (J:=fun s=>Mw (m7 b,lv) s) (F:=Vq (m7 b,lv) (F5 p (lV b).length)) (fun g i o hi d=>?_) (fun i o hi d=>?_) (fun g s _=>if_neg (by simp)) _ ⟨List.length_replicate,fun v=>?_⟩
 ·have q:((i:Int)).toNat=i:=rfl;obtain⟨e,f⟩:=d;have a:=NM (p:=p) (M:=(lV b).length) (i:=i) (by omega);refine(if_pos (decide_eq_true (by omega))).trans ?_;refine(gP ⟨oo,by omega,trivial⟩).trans ?_;rw[q,Xu];generalize ((List.range (lV b).length).filter p).getD i 0=k at a;have y:Int.toNat ((k:Nat):Int)=k:=rfl;obtain⟨m,h,t,u⟩:=J8 b c a;have l:ix ((k:Nat):Int) (m7 b).2.2.1.length:=⟨by omega,by show((k:Nat):Int) < ((lV b).length:Int); omega⟩;have z:=f (o9 b k);have r:((m7 b).2.2.1.getD (Int.toNat ((k:Nat):Int)) (b7 y80)).2.1=(o9 b k:Int):=h;have j:Int.toNat ((o9 b k:Nat):Int)=o9 b k:=rfl;rw[r,j];refine(gP ⟨l,oo,by omega,oo,oo,by omega,trivial⟩).trans ?_;rw[lE];exact gP ⟨oo,trivial⟩
 ·obtain⟨e,f⟩:=d;have a:=NM (p:=p) (M:=(lV b).length) (i:=i) (by omega);obtain⟨m,h,t,u⟩:=J8 b c a;refine⟨u0A e,fun v=>?_⟩
  grind[FQ,NC,o9,List.range,lV]
 grind
theorem K0L(e:p6 b=true){lv:List Bool}{p:Nat->Bool}{n:Int}{l:List Int}{v:Int}{a:List Int×Int×List Int->Option (List Int×Bool)}{o:List Int}{A:Int}(H:0<=A)(t:A<=1000000000000)(ol:o.length=j5 b)(y:∀w,w<j5 b -> -A<=o.getD w 0/\o.getD w 0<=A):lp (Qw (m7 b,lv) (F5 p (lV b).length) n l v a) (0,o)=Qv n a (l++[v],((List.range (lV b).length).filter p).foldl (HY (o9 b)) o):=by
 have P:=K3 e;obtain⟨Q,x⟩:=DL p (lV b).length;rw[<- i0G,<- x];refine lF (n:=(F5 p (lV b).length).length) (by omega) (fun i (s:List Int)=>((i:Int),s)) (fun i o=>HY (o9 b) o (((List.range (lV b).length).filter p).getD i 0)) (fun i o=>o.length=j5 b/\∀w,w<j5 b -> -A-(i:Int)<=o.getD w 0/\o.getD w 0<=A) (J:=fun s=>Qv n a (l++[v],s)) (F:=Qw (m7 b,lv) (F5 p (lV b).length) n l v a) (fun g i o hi c=>?_) (fun i o hi c=>?_) (fun g s _=>if_neg (by simp)) _ ⟨ol,fun w G=>by grind⟩
 ·have r:((i:Int)).toNat=i:=rfl;obtain⟨ol,f⟩:=c;have d:=NM (p:=p) (M:=(lV b).length) (i:=i) (by omega);refine(if_pos (decide_eq_true (by omega))).trans ?_;refine(gP ⟨oo,by omega,trivial⟩).trans ?_;rw[r,Xu];generalize ((List.range (lV b).length).filter p).getD i 0=k at d;obtain⟨E,j,T,h⟩:=J8 b e d;have q:ix ((k:Nat):Int) (m7 b).2.2.1.length:=⟨by omega,by show((k:Nat):Int) < ((lV b).length:Int); omega⟩;have z:=f (o9 b k) h;have u:((m7 b).2.2.1.getD (Int.toNat ((k:Nat):Int)) (b7 y80)).2.1=(o9 b k:Int):=j;have m:Int.toNat ((o9 b k:Nat):Int)=o9 b k:=rfl;rw[u,m];refine(gP ⟨q,oo,by omega,oo,oo,by omega,trivial⟩).trans ?_;rw[lE];exact gP ⟨oo,trivial⟩
 ·obtain⟨ol,f⟩:=c;have d:=NM (p:=p) (M:=(lV b).length) (i:=i) (by omega)
  grind[HY]
def N8(b:j6)(lv:List Bool)(out:List Nat)(k:Nat):Option (List Nat):=AG (lV b).length (j5 b) (m5 b) (o9 b) (fun i=>lv.getD i false) k out
theorem Xw(M N:Nat)(fr to:Nat->Nat)(lv:Nat->Bool)(k:Nat)(a:List Nat):AG M N fr to lv (k+1) a=match M1 M N fr to lv a with | none=>none | some v=>AG M N fr to lv k (a++[v]):=rfl
theorem r68(d:p6 b=true){lv:List Bool}(h:lv.length=(lV b).length):Mx (m7 b,lv)=some (W8 (N8 b lv [] (j5 b))):=by
 have G:=K3 d;have x:=Ag b d;have o:∀i,i < (lV b).length->o9 b i<j5 b:=fun i hi=>(J8 b d hi).2.2.2;unfold Mx;rw[r89 b d,vS,gP ⟨rfl,⟨by omega,rfl,by omega,by omega⟩,trivial⟩,lE,K0U d h,vS,gP ⟨rfl,trivial⟩,lE,Int.toNat_natCast,K0M d];have q:((List.range (lV b).length).filter fun i=>lv.getD i false).foldl (FQ (o9 b)) (List.replicate (j5 b) 0)=CI (lV b).length (j5 b) (m5 b) (o9 b) (fun i=>lv.getD i false) []:=rfl;rw[q];have k:(CI (lV b).length (j5 b) (m5 b) (o9 b) (fun i=>lv.getD i false) []).length=j5 b:=(B0Z (fr:=m5 b) o).len;generalize hv6:CI (lV b).length (j5 b) (m5 b) (o9 b) (fun i=>lv.getD i false) []=v6 at k;rw[Mw];have s:=RN (n:=j5 b) (by omega) (fun i (a:List Nat)=>(a.map (fun v:Nat=>(v:Int)),(i:Int),CI (lV b).length (j5 b) (m5 b) (o9 b) (fun i=>lv.getD i false) a))
  (fun _ a=>(M1 (lV b).length (j5 b) (m5 b) (o9 b) (fun i=>lv.getD i false) a).map fun v=>a++[v]) (fun _ _=>some ([],false))
  (fun i a=>a.length=i/\ND (lV b).length (j5 b) (m5 b) (o9 b) (fun i=>lv.getD i false) a (CI (lV b).length (j5 b) (m5 b) (o9 b) (fun i=>lv.getD i false) a))
  (J:=fun a=>some (a.map (fun v:Nat=>(v:Int)),true)) (F:=G0t (m7 b,lv) v6)
  (fun g i a hi f=>by
    obtain⟨r,c⟩:=f;have z:((i:Int)).toNat=i:=rfl;refine(if_pos (decide_eq_true (by omega))).trans ?_;rw[O0s _ (by rw[c.len]; omega),v0b c,vS];refine(gP ⟨rfl,trivial⟩).trans ?_;rw[lE];cases hn:M1 (lV b).length (j5 b) (m5 b) (o9 b) (fun i=>lv.getD i false) a with
    | none=>rfl
    | some v =>
      obtain⟨t,y⟩:=NE hn;have ev:((v:Int)).toNat=v:=rfl;dsimp only;refine(if_neg (by simp)).trans ?_;refine(gP ⟨⟨by omega,by rw[c.len]; omega⟩,by rw[c.len]; omega,trivial⟩).trans ?_;refine(gP ⟨⟨by simp only[List.length_singleton,List.length_map]; omega,by simp only[List.length_singleton,List.length_map]; omega⟩,trivial⟩).trans ?_;show gd ((Hp (m7 b,lv) (v:Int)).isSome=true/\True) (lt (vl (Hp (m7 b,lv) (v:Int))) fun j=>lp (Qw (m7 b,lv) j (i:Int) (a.map fun v:Nat=>(v:Int)) (v:Int) g) (0,(CI (lV b).length (j5 b) (m5 b) (o9 b) (fun i=>lv.getD i false) a).set v (-1)))=g ((a++[v]).map (fun v:Nat=>(v:Int)),(((i+1:Nat)):Int),CI (lV b).length (j5 b) (m5 b) (o9 b) (fun i=>lv.getD i false) (a++[v]));rw[O0r d h,vS,gP ⟨rfl,trivial⟩,lE];have u:(a.length:Int)*((lV b).length:Int)<=1000000*6000:=Int.mul_le_mul (by omega) (by omega) (by omega) (by decide);rw[K0L d (A:=6000000001) (by decide) (by decide) (u0A c.len) (fun w l=>by
       rw[NC _ (by rw[c.len]; exact t)];have P:=c.lo w l;have H:=c.hi w l;split <;> omega)]
      rw[m0U,List.map_append];exact gP ⟨oo,trivial⟩)
  (fun i a m hi f E=>by
    obtain⟨r,c⟩:=f;cases hn:M1 (lV b).length (j5 b) (m5 b) (o9 b) (fun i=>lv.getD i false) a with
    | none=>grind
    | some v =>
      grind[NE,m0U,v0a])
  (fun g a f=>by
    refine(if_neg ?_).trans rfl
    grind)
  (fun i a=>some (W8 (N8 b lv a (j5 b-i)))) (fun a _=>by
    rw[Nat.sub_self]; rfl)
  (fun i a hi f=>by
    have e:j5 b-i=(j5 b-(i+1))+1:=by omega
    show some (W8 (AG _ _ _ _ _ (j5 b-i) a))=_;rw[e,Xw];cases M1 (lV b).length (j5 b) (m5 b) (o9 b) (fun i=>lv.getD i false) a <;> rfl)
  0 (Nat.zero_le _) [] ⟨rfl,B0Z o⟩
 grind
end
section
variable {b:j6}
theorem O0q(l:p6 b=true){lv:List Bool}(X:lv.length=(lV b).length):Le (j5 b:Int) (lV b) lv=some (W8 (N8 b lv [] (j5 b))):=by
 have hM:=K3 l;have Y:=Ag b l;have t:∀i,i < (lV b).length->o9 b i<j5 b:=fun i hi=>(J8 b l hi).2.2.2;have d:((j5 b:Int)).toNat=j5 b:=rfl;unfold Le;rw[d];refine(gP ⟨⟨by omega,rfl,by omega,by omega⟩,trivial⟩).trans ?_;exact RN (n:=j5 b) (by omega) (fun _ (a:List Nat)=>(N5 (j5 b) a,a.map (fun v:Nat=>(v:Int))))
  (fun _ a=>(M1 (lV b).length (j5 b) (m5 b) (o9 b) (fun i=>lv.getD i false) a).map fun v=>a++[v]) (fun _ _=>some ([],false))
  (fun i a=>a.length=i/\∀v∈a,v<j5 b)
  (J:=fun a=>some (a.map (fun v:Nat=>(v:Int)),true)) (F:=B0p (lV b) lv (j5 b:Int))
  (fun g i a hi f=>by
    obtain⟨P,o⟩:=f;have r:=fun w=>NF o w;refine(if_pos (decide_eq_true (by grind))).trans ?_;rw[d];refine(gP ⟨⟨by omega,rfl,by omega,by omega⟩,trivial⟩).trans ?_;refine(lF (n:=(lV b).length) (by omega) (fun k (w:List Bool)=>((k:Int),w)) (FR (m5 b) (o9 b) (fun i=>lv.getD i false) a) (fun _ w=>w.length=j5 b) (J:=fun w=>Ld (N5 (j5 b) a) (a.map fun v:Nat=>(v:Int)) (j5 b:Int) g w) (F:=B0o (lV b) lv (N5 (j5 b) a) (a.map fun v:Nat=>(v:Int)) (j5 b:Int) g) (fun E k w W H=>?_) (fun k w _ H=>?_) (fun E w _=>if_neg (by simp)) (List.replicate (j5 b) false) List.length_replicate).trans ?_
    ·have m:((k:Int)).toNat=k:=rfl;obtain⟨x,z,f3,f4⟩:=J8 b l W;have Q:Int.toNat ((m5 b k:Nat):Int)=m5 b k:=rfl;have T:Int.toNat ((o9 b k:Nat):Int)=o9 b k:=rfl;have V:=(r (m5 b k)).1;refine(if_pos (decide_eq_true (by omega))).trans ?_;rw[m,x,z,Q,T,(r (m5 b k)).2];refine(gP ⟨oo,(fun _=>oo),(fun _=>oo),(fun _=>by omega),trivial⟩).trans ?_;unfold FR;by_cases c:(lv.getD k false&&!a.contains (m5 b k))=true
     ·rw[if_pos c,if_pos c];refine(gP ⟨oo,oo,by omega,trivial⟩).trans ?_;exact gP ⟨oo,trivial⟩
     ·rw[if_neg c,if_neg c];exact gP ⟨oo,trivial⟩
    ·grind[FR,List.length_set]
    ·show Ld _ _ _ g _=_;rw[Ld,<- t0h (lv:=fun i=>lv.getD i false) (fr:=m5 b) t o];have y:=(p0t (fr:=m5 b) (lv:=fun i=>lv.getD i false) t a 0 _ (Nat.le_refl _)).1;generalize fN (FR (m5 b) (o9 b) (fun i=>lv.getD i false) a) (lV b).length (List.replicate (j5 b) false)=w at y;have V:=(r 0).1;have j:=FY (n:=j5 b) (by omega) (fun v=>!((N5 (j5 b) a).getD v false||w.getD v false)) (fun v=>IV (N5 (j5 b) a) (a.map fun v:Nat=>(v:Int)) (j5 b:Int) g (v:Int)) (e:=some ([],false)) (F:=B0n (N5 (j5 b) a) (a.map fun v:Nat=>(v:Int)) (j5 b:Int) w g) 0 (Nat.zero_le _) (fun G v _ q=>by
      have m:((v:Int)).toNat=v:=rfl;have u:decide ((v:Int) < (j5 b:Int))=true:=decide_eq_true (by omega);refine(gP ⟨(fun _=>oo),(fun _=>by omega),(fun _=>oo),(fun _=>by omega),trivial⟩).trans ?_;rw[m,u,Bool.true_and];by_cases c:((N5 (j5 b) a).getD v false||w.getD v false)=true
      ·rw[if_pos c,if_neg (by grind)];exact gP ⟨oo,trivial⟩
      simp_all) (fun G=>by
      have u:decide ((j5 b:Int) < (j5 b:Int))=false:=decide_eq_false (by omega);refine(gP ⟨(fun h=>by grind),(fun h=>by grind),(fun h=>by grind),(fun h=>by grind),trivial⟩).trans ?_
      grind[trans,IV])
     rw[Nat.sub_zero,<- List.range_eq_range'] at j;refine Eq.trans j ?_;cases hn:(List.range (j5 b)).find? fun v=>!((N5 (j5 b) a).getD v false||w.getD v false) with
     | none=>rfl
     | some v =>
       have q:=List.mem_range.1 (List.mem_of_find?_eq_some hn);have m:((v:Int)).toNat=v:=rfl;show IV (N5 (j5 b) a) (a.map fun v:Nat=>(v:Int)) (j5 b:Int) g (v:Int)=g (N5 (j5 b) (a++[v]),(a++[v]).map fun v:Nat=>(v:Int));rw[IV,n0e,List.map_append];refine(if_neg (by grind)).trans ?_;refine(gP ⟨oo,by omega,trivial⟩).trans ?_;exact gP ⟨⟨by grind,by grind⟩,trivial⟩)
  (fun i a s hi f he=>by
    obtain⟨P,o⟩:=f;cases hn:M1 (lV b).length (j5 b) (m5 b) (o9 b) (fun i=>lv.getD i false) a with
    | none=>grind
    | some v =>
      grind[NE,List.mem_singleton])
  (fun g a f=>by
    refine(if_neg ?_).trans rfl
    grind)
  (fun i a=>some (W8 (N8 b lv a (j5 b-i)))) (fun a _=>by
    rw[Nat.sub_self]; rfl)
  (fun i a hi f=>by
    have e:j5 b-i=(j5 b-(i+1))+1:=by omega
    show some (W8 (AG _ _ _ _ _ (j5 b-i) a))=_;rw[e,Xw];cases M1 (lV b).length (j5 b) (m5 b) (o9 b) (fun i=>lv.getD i false) a <;> rfl)
  0 (Nat.zero_le _) [] ⟨rfl,fun v q=>nomatch q⟩
theorem NN(M:Nat)(br:List Int):(A0 M br).length=M:=FK _ _
end
def DM(b:j6)(br:List Int):Int:=if p6 b=true then(if Bp (lV b).length br=true then 0 else 2) else 1
theorem r71(b:j6)(c:wf l6 b)(d:cnt l6 b<=1048576)(br:List Int)(a:br.length<=1048576):Fp b br=some (DM b br):=by
 unfold Fp DM;rw[FL b c d,vS,gP ⟨rfl,trivial⟩];cases hb:p6 b with
 | false=>rfl
 | true =>
   have e:=K3 hb;refine(if_neg (by simp)).trans ?_;rw[HN b c hb,vS,M0u _ br (by omega) a,gP ⟨rfl,rfl,trivial⟩,lE,M0u _ br (by omega) a,vS]
   grind
theorem z0Q{b:j6}{br:List Int}(h:DM b br=0):p6 b=true/\Bp (lV b).length br=true:=by
 unfold DM at h;split at h
 ·rename_i a;split at h
  ·rename_i c; exact⟨a,c⟩
  ·cases h
 ·cases h
def Xx(b:j6)(br:List Int):List Int×Int:=if DM b br=0 then(if(W8 (N8 b (A0 (lV b).length br) [] (j5 b))).2=true then((W8 (N8 b (A0 (lV b).length br) [] (j5 b))).1,0) else([],7)) else([],DM b br)
theorem r72(b:j6)(c:wf l6 b)(e:cnt l6 b<=1048576)(br:List Int)(d:br.length<=1048576):Lv b br=some (Xx b br):=by
 unfold Lv Xx;rw[r71 b c e br d,vS,gP ⟨rfl,trivial⟩,lE];by_cases h:DM b br=0
 ·obtain⟨a,g⟩:=z0Q h;have f:=K3 a;rw[h];refine(if_neg (by decide)).trans ?_;rw[HN b c a,vS,gP ⟨rfl,trivial⟩,lE,Ic b c a,vS,RM _ _ (by omega) d,vS,O0q a (NN _ _),vS];refine(gP ⟨rfl,rfl,rfl,trivial⟩).trans ?_;rw[lE,if_pos rfl];cases h2:(W8 (N8 b (A0 (lV b).length br) [] (j5 b))).2
  ·refine(if_pos (by simp[h2])).trans ?_;rfl
  ·refine(if_neg (by simp[h2])).trans ?_;rfl
 ·rw[if_neg h];exact if_pos (by simp[h])
theorem E0W{M:List l8}(g:M.length<=6000){l:List Int}{s:l5}(h:Sd s)(i:l.length<=6000) :
  (∃r,Qn M (s.1,s.2.1,s.2.2,l)=some r/\(Sd r.2/\r.1.length<=6001))/\∃r,Qo M (s.1,s.2.1,s.2.2,l)=some r/\(Sd r.2/\r.1.length<=6001):=by
 obtain⟨v,j,e,a,-,-,-⟩:=u9 (n:=12) h (by omega);obtain⟨q,k,d,c,qa,qb,-⟩:=u9 (n:=2) a (by omega);have qb:=qb (by omega);have b:c9 ((M.length:Int)*q):=by
  have m:(M.length:Int)*q<=6000*1:=Int.mul_le_mul (by omega) (by omega) qa (by omega);have f:0<=(M.length:Int)*q:=Int.mul_nonneg (by omega) qa;exact oo
 constructor
 ·unfold Qn;simp only[e,vS,Option.isSome_some];refine j9 ⟨trivial,trivial⟩ (q9 ?_);dsimp only;split
  ·simp only[d,vS,Option.isSome_some];refine j9 ⟨trivial,b,⟨by rw[List.length_singleton]; omega,by rw[List.length_singleton]; omega⟩,trivial⟩ (q9 ?_);exact⟨_,rfl,c,by simp only[List.length_append,List.length_singleton]; omega⟩
  ·exact⟨_,rfl,a,by simp only; omega⟩
 ·unfold Qo;simp only[e,vS,Option.isSome_some];refine j9 ⟨trivial,trivial⟩ (q9 ?_);dsimp only;split
  ·simp only[d,vS,Option.isSome_some];refine j9 ⟨trivial,b,⟨by rw[List.length_singleton]; omega,by rw[List.length_singleton]; omega⟩,trivial⟩ (q9 ?_);exact⟨_,rfl,c,by simp only[List.length_append,List.length_singleton]; omega⟩
  ·exact⟨_,rfl,a,by simp only; omega⟩
theorem I0Q{s:l5}(h:Sd s){b:j6}(q:wf l6 b)(H:cnt l6 b<=20000):∃r,Jk s b=some r/\(Sd r.2/\r.1.length<=6001):=by
 unfold Jk;simp only[FL b q (Nat.le_trans H (by decide)),vS,Option.isSome_some];cases hb:p6 b with
 | false =>
   refine j9 ⟨trivial,trivial⟩ ?_;rw[if_pos (by decide)];refine j9 trivial ?_;rw[if_pos (by decide)];exact⟨_,rfl,h,by simp⟩
 | true =>
   have G:=K3 hb;obtain⟨v,s0,E,a,-,-,-⟩:=u9 (n:=3) h (by omega);obtain⟨t,W,Q,e,a1,w,-⟩:=u9 (n:=8) a (by omega);have w:=w (by omega);obtain⟨V,Y,P,k,a2,y,-⟩:=u9 (n:=1+t) e (by omega);have y:=y (by omega);refine j9 ⟨trivial,trivial⟩ ?_;rw[if_neg (by decide)];simp only[E,vS,Option.isSome_some];refine j9 ⟨⟨trivial,trivial⟩,trivial⟩ ?_;split
   ·exact q9 ⟨_,rfl,a,by simp⟩
   ·simp only[HN b q hb,vS,Option.isSome_some];refine j9 ⟨trivial,trivial⟩ (q9 ?_);dsimp only;simp only[Q,vS,Option.isSome_some];refine j9 ⟨trivial,oo,trivial⟩ (q9 ?_);dsimp only;simp only[P,vS,Option.isSome_some];refine j9 ⟨trivial,trivial⟩ (q9 ?_);dsimp only;refine N6 (fun x=>(7000-x.1).toNat) (fun x=>Sd (x.2.1,x.2.2.1,x.2.2.2.1)/\0<=x.1/\x.1<=6100/\(x.2.2.2.2.length:Int)<=x.1/\x.2.2.2.2.length<=6000) ?_ ⟨k,by simp only; omega,by simp only; omega,by simp; omega,by simp⟩ (by simp only; omega);rintro g ⟨i,c,m,d,l⟩ ⟨j,i2,i3,i4,i5⟩ z;simp only at j i2 i3 i4 i5;unfold G0G;dsimp only;split
    ·rename_i o;have o:=of_decide_eq_true o;obtain⟨v3,T,F,f,X,u,-⟩:=u9 (n:=1+t) j (by omega);have u:=u (by omega);refine j9 ⟨⟨by rw[List.length_singleton]; omega,by rw[List.length_singleton]; omega⟩,trivial⟩ ?_;simp only[F,vS,Option.isSome_some];refine j9 ⟨trivial,oo,oo,trivial⟩ (q9 ?_);exact z _ ⟨f,by simp only; omega,by simp only; omega,by simp only[List.length_append,List.length_singleton]; omega,by simp only[List.length_append,List.length_singleton]; omega⟩ (by simp only; omega)
    ·exact(E0W G (s:=(c,m,d)) j i5).2
theorem q0C{s:l5}(h:Sd s){n:Int}(d:n<=9223372036854775807):∃r,Mm s n=some r/\Sd r.2:=by
 obtain⟨v,l,g,a,-,-,-⟩:=u9 (n:=16) h (by omega);obtain⟨q,j,f,b,qa,qb,-⟩:=u9 (n:=2) a (by omega);have qb:=qb (by omega);obtain⟨k,i,e,c,-,-,-⟩:=u9 (n:=n) a d;unfold Mm;simp only[g,vS,Option.isSome_some];refine j9 ⟨trivial,trivial⟩ (q9 ?_);dsimp only;split
 ·simp only[f,vS,Option.isSome_some];exact j9 ⟨trivial,⟨qa,by simp; omega⟩,by simp; omega,trivial⟩ (q9 ⟨_,rfl,b⟩)
 ·simp only[e,vS,Option.isSome_some];exact j9 ⟨trivial,trivial⟩ (q9 ⟨_,rfl,c⟩)
theorem v0f{s:l5}(h:Sd s){b:j6}(a:wf l6 b)(c:cnt l6 b<=20000):∃r,Hl s b=some r/\Sd r.2:=by
 unfold Hl;simp only[FL b a (Nat.le_trans c (by decide)),vS,Option.isSome_some];cases hb:p6 b with
 | false =>
   refine j9 ⟨trivial,trivial⟩ ?_;rw[if_neg (by decide)];exact q0C h (by omega)
 | true =>
   refine j9 ⟨trivial,trivial⟩ ?_;have d:=Ag b hb;rw[if_pos rfl];simp only[Ic b a hb,vS,Option.isSome_some];exact j9 ⟨trivial,trivial⟩ (q9 (q0C h (by omega)))
theorem wf9{v:j6×l5}(h:FZ (QT v)):wf l6 v.1:=⟨h.1,⟨h.2.1,h.2.2.1,h.2.2.2.1⟩,h.2.2.2.2.1⟩
section
variable [Alw]
end
section
variable {b:j6}
end
theorem Xy{b:j6}(c:p6 b=true)(a:Int):T3 (m7 b) a=some (m0 a 0 ((j5 b:Int)-1)):=by
 have d:=Ag b c;unfold T3;rw[r89 b c,vS];refine(gP ⟨rfl,oo,rfl,trivial⟩).trans ?_;rw[V8,vS]
theorem y0V{M:Nat}(br:List Int){i:Nat}(h:i<M):(A0 M br).getD i false=!B9 br (i:Int):=JL _ _ _ _ h
section
variable {b:j6}
theorem y0A(c:p6 b=true){lv:List Bool}(f:lv.length=(lV b).length)(a:Nat):Qy (m7 b,lv) (a:Int)=some (F5 (fun i=>lv.getD i false&&o9 b i==a) (lV b).length):=by
 have l:=K3 c;refine(lF (n:=(lV b).length) (by omega) (fun i (s:List Int)=>(s,(i:Int))) (fun i s=>if(lv.getD i false&&o9 b i==a)=true then s++[(i:Int)] else s) (fun i s=>s.length<=i) (J:=fun s=>some s) (F:=j0X (m7 b,lv) (a:Int)) (fun g i s hi e=>?_) (fun i s _ e=>?_) (fun g s _=>if_neg (by simp[m7])) [] (Nat.le_refl _)).trans (congrArg some (DK _ _))
 ·have m:((i:Int)).toNat=i:=rfl;have d:ix (i:Int) (m7 b).2.2.1.length:=⟨by omega,by show(i:Int) < ((lV b).length:Int); omega⟩;refine(if_pos (decide_eq_true d.2)).trans ((gP ⟨d,trivial⟩).trans ?_);rw[lE];refine(gP ⟨⟨by omega,by show(i:Int) < (lv.length:Int); omega⟩,(fun _=>rfl),trivial⟩).trans ?_;obtain⟨_,k,_⟩:=J8 b c hi;have j:(((lV b).getD i (b7 y80)).2.1==(a:Int))=(o9 b i==a):=by
   rw[k,Bool.eq_iff_iff,beq_iff_eq,beq_iff_eq]; omega
  show(if(lv.getD i false&&(((lV b).getD i (b7 y80)).2.1==(a:Int)))=true then _ else _)=_;rw[j];by_cases h:(lv.getD i false&&o9 b i==a)=true
  ·rw[if_pos h,if_pos h];refine(gP ⟨⟨by simp only[List.length_singleton]; omega,by simp only[List.length_singleton]; omega⟩,trivial⟩).trans ?_;exact gP ⟨oo,trivial⟩
  ·rw[if_neg h,if_neg h];exact gP ⟨oo,trivial⟩
 ·show(if(lv.getD i false&&o9 b i==a)=true then s++[(i:Int)] else s).length<=i+1;split
  ·rw[List.length_append,List.length_singleton]; omega
  ·omega
theorem r98(d:p6 b=true){lv:List Bool}(c:lv.length=(lV b).length)(a:Nat):Hq (m7 b,lv) (a:Int)=some (F5 (fun i=>lv.getD i false&&o9 b i==a) (lV b).length):=by
 unfold Hq;rw[y0A d c,vS,gP ⟨rfl,trivial⟩,lE]
end
theorem CK{e:Ty}:wf (.sl e) []:=⟨Nat.zero_le _,fun _ h=>nomatch h⟩
theorem RO:∀(N:Nat) (l:List Nat),l.Nodup->(∀v∈l,v<N)->l.length<=N
 | 0,l,_,h=>by
   cases l with
   | nil=>exact Nat.le_refl _
   | cons a r=>exact(Nat.not_lt_zero _ (h a (by simp))).elim
 | N+1,l,hd,h=>by
   by_cases c:N∈l
   ·have f:=RO N (l.erase N) (hd.erase N) (fun v b=>by
     have d:=(hd.mem_erase_iff).1 b;have:=h v d.2;have:=d.1;omega)
    have:=List.length_erase_of_mem c;have:0<l.length:=List.length_pos_of_mem c;omega
   ·have:=RO N l hd (fun v b=>by
     have f:=h v b;have:v≠N:=fun e=>c (e ▸ b);omega)
    omega
theorem y0K{l:List Nat}(h:l.Nodup){p q:Nat}(b:p<q)(a:q<l.length):l.getD p 0≠l.getD q 0:=by
 have:=List.pairwise_iff_getElem.1 h p q (by omega) a b;rw[gq,List.getElem?_eq_getElem (by omega),gq,List.getElem?_eq_getElem a];exact this
theorem E0a{l:List Nat}{v:Nat}(h:v∈l):∃p,p<l.length/\l.getD p 0=v:=by
 obtain⟨p,a,e⟩:=List.getElem_of_mem h;exact⟨p,a,by rw[gq,List.getElem?_eq_getElem a]; exact e⟩
structure OGood(M N:Nat)(fr to:Nat->Nat)(lv:Nat->Bool)(out:List Nat):Prop where
 nd:out.Nodup
 lt:∀v∈out,v<N
 bef:∀i,i<M->lv i=true->∀q,q<out.length->out.getD q 0=to i->∃p,p<q/\out.getD p 0=fr i
theorem Xz{l:List Nat}{v q:Nat}(h:q<l.length):(l++[v]).getD q 0=l.getD q 0:=by
 rw[gq,gq,List.getElem?_append_left h]
theorem v0O{l:List Nat}{v:Nat}:(l++[v]).getD l.length 0=v:=by
 rw[gq,List.getElem?_append_right (Nat.le_refl _),Nat.sub_self];rfl
theorem OGood.snoc{M N:Nat}{fr to:Nat->Nat}{lv:Nat->Bool}{d:List Nat}(h:OGood M N fr to lv d){v:Nat}(r:v<N)(n:v ∉ d)(k:W5 M fr to lv d v=0):OGood M N fr to lv (d++[v]):=by
 refine⟨?_,fun w f=>?_,fun i hi l q t e=>?_⟩
 ·rw[List.nodup_append];exact⟨h.nd,by simp,fun a s b m=>fun e=>n (by rw[<- List.mem_singleton.1 m,<- e]; exact s)⟩
 ·rcases List.mem_append.1 f with f | f
  ·exact h.lt w f
  ·rw[List.mem_singleton.1 f]; exact r
 ·rw[List.length_append,List.length_singleton] at t;by_cases c:q<d.length
  ·rw[Xz c] at e;obtain⟨p,g,j⟩:=h.bef i hi l q c e;exact⟨p,g,by rw[Xz (by omega)]; exact j⟩
  ·have c:q=d.length:=by omega
   subst c;rw[v0O] at e;unfold W5 at k;rw[List.countP_eq_zero] at k;have u:=k i (List.mem_range.2 hi);have o:fr i∈d:=by simpa [l,e] using u
   obtain⟨p,g,j⟩:=E0a o;exact⟨p,g,by rw[Xz g]; exact j⟩
theorem y0F{M N:Nat}{fr to:Nat->Nat}{lv:Nat->Bool}:∀(k:Nat) (out l:List Nat),OGood M N fr to lv out->AG M N fr to lv k out=some l->OGood M N fr to lv l/\l.length=out.length+k:=by
 intro k
 induction k with
 | zero=>intro out l h e; cases e; exact⟨h,rfl⟩
 | succ k c =>
   intro out l h e;rw[Xw] at e;cases hn:M1 M N fr to lv out with
   | none=>rw[hn] at e; cases e
   | some v =>
     rw[hn] at e;obtain⟨b,d⟩:=NE hn;have f:W5 M fr to lv out v=0:=by
      unfold M1 at hn;have:=List.find?_some hn;simp only[ba,beq_iff_eq] at this;exact this.2
     obtain⟨g,a⟩:=c (out++[v]) l (h.snoc b d f) e;exact⟨g,by rw[a,List.length_append,List.length_singleton]; omega⟩
theorem r26(l:List Int)(x:Int)(b:l.length<=9223372036854775807):Mj l x=some (B9 l x):=by
 have a:=F1 b (fun j=>l.getD j 0==x) (some true) (e:=some false) (F:=H0h l x) (fun g i hi=>by
  have c:((i:Int)).toNat=i:=rfl;refine(if_pos (decide_eq_true (by omega))).trans ((gP ⟨oo,trivial⟩).trans ?_);rw[c];by_cases h:(l.getD i 0==x)=true
  ·rw[if_pos h,if_pos h]
  ·rw[if_neg h,if_neg h];exact gP ⟨oo,trivial⟩) (fun g=>if_neg (by simp))
 refine a.trans ?_;unfold B9;cases(List.range l.length).any fun j=>l.getD j 0==x <;> rfl
theorem n24(b:j6)(c:wf l6 b)(d:cnt l6 b<=1048576)(a:p6 b=true):Hd b=some (lV b,0):=by
 unfold Hd;rw[FL b c d,vS,a,HN b c a,vS,gP ⟨rfl,trivial⟩];exact(if_neg (by decide)).trans (gP ⟨rfl,trivial⟩)
theorem z0T(l:List Nat)(i:Nat):(l.map (fun v:Nat=>(v:Int))).getD i 0=(l.getD i 0:Int):=by
 rw[gq,gq,List.getElem?_map];cases l[i]? <;> rfl
section
variable {b:j6}
def C7(b:j6)(c:o5)(k:Nat)(sp:Sp):Sp×Sp:=vl (Ba (m7 b) c (k:Int) sp)
theorem RP{k:Nat}(a:k < (lV b).length):m0 (k:Int) 0 (((lV b).length:Int)-1)=true:=y9.2 oo
theorem RQ(g:wf l6 b)(f:cnt l6 b<=1048576)(e:p6 b=true){c:o5}(a:wf o8 c)(j:D3 c=true){k:Nat}(d:k < (lV b).length):∃dv lv,SpanV b c (k:Int) dv lv/\∀sp,A7 sp=true->C7 b c k sp=AJ dv lv sp/\Ba (m7 b) c (k:Int) sp=some (C7 b c k sp):=by
 obtain⟨dv,lv,h⟩:=H0O g f e a j (RP d);refine⟨dv,lv,h,fun sp i=>?_⟩;have:=h.spans (RP d) i;unfold C7;rw[this];exact⟨rfl,rfl⟩
theorem Kg(i:wf l6 b)(g:cnt l6 b<=1048576)(f:p6 b=true){c:o5}(a:wf o8 c)(l:D3 c=true){k:Nat}(j:k < (lV b).length){sp:Sp}(d:A7 sp=true):0<=(C7 b c k sp).1.1/\(C7 b c k sp).1.1<=(C7 b c k sp).1.2/\(C7 b c k sp).1.2<=5000000/\A7 (C7 b c k sp).2=true:=by
 obtain⟨m,n,h,e⟩:=RQ i g f a l j;rw[(e sp d).1];exact h.ok d
theorem m0E{s t:Sp}(b:A7 s=true)(a:A7 t=true):A7 (M3 s t)=true:=by
 grind[A7,C2,M3]
def CL(x:r5):Bool:=C2 x.1
abbrev D4(b:j6)(br:List Int):Nat->Bool:=fun i=>(A0 (lV b).length br).getD i false
def Ah(b:j6)(c:o5)(br:List Int)(ss:List M4)(T:Nat->Option r5)(v:Nat):Option r5:=AH (lV b).length (m5 b) (o9 b) (D4 b br) (C7 b c) (H7 ss) T v
def DN(b:j6)(c:o5)(br:List Int)(ss:List M4)(out:List Nat):Option (Nat->Option r5):=AI (lV b).length (m5 b) (o9 b) (D4 b br) (C7 b c) (H7 ss) CL out fun _=>none
structure OrdOk(b:j6)(br:List Int)(out:List Nat):Prop where
 nd:out.Nodup
 ahead:JY (lV b).length (m5 b) (o9 b) (D4 b br) [] out
 all:∀v,v<j5 b->v∈out
 lt:∀v∈out,v<j5 b
theorem z0X{M:Nat}{fr to:Nat->Nat}{lv:Nat->Bool}{N:Nat}{a:List Nat}(h:OGood M N fr to lv a):JY M fr to lv [] a:=by
 have c:∀(r d:List Nat),a=d++r->JY M fr to lv d r:=by
  intro r
  induction r with
  | nil=>intro d _; trivial
  | cons v r i =>
    intro d e;refine⟨fun k m g l=>?_,i (d++[v]) (by rw[e,List.append_assoc]; rfl)⟩;have j:a.getD d.length 0=v:=by rw[e,gq,List.getElem?_append_right (Nat.le_refl _),Nat.sub_self]; rfl
    have b:d.length<a.length:=by rw[e,List.length_append,List.length_cons]; omega
    obtain⟨p,f,n⟩:=h.bef k m g d.length b (by rw[j,l]);rw[<- n,e,gq,List.getElem?_append_left f,List.getElem?_eq_getElem f];exact List.getElem_mem f
 exact c a [] rfl
theorem I0f(_:p6 b=true){br:List Int}{a:List Nat}(h:N8 b (A0 (lV b).length br) [] (j5 b)=some a):OrdOk b br a:=by
 have j:OGood (lV b).length (j5 b) (m5 b) (o9 b) (D4 b br) []:=⟨List.nodup_nil,fun _ h=>(by cases h),fun i _ _ q k=>(Nat.not_lt_zero _ k).elim⟩;obtain⟨c,g⟩:=y0F (j5 b) [] a j h;rw[List.length_nil,Nat.zero_add] at g;refine⟨c.nd,z0X c,fun v l=>?_,c.lt⟩;by_cases f:v∈a
 ·exact f
 ·have:=RO (j5 b) (v :: a) (List.nodup_cons.2 ⟨f,c.nd⟩) (fun w d=>by
   rcases List.mem_cons.1 d with e | d
   ·omega
   ·exact c.lt w d)
  rw[List.length_cons] at this;omega
theorem p0X{ss:List M4}(h:∀s∈ss,C2 s.2.1=true/\A7 s.2.2=true)(v:Nat)(x:r5)(a:H7 ss v=some x):C2 x.1=true/\A7 x.2=true:=by
 grind[RG]
theorem s0b{c:o5}{br:List Int}{ss:List M4}{a:List Nat}(d:OrdOk b br a){T:Nat->Option r5}(h:DN b c br ss a=some T):∀v,v<j5 b->T v=Ah b c br ss T v/\DH CL (T v)=true:=fun v e=>k0i a [] (fun _=>none) T d.nd d.ahead h v (d.all v e)
theorem s0a(l:wf l6 b)(j:cnt l6 b<=1048576)(i:p6 b=true){c:o5}(f:wf o8 c)(o:D3 c=true){br:List Int}{ss:List M4}(g:∀s∈ss,C2 s.2.1=true/\A7 s.2.2=true){d:List Nat}{T:Nat->Option r5}(h:DN b c br ss d=some T)(v:Nat)(x:r5)(a:T v=some x):A7 x.2=true :=
 q0f (fun x=>A7 x.2=true) (fun v x a=>(p0X g v x a).2) (fun x y a m=>m0E a m) (fun k x n _ a=>(Kg l j i f o n a).2.2.2) d (fun _=>none) T (fun _ _ e=>by cases e) h v x a
end
theorem k0s(a b:Sp):M3 a b=M3 b a:=by
 unfold M3;rw[Int.min_comm,Int.max_comm]
section
variable {M:Nat} {fr to:Nat->Nat} {lv:Nat->Bool} {sp:Nat->Sp->Sp×Sp} {src:Nat->Option r5}
theorem y0D(P Q:r5->Prop)(h:∀v x,src v=some x->Q x)(g:∀x y,Q x->Q y->Q (M3 x.1 y.1,M3 x.2 y.2))(f:∀k x,k<M->lv k=true->P x->Q (R5 x.1 (sp k x.2).1,(sp k x.2).2)){T:Nat->Option r5}(i:∀v x,T v=some x->P x)(v:Nat):∀m,m<=M->∀x,fN (DG fr to lv sp T v) m (src v)=some x->Q x:=by
 intro m j;refine Xk (fun o:Option r5=>∀x,o=some x->Q x) m _ (h v) fun k o l b=>?_;unfold DG;split
 ·rename_i c;simp only[ba,beq_iff_eq] at c;cases e:T (fr k) with
  | none=>exact b
  | some y =>
    intro x a;have d:=f k y (by omega) c.1 (i _ _ e);cases o with
    | none =>
      have a:some (R5 y.1 (sp k y.2).1,(sp k y.2).2)=some x:=a;cases a;exact d
    | some z =>
      have a:some (M3 z.1 (R5 y.1 (sp k y.2).1),M3 z.2 (sp k y.2).2)=some x:=a;cases a;exact g _ _ (b z rfl) d
 ·exact b
end
section
variable {b:j6}
def F0M(x:r5):Prop:=(-1000000000<=x.1.1/\x.1.1<=x.1.2/\x.1.2<=1005000000)/\A7 x.2=true
theorem Ga{s:Sp}:C2 s=true ↔ -1000000000<=s.1/\s.1<=s.2/\s.2<=1000000000:=by
 unfold C2;simp only[ba,dq,y9];omega
theorem y0L(l:wf l6 b)(j:cnt l6 b<=1048576)(i:p6 b=true){c:o5}(e:wf o8 c)(q:D3 c=true){br:List Int}{ss:List M4}(f:∀s∈ss,C2 s.2.1=true/\A7 s.2.2=true){T:Nat->Option r5}(r:∀v x,T v=some x->C2 x.1=true/\A7 x.2=true)(v:Nat):∀m,m<=(lV b).length->∀x,fN (DG (m5 b) (o9 b) (D4 b br) (C7 b c) T v) m (H7 ss v)=some x->F0M x :=
 y0D (fun x=>C2 x.1=true/\A7 x.2=true) F0M (fun v x a=>by
  have h:=p0X f v x a;have d:=Ga.1 h.1;exact⟨⟨d.1,d.2.1,by omega⟩,h.2⟩) (fun x y a g=>by
  refine⟨?_,m0E a.2 g.2⟩;have:=a.1;have:=g.1;unfold M3;simp only;omega) (fun k x n _ a=>by
  have o:=Kg l j i e q n a.2;refine⟨?_,o.2.2.2⟩;have d:=Ga.1 a.1;unfold R5;simp only;omega) r v
structure BU(N:Nat)(t:NH):Prop where
 l1:t.1.length=N
 l2:t.2.1.length=N
 l3:t.2.2.length=N
 vals:∀v,v<N->C2 (t.2.1.getD v (0,0))=true/\A7 (t.2.2.getD v (0,0))=true/\(t.1.getD v false=false->t.2.1.getD v (0,0)=(0,0)/\t.2.2.getD v (0,0)=(0,0))
theorem q0V{N:Nat}{T:Nat->Option r5}(h:∀v,v<N->∀x,T v=some x->C2 x.1=true/\A7 x.2=true):BU N (C0 N T):=by
 refine⟨RE.1,RE.2.1,RE.2.2,fun v a=>?_⟩;unfold C0;simp only;rw[Kb _ N _ a,Kb _ N _ a,Kb _ N _ a];cases e:T v with
 | none=>exact⟨rfl,rfl,fun _=>⟨rfl,rfl⟩⟩
 | some x=>exact⟨(h v a x e).1,(h v a x e).2,fun b=>(by cases b)⟩
theorem u0K(l:wf l6 b)(j:cnt l6 b<=1048576)(g:p6 b=true){c:o5}(d:wf o8 c)(m:D3 c=true){br:List Int}{ss:List M4}(e:∀s∈ss,C2 s.2.1=true/\A7 s.2.2=true){a:List Nat}(i:OrdOk b br a){T:Nat->Option r5}(h:DN b c br ss a=some T):BU (j5 b) (C0 (j5 b) T) :=
 q0V fun v k x f=>by
  refine⟨?_,s0a l j g d m e h v x f⟩;have:=(s0b i h v k).2;rw[f] at this;exact this
end
theorem E0r{d:List Nat}{v:Nat}(h:v ∉ d)(r:List Nat):(d++v :: r).idxOf v=d.length:=by
 rw[List.idxOf_append,if_neg h,List.idxOf_cons_self];omega
theorem I0y{d:List Nat}{v:Nat}(h:v∈d)(r:List Nat):(d++r).idxOf v<d.length:=by
 rw[List.idxOf_append,if_pos h];exact List.idxOf_lt_length_of_mem h
theorem n0Q{M:Nat}{fr to:Nat->Nat}{lv:Nat->Bool}{k:Nat}(b:k<M)(a:lv k=true):∀(r d:List Nat),(d++r).Nodup->JY M fr to lv d r->to k∈r->fr k∈d++r/\(d++r).idxOf (fr k) < (d++r).idxOf (to k)
 | [],_,_,_,h=>by cases h
 | v :: r,d,hd,ha,h=>by
   by_cases e:to k=v
   ·have c:=ha.1 k b a e;have g:v ∉ d:=fun f=>(List.nodup_append.1 hd).2.2 v f v List.mem_cons_self rfl;rw[e,E0r g];exact⟨List.mem_append_left _ c,I0y c _⟩
   ·have:=n0Q b a r (d++[v]) (by rw[List.append_assoc]; exact hd) ha.2 (List.mem_of_ne_of_mem e h)
    rwa [List.append_assoc] at this
theorem OrdOk.pos{b:j6}{br:List Int}{a:List Nat}(h:OrdOk b br a){k:Nat}(e:k < (lV b).length)(c:D4 b br k=true)(d:o9 b k<j5 b):a.idxOf (m5 b k)<a.idxOf (o9 b k)/\m5 b k<j5 b:=by
 have:=n0Q e c a [] h.nd h.ahead (h.all _ d);exact⟨this.2,h.lt _ this.1⟩
theorem OrdOk.idx{b:j6}{br:List Int}{a:List Nat}(h:OrdOk b br a){v:Nat}(c:v<j5 b):a.idxOf v<a.length:=List.idxOf_lt_length_of_mem (h.all v c)
def P2(w:Nat->Int×Int)(fr:Nat->Nat):Nat->Nat->List Int->List Int×Int
 | 0,_,_=>([],0)
 | n+1,v,acc=>if(w v).2==0 then(if decide ((w v).1<0) then(acc,0) else P2 w fr n (fr (w v).1.toNat) ((w v).1 :: acc)) else([],(w v).2)
theorem v0v{e ρ:Type}{w:Nat->Int×Int}{fr:Nat->Nat}(a:Nat->Nat)(I:Nat->List Int->Prop)(h:∀v acc,I v acc->(w v).2=0->0<=(w v).1->I (fr (w v).1.toNat) ((w v).1 :: acc)/\a (fr (w v).1.toNat)<a v)(mk:Nat->List Int->e)(J:List Int->Option ρ)(E:Int->Option ρ){F:(e->Option ρ)->e->Option ρ}
  (i:∀g v acc,I v acc->F g (mk v acc)=if((w v).2==0)=true then(if decide ((w v).1<0)=true then J acc else g (mk (fr (w v).1.toNat) ((w v).1 :: acc))) else E (w v).2) (v:Nat) (acc:List Int) (d:I v acc) (q:a v<=9223372036854775806) :
  lp F (mk v acc)=if((P2 w fr (a v+1) v acc).2==0)=true then J (P2 w fr (a v+1) v acc).1 else E (P2 w fr (a v+1) v acc).2:=by
 have f:∀(n v:Nat) (acc:List Int),I v acc->a v<=n->∀k,H3 F (k+(n+1)) (mk v acc)=if((P2 w fr (n+1) v acc).2==0)=true then J (P2 w fr (n+1) v acc).1 else E (P2 w fr (n+1) v acc).2:=by
  intro n
  induction n with
  | zero =>
    intro v acc d l k;show F (H3 F k) (mk v acc)=_;rw[i _ _ _ d];unfold P2;by_cases c:((w v).2==0)=true
    ·rw[if_pos c,if_pos c];by_cases b:decide ((w v).1<0)=true
     ·rw[if_pos b,if_pos b]; rfl
     ·have:=(h v acc d (by simpa using c) (by simp only[dq] at b; omega)).2;omega
    ·rw[if_neg c,if_neg c,if_neg c]
  | succ n j =>
    intro v acc d l k;show F (H3 F (k+(n+1))) (mk v acc)=_;rw[i _ _ _ d];unfold P2;by_cases c:((w v).2==0)=true
    ·rw[if_pos c,if_pos c];by_cases b:decide ((w v).1<0)=true
     ·rw[if_pos b,if_pos b]; rfl
     ·rw[if_neg b,if_neg b];obtain⟨m,o⟩:=h v acc d (by simpa using c) (by simp only[dq] at b; omega);exact j _ _ m (by omega) k
    ·rw[if_neg c,if_neg c,if_neg c]
 exact BS (a v+1) (by omega) fun n=>f (a v) v acc d (Nat.le_refl _) n
theorem NO(s:Int×Int):O3 s=some (C2 s)/\U8 s=some (C2 s):=by
 have e:∀x,Fs x=some (m0 x (-1000000000) 1000000000):=fun _=>rfl;refine⟨?_,?_⟩
 ·unfold O3;rw[e,e,vS,vS];exact gP ⟨rfl,fun _=>rfl,trivial⟩
 ·unfold U8;rw[R2,R2,vS,vS];exact gP ⟨rfl,fun _=>rfl,trivial⟩
def Gb(n:Int)(l:List m8)(i:Nat):Bool:=!m0 (l.getD i (b7 y53)).1 0 (n-1)||!C2 (l.getD i (b7 y53)).2.1||!A7 (l.getD i (b7 y53)).2.2||decide (0 < (i:Int))&&decide ((l.getD i (b7 y53)).1<=(l.getD ((i:Int)-1).toNat (b7 y53)).1)
def K5(b:j6):Int:=2*((r4 b.2.1).length:Int)
def BV(b:j6)(l:List m8):Bool:=!(List.range l.length).any (Gb (K5 b) l)
theorem S0b(b:j6)(c:p6 b=true)(a:Int):T3 (m7 b) a=some (m0 a 0 (K5 b-1)):=by
 have e:K5 b=(j5 b:Int):=by
  unfold K5 j5;omega
 rw[e];exact Xy c a
theorem r66(b:j6)(d:p6 b=true)(l:List m8)(c:l.length<=9223372036854775807):Mt (m7 b) l=some (BV b l):=by
 have a:=F1 (n:=l.length) c (Gb (K5 b) l) (some false) (e:=some true) (F:=G0y (m7 b) l) (fun g i hi=>by
  have f:((i:Int)).toNat=i:=rfl;refine(if_pos (by simpa using hi)).trans ?_;rw[f,gP ⟨oo,trivial⟩,lE,S0b b d,vS,(NO _).1,vS,(RA _).1,vS,gP ⟨rfl,(fun _=>rfl),(fun _=>rfl),(fun h=>⟨by have:=of_decide_eq_true h.1; omega,by omega⟩),(fun h=>⟨by have:=of_decide_eq_true h.1; omega,by omega⟩),trivial⟩,gP ⟨oo,trivial⟩];rfl) (fun g=>aE)
 unfold Mt BV;refine a.trans ?_;cases(List.range l.length).any (Gb (K5 b) l) <;> rfl
theorem r44(b:j6)(j:wf l6 b)(d:p6 b=true)(l:List m8)(f:l.length<=9223372036854775807):Lw b l=some (BV b l):=by
 have a:=R3 (U0 d).1;have m:(L7 b.2.1.1.length b.2.1.2.2.length (m9 b.2.1) (A5 b.2.1)).length<=78:=a.len;have e:J5 b=some (K5 b):=by
  unfold J5;rw[Dy b.2.1 j.2.1 a.fac.ni14 a.fac.np8 a.pin,vS,gP ⟨rfl,oo,trivial⟩,lE];rfl
 have o:0<=K5 b/\K5 b<=156:=by
  have:(r4 b.2.1).length<=78:=m;unfold K5;omega
 have c:=F1 (n:=l.length) f (Gb (K5 b) l) (some false) (e:=some true) (F:=G0L l (K5 b)) (fun g i hi=>by
  have k:((i:Int)).toNat=i:=rfl;refine(if_pos (by simpa using hi)).trans ?_;rw[k,R2,vS,(NO _).2,vS,(RA _).2,vS,gP ⟨oo,oo,rfl,(fun h=>⟨by have:=of_decide_eq_true h.1; omega,by omega⟩),(fun h=>⟨by have:=of_decide_eq_true h.1; omega,by omega⟩),(fun _=>oo),(fun _=>oo),(fun _=>rfl),(fun _=>oo),(fun _=>rfl),trivial⟩,gP ⟨oo,trivial⟩];unfold Gb;cases m0 (l.getD i (b7 y53)).1 0 (K5 b-1) <;> cases C2 (l.getD i (b7 y53)).2.1 <;> cases A7 (l.getD i (b7 y53)).2.2 <;> cases decide (0 < (i:Int)) <;> cases decide ((l.getD i (b7 y53)).1<=(l.getD ((i:Int)-1).toNat (b7 y53)).1) <;> rfl) (fun g=>aE)
 unfold Lw;rw[e,vS,gP ⟨rfl,trivial⟩,lE];refine c.trans ?_;unfold BV;cases(List.range l.length).any (Gb (K5 b) l) <;> rfl
def zs(s:Int×Int):Bool:=s.1==0&&(s.2==0&&true)
def Ie(t:u3)(i:Nat):Bool:=!C2 (t.2.1.getD i (b7 y51))||!A7 (t.2.2.getD i (b7 y51))||!t.1.getD i false&&(!zs (t.2.1.getD i (b7 y51))||!zs (t.2.2.getD i (b7 y51)))
def BW(n:Int)(t:u3):Bool:=(t.1.length:Int) != n||(t.2.1.length:Int) != n||(t.2.2.length:Int) != n
def CM(n:Int)(t:u3):Bool:=!BW n t&&!(List.range t.1.length).any (Ie t)
theorem m0w{n:Int}{t:u3}(h:BW n t=false):t.2.1.length=t.1.length/\t.2.2.length=t.1.length:=by
 unfold BW at h;simp only[Bool.or_eq_false_iff,bne_eq_false_iff_eq] at h;omega
theorem r38(b:j6)(f:p6 b=true)(t:u3)(h:wf y44 t):Lz (m7 b) t=some (CM (K5 b) t):=by
 have m:=(R3 (U0 f).1).len;have e:∀s:List B6,IX s=some (s.length:Int):=fun _=>rfl;have l:∀s:List Bool,IW s=some (s.length:Int):=fun _=>rfl;have d:∀s:List w7,GQ s=some (s.length:Int):=fun _=>rfl;have k:P7 (m7 b)=some (K5 b):=by
  unfold P7;rw[e,vS,gP ⟨rfl,⟨by show _<=2*((r4 b.2.1).length:Int); omega,by show 2*((r4 b.2.1).length:Int)<=_; omega⟩,trivial⟩,lE];rfl
 have a:t.1.length<=9223372036854775807:=h.1.1;unfold Lz;rw[k,vS,gP ⟨rfl,trivial⟩,lE,l,d,d,vS,vS,vS,gP ⟨rfl,(fun _=>rfl),(fun _=>rfl),trivial⟩,lE];show(if BW (K5 b) t=true then some false else _)=_;unfold CM;cases hc:BW (K5 b) t with
 | true=>rfl
 | false =>
   obtain⟨q,o⟩:=m0w hc;have c:=F1 (n:=t.1.length) a (Ie t) (some false) (e:=some true) (F:=G0P t) (fun g i hi=>by
    have j:((i:Int)).toNat=i:=rfl;refine(if_pos (by simpa using hi)).trans ?_;rw[j,gP ⟨oo,trivial⟩,(NO _).1,vS,(RA _).1,vS,gP ⟨oo,rfl,(fun _=>oo),(fun _=>rfl),(fun _=>oo),(fun _=>oo),trivial⟩,lE,gP ⟨oo,trivial⟩];rfl) (fun g=>aE)
   refine(if_neg (by simp)).trans (c.trans ?_);cases(List.range t.1.length).any (Ie t) <;> rfl
theorem O0u(n:Int)(t:u3)(c:wf y44 t):Mc n t=some (CM n t):=by
 have a:t.1.length<=9223372036854775807:=c.1.1;unfold Mc;show(if BW n t=true then some false else _)=_;unfold CM;cases hc:BW n t with
 | true=>rfl
 | false =>
   obtain⟨h,f⟩:=m0w hc;have b:=F1 (n:=t.1.length) a (Ie t) (some false) (e:=some true) (F:=B0G t) (fun g i hi=>by
    have d:((i:Int)).toNat=i:=rfl;refine(if_pos (by simpa using hi)).trans ?_;rw[d,(NO _).2,vS,(RA _).2,vS,gP ⟨oo,rfl,(fun _=>oo),(fun _=>rfl),(fun _=>oo),(fun _=>oo),(fun _=>oo),trivial⟩,lE,gP ⟨oo,trivial⟩];rfl) (fun g=>aE)
   refine(if_neg (by simp)).trans (b.trans ?_);cases(List.range t.1.length).any (Ie t) <;> rfl
section
variable {b:j6}
theorem XA:K5 b=(j5 b:Int):=by
 unfold K5 j5;omega
theorem k0d{n:Int}{l:List m8}{i:Nat}:Gb n l i=false↔((0<=(l.getD i (b7 y53)).1/\(l.getD i (b7 y53)).1<n)/\C2 (l.getD i (b7 y53)).2.1=true/\A7 (l.getD i (b7 y53)).2.2=true)/\(0<i->(l.getD (i-1) (b7 y53)).1 < (l.getD i (b7 y53)).1):=by
 have e:((i:Int)-1).toNat=i-1:=by omega
 unfold Gb;rw[e];simp only[Bool.or_eq_false_iff,Bool.not_eq_false',Bool.and_eq_false_iff,decide_eq_false_iff_not,y9];constructor
 ·rintro⟨⟨⟨a,c⟩,d⟩,f⟩;exact⟨⟨⟨a.1,by omega⟩,c,d⟩,fun b=>by rcases f with f | f <;> omega⟩
 ·rintro⟨⟨a,c,d⟩,f⟩;refine⟨⟨⟨⟨a.1,by omega⟩,c⟩,d⟩,?_⟩;by_cases b:0<i
  ·exact .inr (by have:=f b; omega)
  ·exact .inl (by omega)
theorem x0U{l:List m8}:BV b l=true↔∀i,i<l.length->((0<=(l.getD i (b7 y53)).1/\(l.getD i (b7 y53)).1 < (j5 b:Int))/\C2 (l.getD i (b7 y53)).2.1=true/\A7 (l.getD i (b7 y53)).2.2=true)/\(0<i->(l.getD (i-1) (b7 y53)).1 < (l.getD i (b7 y53)).1):=by
 unfold BV;rw[BM,XA];exact⟨fun h i hi=>k0d.1 (h i hi),fun h i hi=>k0d.2 (h i hi)⟩
theorem u0s{l:List m8}(h:BV b l=true):BT l/\∀s∈l,(0<=s.1/\s.1 < (j5 b:Int))/\C2 s.2.1=true/\A7 s.2.2=true:=by
 have f:=x0U.1 h;constructor
 ·refine List.pairwise_iff_getElem.2 fun i j hi d a=>?_;have c:∀k,i<k->k<l.length->(l.getD i (b7 y53)).1 < (l.getD k (b7 y53)).1:=by
   intro k
   induction k with
   | zero=>intro o; omega
   | succ k m =>
     intro q g;have s:=(f (k+1) g).2 (by omega);rw[Nat.add_sub_cancel] at s;by_cases e:i=k
     ·subst e; exact s
     ·exact Int.lt_trans (m (by omega) (by omega)) s
  have:=c j a d
  rwa [gq,List.getElem?_eq_getElem hi,gq,List.getElem?_eq_getElem d] at this
 ·intro s n;obtain⟨i,hi,rfl⟩:=List.mem_iff_getElem.1 n;have:=(f i hi).1
  rwa [gq,List.getElem?_eq_getElem hi] at this
theorem A0b{s:Int×Int}:zs s=true↔s=(0,0):=by
 obtain⟨x,y⟩:=s;unfold zs;simp
theorem XB{t:u3}:CM (K5 b) t=true↔BU (j5 b) t:=by
 have j:b7 y51=((0:Int),(0:Int)):=rfl;unfold CM;rw[ba,BM,XA];have e:∀i,Ie t i=false↔(C2 (t.2.1.getD i (0,0))=true/\A7 (t.2.2.getD i (0,0))=true/\(t.1.getD i false=false->t.2.1.getD i (0,0)=(0,0)/\t.2.2.getD i (0,0)=(0,0))):=fun i=>by
  unfold Ie;rw[j,<- A0b,<- A0b];generalize zs (t.2.1.getD i (0,0))=z1;generalize zs (t.2.2.getD i (0,0))=z2;generalize C2 (t.2.1.getD i (0,0))=s1;generalize A7 (t.2.2.getD i (0,0))=s2;generalize t.1.getD i false=r;cases z1 <;> cases z2 <;> cases s1 <;> cases s2 <;> cases r <;> simp
 constructor
 ·rintro⟨f,g⟩;have f:BW (j5 b:Int) t=false:=by simpa using f
  unfold BW at f;simp only[Bool.or_eq_false_iff,bne_eq_false_iff_eq] at f;obtain⟨⟨a,c⟩,d⟩:=f;exact⟨by omega,by omega,by omega,fun v k=>(e v).1 (g v (by omega))⟩
 ·rintro⟨a,c,d,h⟩;refine⟨?_,fun i hi=>(e i).2 (h i (by omega))⟩;have:BW (j5 b:Int) t=false:=by
   unfold BW;rw[a,c,d];simp
  rw[this];rfl
theorem s0k{c:o5}{br:List Int}{ss:List M4}(d:p6 b=true){T U:Nat->Option r5}(h:∀v,v<j5 b->T v=U v)(v:Nat):Ah b c br ss T v=Ah b c br ss U v :=
 i0k fun _ a _ _=>h _ (J8 b d a).2.2.1
end
end Go.Proofs.YtdjgagoledoaaaaGreatDoor
end

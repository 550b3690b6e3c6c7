/- Division that rounds, and what a table says at a place: the program's functions and the reference's. -/
import Derived.Test.YtphnknndgfgepaaGreatDoorWC
import Derived.Test.YtphnknndgfgepaaGreatDoorWF
section
namespace Go.Proofs.YtphnknndgfgepaaGreatDoor
open Go Go.Proofs Go.Proofs.Xv Go.Proofs.Xl Go.Proofs.Xd
theorem r227(a b:Int):u227 a b=some (decide (a<b)):=by
 unfold u227;have e:∀a,u252 a=some (a != a):=fun _=>rfl;rw[e,e,gP ⟨rfl,fun _=>rfl,trivial⟩,vS,vS];simp
theorem r233{xs:List Int}{x:Int}(hn:xs.length<=4611686018427387903){p:Nat}(hp:p<xs.length)(h1:∀i,i<p->xs.getD i 0<x)(h2:∀i,p<=i->i<xs.length->x<=xs.getD i 0):u233 xs x=some ((p:Int),xs.getD p 0==x):=by
 have key:∀(m i j:Nat),i<=p->p<=j->j<=xs.length->j-i<m->itF (u233L1 xs x) m ((i:Int),(j:Int))=some ((p:Int),xs.getD p 0==x):=by
  intro m
  induction m with
  | zero=>intro i j _ _ _ h; omega
  | succ m ih =>
    intro i j hi hj hjn hm;show u233L1 xs x (itF (u233L1 xs x) m) ((i:Int),(j:Int))=_;rw[u233L1];by_cases hij:i<j
    ·have hmid:(i+j) / 2<xs.length:=by omega
     have e3:((((i+j) / 2:Nat)):Int).toNat=(i+j) / 2:=rfl;rw[if_pos (by simpa using hij),mid_nat,gP ⟨oo,oo,⟨⟨by decide,by decide⟩,by omega,by omega⟩,oo,trivial⟩,e3,r227,gP ⟨oo,rfl,trivial⟩,vS];by_cases hc:xs.getD ((i+j) / 2) 0<x
     ·rw[if_pos (by simpa using hc),gP ⟨oo,trivial⟩];have hpm:(i+j) / 2<p:=by
       apply Nat.lt_of_not_le;intro hle;have:=h2 _ hle hmid; omega
      have:=ih ((i+j) / 2+1) j (by omega) hj hjn (by omega);simpa using this
     ·rw[if_neg (by simpa using hc)];have hpm:p<=(i+j) / 2:=by
       apply Nat.le_of_not_lt;intro hle;have:=h1 _ hle; omega
      exact ih i ((i+j) / 2) hi hpm (by omega) (by omega)
    ·have e:i=p:=by omega
     subst e;rw[if_neg (by simpa using hij),u233J0];have e3:((i:Int)).toNat=i:=rfl;have e4:decide ((i:Int) < (xs.length:Int))=true:=by simpa using hp
     have e5:∀a,u253 a=some (a != a):=fun _=>rfl;rw[e3,e4,e5,e5,gP ⟨fun _=>oo,fun _=>oo,fun _=>rfl,fun _=>rfl,trivial⟩,vS,vS];simp
 unfold u233;have:=key big 0 xs.length (by omega) (by omega) (Nat.le_refl _) (by simp only[big]; omega);exact this
def clampI(xs:List Int)(x:Int):Int:=min (max x (xs.getD 0 0)) (xs.getD (xs.length-1) 0)
theorem r195{xs:List Int}(x:Int)(h:isAxis xs=true):∃(p:Nat) (a b:Int),p<xs.length/\u192 xs x=some ((p:Int),a,b) /\
  ((a=1/\b=0/\u195 xs x=some ([((p:Int),1)],1)) ∨
    (p+1<xs.length/\0<a/\0<b/\a+b<=100000/\u195 xs x=some ([((p:Int),a),((p:Int)+1,b)],a+b))):=by
 obtain⟨l1,l4⟩:=axis_len h;have e1:((xs.length:Int)-1).toNat=xs.length-1:=by omega
 have c0:xs.getD 0 0<=clampI xs x:=by
  have:xs.getD 0 0<=xs.getD (xs.length-1) 0:=by
   by_cases hl:xs.length=1
   ·rw[hl]; exact Int.le_refl _
   ·have:=axis_lt h (by omega:0<xs.length-1) (by omega); omega
  unfold clampI; omega
 have c1:clampI xs x<=xs.getD (xs.length-1) 0:=by unfold clampI; omega
 obtain⟨p,hp,h1,h2⟩:=axis_at h c0 c1;have down:∀(q:Nat) (r:Option (Int×Int×Int)),(∀g,u192L1 xs (clampI xs x) g (q:Int)=r)->(∀i,q<i->i<xs.length->clampI xs x<xs.getD i 0)->q<xs.length->lp (u192L1 xs (clampI xs x)) ((xs.length:Int)-1)=r:=by
  intro q r hq hgt hlt;have key:∀(m k:Nat),q+k<xs.length->k<m->itF (u192L1 xs (clampI xs x)) m ((q+k:Nat):Int)=r:=by
   intro m
   induction m with
   | zero=>intro k _ h; omega
   | succ m ih =>
     intro k hk hm;show u192L1 xs (clampI xs x) (itF (u192L1 xs (clampI xs x)) m) ((q+k:Nat):Int)=r;by_cases h0:k=0
     ·subst h0; exact hq _
     ·have hg:=hgt (q+k) (by omega) hk;have e3:(((q+k:Nat):Int)).toNat=q+k:=rfl;have n1:¬(clampI xs x=xs.getD (q+k) 0):=by omega
      have n2:¬(xs.getD (q+k) 0<clampI xs x):=by omega
      rw[u192L1,if_pos (by simp; omega),gP ⟨oo,trivial⟩,e3,if_neg (by simpa using n1),gP ⟨oo,trivial⟩,if_neg (by simpa using n2),gP ⟨oo,trivial⟩];have e4:(((q+k:Nat):Int))-1=((q+(k-1):Nat):Int):=by omega
      rw[e4];exact ih (k-1) (by omega) (by omega)
  have:=key big (xs.length-1-q) (by omega) (by simp only[big]; omega);have e5:((q+(xs.length-1-q):Nat):Int)=(xs.length:Int)-1:=by omega
  rw[e5] at this;exact this
 have e3:∀n:Nat,((n:Int)).toNat=n:=fun _=>rfl;by_cases hf:xs.getD p 0=clampI xs x
 ·refine⟨p,1,0,hp,?_,.inl ⟨rfl,rfl,?_⟩⟩
  ·unfold u192;rw[gP ⟨oo,trivial⟩,gP ⟨oo,oo,trivial⟩,e1];change lt (clampI xs x) _=_;rw[lE,gP ⟨oo,trivial⟩];refine down p _ (fun g=>?_) (fun i hi hl=>?_) hp
   ·rw[u192L1,if_pos (by simp),gP ⟨oo,trivial⟩,e3,if_pos (by simpa using hf.symm)]
   ·have:=axis_lt h hi hl; omega
  ·unfold u195;rw[gP ⟨oo,oo,oo,trivial⟩,e1];change lt (clampI xs x) _=_;rw[lE,r233 (by omega) hp h1 h2,gP ⟨rfl,trivial⟩,vS,lE,if_pos (by simpa using hf)]
 ·have hgt:clampI xs x<xs.getD p 0:=by have:=h2 p (Nat.le_refl _) hp; omega
  have hp0:0<p:=by
   apply Nat.pos_of_ne_zero;intro h0; subst h0; omega
  obtain⟨q,rfl⟩:∃q,p=q+1:=⟨p-1,by omega⟩;have hlt:=h1 q (by omega);have b1:=axis_in h hp;have b2:=axis_in h (by omega:q<xs.length);refine⟨q,xs.getD (q+1) 0-clampI xs x,clampI xs x-xs.getD q 0,by omega,?_,.inr ⟨hp,by omega,by omega,by omega,?_⟩⟩
  ·unfold u192;rw[gP ⟨oo,trivial⟩,gP ⟨oo,oo,trivial⟩,e1];change lt (clampI xs x) _=_;rw[lE,gP ⟨oo,trivial⟩];refine down q _ (fun g=>?_) (fun i hi hl=>?_) (by omega)
   ·have e6:((q:Int)+1).toNat=q+1:=by omega
    have n1:¬(clampI xs x=xs.getD q 0):=by omega
    rw[u192L1,if_pos (by simp),gP ⟨oo,trivial⟩,e3,if_neg (by simpa using n1),gP ⟨oo,trivial⟩,if_pos (by simpa using hlt),e6,gP ⟨oo,oo,oo,oo,oo,trivial⟩]
   ·by_cases hq:i=q+1
    ·subst hq; exact hgt
    ·have:=axis_lt h (by omega:q+1<i) hl; omega
  ·have e6:(((q+1:Nat):Int)-1).toNat=q:=by omega
   have e7:((q+1:Nat):Int)-1=(q:Int):=by omega
   unfold u195;rw[gP ⟨oo,oo,oo,trivial⟩,e1];change lt (clampI xs x) _=_;rw[lE,r233 (by omega) hp h1 h2,gP ⟨rfl,trivial⟩,vS,lE,if_neg (by simpa using hf),e6,e3,gP ⟨oo,oo,oo,oo,oo,oo,oo,oo,oo,oo,trivial⟩,lE,e7];congr 2;omega
def celV(t:Y140)(r q:Nat):Int:=t.2.2.getD (r*t.2.1.length+q) 0
def rowX(t:Y140)(r q:Nat)(w c d:Int):Int:=celV t r q*w*c+celV t r (q+1)*w*d
theorem cel_bd{t:Y140}(ht:isTable t=true){r q:Nat}(hr:r<t.1.length)(hq:q<t.2.1.length){w c:Int}(w0:0<=w)(w1:w<=100000)(c0:0<=c)(c1:c<=100000) :
  (-100000000000<=celV t r q*w/\celV t r q*w<=100000000000) /\ -10000000000000000<=celV t r q*w*c/\celV t r q*w*c<=10000000000000000:=by
 obtain⟨_,_,_,_,hl,_,_⟩:=table_len ht;have h:=table_in ht (i:=r*t.2.1.length+q) (by have:=row_ix hr hq; omega);have h1:=mul_bd (A:=1000000) h.1 h.2 w0 w1 (by decide);have h2:=mul_bd (A:=100000000000) (B:=100000) (x:=celV t r q*w) (by unfold celV; omega) (by unfold celV; omega) c0 c1 (by decide);unfold celV at *
 omega
def Sh(n q:Nat)(c d:Int)(M:List (Int×Int)):Prop:=(c=1/\d=0/\M=[((q:Int),1)])∨(q+1<n/\0<c/\0<d/\c+d<=100000/\M=[((q:Int),c),((q:Int)+1,d)])
theorem rowX_bd{t:Y140}(ht:isTable t=true){r q:Nat}(hr:r<t.1.length)(hq:q<t.2.1.length){w c d:Int}{M:List (Int×Int)}(hM:Sh t.2.1.length q c d M)(w0:0<=w)(w1:w<=100000) : -20000000000000000<=rowX t r q w c d/\rowX t r q w c d<=20000000000000000:=by
 unfold rowX;rcases hM with ⟨rfl,rfl,_⟩ | ⟨hq1,c0,d0,hcd,_⟩
 ·have h1:=(cel_bd ht hr hq w0 w1 (c:=1) (by decide) (by decide)).2;rw[Int.mul_zero]; omega
 ·have h1:=(cel_bd ht hr hq w0 w1 (c:=c) (by omega) (by omega)).2;have h2:=(cel_bd ht hr hq1 w0 w1 (c:=d) (by omega) (by omega)).2;omega
theorem look3{t:Y140}(ht:isTable t=true){r q:Nat}(hr:r<t.1.length)(hq:q<t.2.1.length){w c:Int}(w0:0<=w)(w1:w<=100000)(c0:0<=c)(c1:c<=100000){R:Int}(hR:R=(r:Int)){v1:List Y225×Int}{v11:Int}{g1 g3:Int×Int->Option Int}{s:Int}(s0 : -100000000000000000<=s)(s1:s<=100000000000000000){i:Nat}(hi:i<v1.1.length)(hn:v1.1.length<=2)
  {Q:Int} (hQ:Q=(q:Int)) (he:v1.1.getD i (dflt y225)=(Q,c)):u161L3 t (R,w) v1 v11 g1 g3 (s,(i:Int))=g3 (s+celV t r q*w*c,(i:Int)+1):=by
 subst hR; subst hQ;obtain⟨_,a4,_,b4,hl,_,h16⟩:=table_len ht;have hix:=row_ix hr hq;have hb:=cel_bd ht hr hq w0 w1 c0 c1;have e3:((i:Int)).toNat=i:=rfl;have em:(r:Int)*(t.2.1.length:Int)=((r*t.2.1.length:Nat):Int):=by simp
 have ek:(((r*t.2.1.length:Nat):Int)+(q:Int)).toNat=r*t.2.1.length+q:=by omega
 rw[u161L3,if_pos (by simpa using hi),e3,gP ⟨oo,hi,trivial⟩,lE,he];unfold celV at hb ⊢;show gd (in64 ((r:Int)*(t.2.1.length:Int))/\in64 ((r:Int)*(t.2.1.length:Int)+(q:Int))/\ix ((r:Int)*(t.2.1.length:Int)+(q:Int)) t.2.2.length/\in64 (t.2.2.getD ((r:Int)*(t.2.1.length:Int)+(q:Int)).toNat 0*w)/\in64 (t.2.2.getD ((r:Int)*(t.2.1.length:Int)+(q:Int)).toNat 0*w*c)/\in64 (s+t.2.2.getD ((r:Int)*(t.2.1.length:Int)+(q:Int)).toNat 0*w*c)/\True) (lt (s+t.2.2.getD ((r:Int)*(t.2.1.length:Int)+(q:Int)).toNat 0*w*c) fun v18=>gd _ (g3 (v18,(i:Int)+1)))=_;rw[em,ek,gP ⟨oo,oo,oo,oo,oo,oo,trivial⟩,lE,gP ⟨oo,trivial⟩]
theorem lookE{t:Y140}{v12:Y225}{v1:List Y225×Int}{v11:Nat}(hv:v11<=2){g1 g3:Int×Int->Option Int}{s:Int}:u161L3 t v12 v1 (v11:Int) g1 g3 (s,(v1.1.length:Int))=g1 (s,(v11:Int)+1):=by
 rw[u161L3,if_neg (by simp),u161J2,gP ⟨oo,trivial⟩]
theorem itF_s{σ ρ:Type}{F:(σ->Option ρ)->σ->Option ρ}{n:Nat}{s:σ}:itF F (n+1) s=F (itF F n) s:=rfl
theorem nat01:((0:Nat):Int)+1=((1:Nat):Int):=rfl
theorem nat12:((1:Nat):Int)+1=((2:Nat):Int):=rfl
theorem lookR{t:Y140}(ht:isTable t=true){r q:Nat}(hr:r<t.1.length)(hq:q<t.2.1.length){w c d:Int}{M:List (Int×Int)}(hM:Sh t.2.1.length q c d M)(w0:0<=w)(w1:w<=100000){R T:Int}(hR:R=(r:Int)){v11:Nat}(hv:v11<=2){g1:Int×Int->Option Int}{s:Int}(s0 : -50000000000000000<=s)(s1:s<=50000000000000000) :
  lp (u161L3 t (R,w) (M,T) (v11:Int) g1) (s,0)=g1 (s+rowX t r q w c d,(v11:Int)+1):=by
 unfold rowX;rcases hM with ⟨rfl,rfl,rfl⟩ | ⟨hq1,c0,d0,hcd,rfl⟩
 ·refine lp_of 2 (by decide) fun n=>?_;rw[itF_s];refine(look3 (v1:=([((q:Int),1)],T)) (i:=0) (s:=s) (c:=1) ht hr hq w0 w1 (by decide) (by decide) hR (by omega) (by omega) (Nat.le_refl 1) (Nat.le_succ 1) rfl rfl).trans ?_;rw[Int.mul_zero,Int.add_zero,itF_s,nat01];exact lookE (v1:=([((q:Int),1)],T)) hv
 ·have hb:=(cel_bd ht hr hq w0 w1 (c:=c) (by omega) (by omega)).2;refine lp_of 3 (by decide) fun n=>?_;rw[itF_s];refine(look3 (v1:=([((q:Int),c),((q:Int)+1,d)],T)) (i:=0) (s:=s) (c:=c) ht hr hq w0 w1 (by omega) (by omega) hR (by omega) (by omega) (Nat.le_succ 1) (Nat.le_refl 2) rfl rfl).trans ?_;rw[itF_s,nat01];refine(look3 (v1:=([((q:Int),c),((q:Int)+1,d)],T)) (i:=1) (s:=s+celV t r q*w*c) (c:=d) (q:=q+1) ht hr hq1 w0 w1 (by omega) (by omega) hR (by omega) (by omega) (Nat.le_refl 2) (Nat.le_refl 2) (Int.natCast_succ q).symm rfl).trans ?_;rw[<- Int.add_assoc,itF_s,nat12];exact lookE (v1:=([((q:Int),c),((q:Int)+1,d)],T)) hv
theorem slook6{t:Y140}(ht:isTable t=true){p u r q k:Nat}(hpu:r=p+u)(hr:r<t.1.length)(hq:q<t.2.1.length){w c W:Int}(w0:0<=w)(w1:w<=100000)(c0:0<=c)(c1:c<=100000)(hW:W=w*c){v0 v1:Int×Int×Int}(h0:v0.1=(p:Int)){q0:Nat}(h1:v1.1=(q0:Int))(hk:q=q0+k)(hk2:k<=1)(hu:u<=1){g3:Int×Int->Option Int}{s:Int}(s0 : -100000000000000000<=s)(s1:s<=100000000000000000) :
  u153J6 (k:Int) s t v0 (u:Int) v1 g3 W=g3 (s+celV t r q*w*c,(k:Int)+1):=by
 obtain⟨_,a4,_,b4,hl,_,h16⟩:=table_len ht;have hix:=row_ix hr hq;have hb:=cel_bd ht hr hq w0 w1 c0 c1;subst hpu; subst hk;have em:((p:Int)+(u:Int))*(t.2.1.length:Int)=(((p+u)*t.2.1.length:Nat):Int):=by simp
 have ek:((((p+u)*t.2.1.length:Nat):Int)+(q0:Int)+(k:Int)).toNat=(p+u)*t.2.1.length+(q0+k):=by omega
 have hW2:W*celV t (p+u) (q0+k)=celV t (p+u) (q0+k)*w*c:=by rw[hW,Int.mul_comm,<- Int.mul_assoc]
 rw[u153J6];by_cases hp:0<W
 ·unfold celV at hb hW2 ⊢;rw[if_pos (by simpa using hp),h0,h1,em,ek,hW2,gP ⟨oo,oo,oo,oo,oo,oo,oo,trivial⟩,lE,u153J4,gP ⟨oo,trivial⟩]
 ·have hW0:W=0:=by
   have:0<=w*c:=Int.mul_nonneg w0 c0;omega
  have e0:celV t (p+u) (q0+k)*w*c=0:=by rw[<- hW2,hW0,Int.zero_mul]
  rw[if_neg (by simpa using hp),u153J4,gP ⟨oo,trivial⟩,e0,Int.add_zero]
theorem slook6z{t:Y140}{u k:Nat}{v0 v1:Int×Int×Int}(hk2:k<=1){g3:Int×Int->Option Int}{s W:Int}(hW:W=0):u153J6 (k:Int) s t v0 (u:Int) v1 g3 W=g3 (s,(k:Int)+1):=by
 subst hW;rw[u153J6,if_neg (by simp),u153J4,gP ⟨oo,trivial⟩]
theorem in_mul{w c:Int}(w0:0<=w)(w1:w<=100000)(c0:0<=c)(c1:c<=100000):in64 (w*c)/\True:=by
 have:=mul_bd (A:=100000) (B:=100000) (x:=w) (y:=c) (by omega) w1 c0 c1 (by decide);exact⟨oo,trivial⟩
theorem slook3{t:Y140}{u k:Nat}(hk:k<=1){v0 v1:Int×Int×Int}{g1 g3:Int×Int->Option Int}{s w e:Int}(hw:(if(u:Int)=1 then v0.2.2 else v0.2.1)=w)(he:(if k=0 then v1.2.1 else v1.2.2)=e)(w0:0<=w)(w1:w<=100000)(e0:0<=e)(e1:e<=100000) :
  u153L3 t v0 (u:Int) v1 g1 g3 (s,(k:Int))=u153J6 (k:Int) s t v0 (u:Int) v1 g3 (w*e):=by
 have key:∀W,W=w->u153J5 (k:Int) s t v0 (u:Int) v1 g3 W=u153J6 (k:Int) s t v0 (u:Int) v1 g3 (w*e):=by
  intro W hW;subst hW;rw[u153J5];by_cases h0:k=0
  ·subst h0;have he':v1.2.1=e:=he;rw[if_pos (by rfl),he',gP (in_mul w0 w1 e0 e1)]
  ·rw[if_neg h0] at he;rw[if_neg (by simpa using h0),he,gP (in_mul w0 w1 e0 e1)]
 rw[u153L3,if_pos (by simp; omega)];by_cases hu:(u:Int)=1
 ·rw[if_pos hu] at hw;rw[if_pos (by simpa using hu)];exact key _ hw
 ·rw[if_neg hu] at hw;rw[if_neg (by simpa using hu)];exact key _ hw
theorem slookE{t:Y140}{u:Nat}(hu:u<=1){v0 v1:Int×Int×Int}{g1 g3:Int×Int->Option Int}{s:Int}:u153L3 t v0 (u:Int) v1 g1 g3 (s,((2:Nat):Int))=g1 (s,(u:Int)+1):=by
 rw[u153L3,if_neg (by simp),u153J2,gP ⟨oo,trivial⟩]
theorem slookR{t:Y140}(ht:isTable t=true){p u r q:Nat}(hpu:r=p+u)(hu:u<=1)(hr:r<t.1.length)(hq:q<t.2.1.length){a b w c d:Int}{M:List (Int×Int)}(hM:Sh t.2.1.length q c d M)(hw:(if(u:Int)=1 then b else a)=w)(w0:0<=w)(w1:w<=100000){g1:Int×Int->Option Int}{s:Int}(s0 : -50000000000000000<=s)(s1:s<=50000000000000000) :
  lp (u153L3 t ((p:Int),a,b) (u:Int) ((q:Int),c,d) g1) (s,0)=g1 (s+rowX t r q w c d,(u:Int)+1):=by
 have hcd:0<=c/\c<=100000/\0<=d/\d<=100000:=by
  rcases hM with ⟨rfl,rfl,_⟩ | ⟨_,_,_,_,_⟩ <;> omega
 obtain⟨c0,c1,d0,d1⟩:=hcd;have hb:=(cel_bd ht hr hq w0 w1 c0 c1).2;refine lp_of 3 (by decide) fun n=>?_;rw[itF_s];refine(slook3 (k:=0) (e:=c) (by decide) hw rfl w0 w1 c0 c1).trans ?_;refine(slook6 ht hpu hr hq w0 w1 c0 c1 rfl rfl (q0:=q) rfl (k:=0) rfl (by decide) hu (by omega) (by omega)).trans ?_;rw[itF_s,nat01];refine(slook3 (k:=1) (e:=d) (by decide) hw rfl w0 w1 d0 d1).trans ?_;unfold rowX;rcases hM with ⟨rfl,rfl,_⟩ | ⟨hq1,_,_,_,_⟩
 ·refine(slook6z (by decide) (Int.mul_zero w)).trans ?_;rw[itF_s,nat12,slookE hu,Int.mul_zero,Int.add_zero]
 ·refine(slook6 ht hpu hr hq1 w0 w1 d0 d1 rfl rfl (q0:=q) rfl (k:=1) rfl (by decide) hu (by omega) (by omega)).trans ?_;rw[itF_s,nat12,slookE hu,Int.add_assoc]
theorem slookZ{t:Y140}{p u q:Nat}(hu:u<=1){a b c d:Int}(hw:(if(u:Int)=1 then b else a)=0)(c0:0<=c)(c1:c<=100000)(d0:0<=d)(d1:d<=100000){g1:Int×Int->Option Int}{s:Int} :
  lp (u153L3 t ((p:Int),a,b) (u:Int) ((q:Int),c,d) g1) (s,0)=g1 (s,(u:Int)+1):=by
 refine lp_of 3 (by decide) fun n=>?_;rw[itF_s];refine(slook3 (k:=0) (e:=c) (by decide) hw rfl (by decide) (by decide) c0 c1).trans ?_;refine(slook6z (by decide) (Int.zero_mul _)).trans ?_;rw[itF_s,nat01];refine(slook3 (k:=1) (e:=d) (by decide) hw rfl (by decide) (by decide) d0 d1).trans ?_;refine(slook6z (by decide) (Int.zero_mul _)).trans ?_;rw[itF_s,nat12,slookE hu]
theorem shape{xs:List Int}(x:Int)(h:isAxis xs=true):∃(p:Nat) (a b:Int) (L:List (Int×Int)),p<xs.length/\Sh xs.length p a b L/\u192 xs x=some ((p:Int),a,b)/\u195 xs x=some (L,a+b):=by
 obtain⟨p,a,b,hp,h1,h2⟩:=r195 x h;rcases h2 with ⟨rfl,rfl,h3⟩ | ⟨h3,h4,h5,h6,h7⟩
 ·exact⟨p,1,0,_,hp,.inl ⟨rfl,rfl,rfl⟩,h1,h3⟩
 ·exact⟨p,a,b,_,hp,.inr ⟨h3,h4,h5,h6,rfl⟩,h1,h7⟩
theorem look1{t:Y140}(ht:isTable t=true){p q:Nat}(hp:p<t.1.length)(hq:q<t.2.1.length){a b c d:Int}{L M:List (Int×Int)}(hL:Sh t.1.length p a b L)(hM:Sh t.2.1.length q c d M)(T U m:Int) :
  lp (u161L1 t (M,U) (L,T) m) (0,0)=u161J0 (L,T) (M,U) m (rowX t p q a c d+(if b=0 then 0 else rowX t (p+1) q b c d)):=by
 have e3:∀n:Nat,((n:Int)).toNat=n:=fun _=>rfl;rcases hL with ⟨rfl,rfl,rfl⟩ | ⟨hp1,a0,b0,hab,rfl⟩
 ·refine lp_of 2 (by decide) fun n=>?_;rw[itF_s,u161L1,if_pos (by simp),gP ⟨⟨by decide,by simp⟩,by simp,trivial⟩,lE];refine(lookR (v11:=0) ht hp hq hM (w:=1) (by decide) (by decide) rfl (by decide) (by decide) (by decide)).trans ?_;rw[itF_s,nat01,u161L1,if_neg (by simp),if_pos rfl,Int.zero_add,Int.add_zero]
 ·have hb:=rowX_bd ht hp hq hM (w:=a) (by omega) (by omega);refine lp_of 3 (by decide) fun n=>?_;rw[itF_s,u161L1,if_pos (by simp),gP ⟨⟨by decide,by simp⟩,by simp,trivial⟩,lE];refine(lookR (v11:=0) ht hp hq hM (w:=a) (by omega) (by omega) rfl (by decide) (by decide) (by decide)).trans ?_;rw[itF_s,nat01,u161L1,if_pos (by simp),gP ⟨⟨by decide,by simp⟩,by simp,trivial⟩,lE];refine(lookR (v11:=1) ht hp1 hq hM (w:=b) (by omega) (by omega) (Int.natCast_succ p).symm (by decide) (by omega) (by omega)).trans ?_;rw[itF_s,nat12,u161L1,if_neg (by simp),if_neg (by omega),Int.zero_add]
theorem slook1{t:Y140}(ht:isTable t=true){p q:Nat}(hp:p<t.1.length)(hq:q<t.2.1.length){a b c d:Int}{L M:List (Int×Int)}(hL:Sh t.1.length p a b L)(hM:Sh t.2.1.length q c d M)(m:Int) :
  lp (u153L1 t ((p:Int),a,b) ((q:Int),c,d) m) (0,0)=u153J0 ((p:Int),a,b) ((q:Int),c,d) m (rowX t p q a c d+(if b=0 then 0 else rowX t (p+1) q b c d)):=by
 have hab:0<=a/\a<=100000/\0<=b/\b<=100000/\(b≠0->p+1<t.1.length):=by
  rcases hL with ⟨rfl,rfl,_⟩ | ⟨_,_,_,_,_⟩ <;> omega
 obtain⟨a0,a1,b0,b1,hp1⟩:=hab;have hcd:0<=c/\c<=100000/\0<=d/\d<=100000:=by
  rcases hM with ⟨rfl,rfl,_⟩ | ⟨_,_,_,_,_⟩ <;> omega
 obtain⟨c0,c1,d0,d1⟩:=hcd;have hb:=rowX_bd ht hp hq hM a0 a1;refine lp_of 3 (by decide) fun n=>?_;rw[itF_s,u153L1,if_pos (by simp)];refine(slookR (u:=0) (p:=p) (r:=p) (w:=a) ht rfl (by decide) hp hq hM rfl a0 a1 (by decide) (by decide)).trans ?_;rw[itF_s,nat01,u153L1,if_pos (by simp)];by_cases hz:b=0
 ·subst hz;refine(slookZ (u:=1) (by decide) rfl c0 c1 d0 d1).trans ?_;rw[itF_s,nat12,u153L1,if_neg (by simp),if_pos rfl,Int.zero_add,Int.add_zero]
 ·refine(slookR (u:=1) (p:=p) (r:=p+1) (w:=b) ht rfl (by decide) (hp1 hz) hq hM rfl b0 b1 (by omega) (by omega)).trans ?_;rw[itF_s,nat12,u153L1,if_neg (by simp),if_neg hz,Int.zero_add]
theorem cel_in{t:Y140}(ht:isTable t=true){r q:Nat}(hr:r<t.1.length)(hq:q<t.2.1.length) : -1000000<=celV t r q/\celV t r q<=1000000:=by
 obtain⟨_,_,_,_,hl,_,_⟩:=table_len ht;exact table_in ht (i:=r*t.2.1.length+q) (by have:=row_ix hr hq; omega)
theorem wt_bd{v w c:Int}(h1 : -1000000<=v)(h2:v<=1000000)(w0:0<=w)(c0:0<=c) : -(1000000*(w*c))<=v*w*c/\v*w*c<=1000000*(w*c):=by
 have hwc:0<=w*c:=Int.mul_nonneg w0 c0;rw[Int.mul_assoc];refine⟨?_,Int.mul_le_mul_of_nonneg_right h2 hwc⟩;have:=Int.mul_le_mul_of_nonneg_right h1 hwc;rw[Int.neg_mul] at this;exact this
theorem rowX_wt{t:Y140}(ht:isTable t=true){r q:Nat}(hr:r<t.1.length)(hq:q<t.2.1.length){w c d:Int}{M:List (Int×Int)}(hM:Sh t.2.1.length q c d M)(w0:0<=w) : -(1000000*(w*(c+d)))<=rowX t r q w c d/\rowX t r q w c d<=1000000*(w*(c+d)):=by
 unfold rowX;have v1:=cel_in ht hr hq;rcases hM with ⟨rfl,rfl,_⟩ | ⟨hq1,c0,d0,hcd,_⟩
 ·have h1:=wt_bd v1.1 v1.2 w0 (c:=1) (by decide);rw[Int.mul_zero,Int.add_zero,Int.add_zero]; exact h1
 ·have v2:=cel_in ht hr hq1;have h1:=wt_bd v1.1 v1.2 w0 (c:=c) (by omega);have h2:=wt_bd v2.1 v2.2 w0 (c:=d) (by omega);rw[Int.mul_add w,Int.mul_add 1000000];omega
theorem r1612{t:Y140}(ht:isTable t=true)(s l m:Int):∃r,u161 t s l m=some r/\u153 t s l m=some r /\ -1000000<=r/\r<=1000000:=by
 have hax:isAxis t.1=true/\isAxis t.2.1=true:=by
  simp only[isTable,ba] at ht;exact⟨ht.1.1.1,ht.1.1.2⟩
 obtain⟨p,a,b,L,hp,hL,h1,h2⟩:=shape s hax.1;obtain⟨q,c,d,M,hq,hM,h3,h4⟩:=shape l hax.2;have hab:0<=a/\0<=b/\1<=a+b/\a+b<=100000/\a<=100000/\b<=100000/\(b≠0->p+1<t.1.length):=by
  rcases hL with ⟨rfl,rfl,_⟩ | ⟨_,_,_,_,_⟩ <;> omega
 have hcd:1<=c+d/\c+d<=100000:=by
  rcases hM with ⟨rfl,rfl,_⟩ | ⟨_,_,_,_,_⟩ <;> omega
 have hm:=mul_bd (A:=100000) (B:=100000) (x:=a+b) (y:=c+d) (by omega) (by omega) (by omega) (by omega) (by decide);have hpos:0 < (a+b)*(c+d):=Int.mul_pos (by omega) (by omega);have x1:=rowX_wt ht hp hq hM (w:=a) (by omega);have x2 : -(1000000*(b*(c+d)))<=(if b=0 then 0 else rowX t (p+1) q b c d)/\(if b=0 then 0 else rowX t (p+1) q b c d)<=1000000*(b*(c+d)):=by
  by_cases hz:b=0
  ·rw[if_pos hz,hz,Int.zero_mul]; decide
  ·rw[if_neg hz]; exact rowX_wt ht (hab.2.2.2.2.2.2 hz) hq hM (by omega)
 have ed:1000000*((a+b)*(c+d))=1000000*(a*(c+d))+1000000*(b*(c+d)):=by rw[Int.add_mul,Int.mul_add 1000000]
 obtain⟨hr1,hr2⟩:=r1622 (rowX t p q a c d+(if b=0 then 0 else rowX t (p+1) q b c d)) ((a+b)*(c+d)) m (by omega) (by omega) hpos;have hbd:=divV_bd (a:=rowX t p q a c d+(if b=0 then 0 else rowX t (p+1) q b c d)) (K:=1000000) m hpos (by omega) (by omega);have i1:in64 ((a+b)*(c+d)):=oo;have i2:in64 (a+b):=oo;have i3:in64 (c+d):=oo;refine⟨_,?_,?_,hbd⟩
 ·unfold u161;rw[h2,gP ⟨rfl,trivial⟩,vS,lE,h4,gP ⟨rfl,trivial⟩,vS,lE,look1 ht hp hq hL hM,u161J0,hr1,gP ⟨i1,rfl,trivial⟩,vS,lE]
 ·unfold u153;rw[h1,gP ⟨rfl,trivial⟩,vS,lE,h3,gP ⟨rfl,trivial⟩,vS,lE,slook1 ht hp hq hL hM,u153J0,hr2,gP ⟨i2,i3,i1,rfl,trivial⟩,vS,lE]
end Go.Proofs.YtphnknndgfgepaaGreatDoor
end
section
namespace Go.Proofs.YtphnknndgfgepaaGreatDoor
open Go Go.Proofs Go.Proofs.Sv Go.Proofs.Xv Go.Proofs.Xl Go.Proofs.Xd
section
variable {b:Y34}
theorem load_at(b:Y34){n:Nat}(h:n<b.2.2.length):(viewV b).2.2.2.1.getD ((n:Int)).toNat 0=(loadsV b n).getD 0 0/\ix (n:Int) (viewV b).2.2.2.1.length:=by
 have h1:(viewV b).2.2.2.1.length=b.2.2.length:=appF_len _ _;exact⟨appF_get _ 0 _ n h,oo⟩
theorem dels_at(b:Y34){n:Nat}(h:n<b.2.2.length):(viewV b).2.2.2.2.1.getD ((n:Int)).toNat []=exactV b n/\ix (n:Int) (viewV b).2.2.2.2.1.length:=by
 have h1:(viewV b).2.2.2.2.1.length=b.2.2.length:=appF_len _ _;exact⟨appF_get _ [] _ n h,oo⟩
def facV(c:Y65)(k m:Int):Int:=if(k==1)=true then(if(m==0)=true then c.2.1 else c.2.2.1) else(if(m==0)=true then c.2.2.2.1 else c.2.2.2.2)
theorem r164(c:Y65)(k m:Int):u164 c k m=some (facV c k m):=by
 unfold u164 facV;by_cases h1:(k==1)=true
 ·rw[if_pos h1];by_cases h2:(m==0)=true
  ·rw[if_pos (by rw[h1,h2]; rfl),if_pos h2,if_pos h1]
  ·rw[if_neg (by rw[h1,Bool.true_and]; exact h2),if_pos h1,if_neg h2]
 ·rw[if_neg h1,if_neg (by rw[ba]; exact fun h=>h1 h.1),if_neg h1];by_cases h2:(m==0)=true
  ·rw[if_pos h2,if_pos h2]
  ·rw[if_neg h2,if_neg h2]
theorem r157(c:Y65)(k m:Int):u157 c k m=some (facV c k m):=by
 unfold u157 facV;by_cases h1:(k==1)=true
 ·rw[if_pos h1,if_pos h1];by_cases h2:(m==0)=true
  ·rw[if_pos h2,if_pos h2]
  ·rw[if_neg h2,if_neg h2]
 ·rw[if_neg h1,if_neg h1];by_cases h2:(m==0)=true
  ·rw[if_pos h2,if_pos h2]
  ·rw[if_neg h2,if_neg h2]
def cornerB(c:Y65):Bool:=nmB c.1&&(decide (100<=c.2.1)&&decide (c.2.1<=c.2.2.1)&&decide (c.2.2.1<=5000))&&(decide (100<=c.2.2.2.1)&&decide (c.2.2.2.1<=c.2.2.2.2)&&decide (c.2.2.2.2<=5000))
theorem fac_bd{c:Y65}(h:cornerB c=true)(k m:Int):0<=facV c k m/\facV c k m<=5000:=by
 unfold cornerB at h;simp only[ba,dq] at h;unfold facV;split <;> split <;> omega
theorem r103ay2(hw:wf y34 b)(hb:blockOk b=true){c:Y65}(hc:cornerB c=true){q:Int}(hq:inB q 0 (((lV b).length:Int)-1)=true)(s m:Int) :
  ∃r,u103 (viewV b) c q s m=some r/\u99 b c ((lV b).getD q.toNat (dflt y48)) s m=some r /\ -6000000<=r/\r<=6000000:=by
 have hq:=inB_iff.1 hq;have hqx:ix q (viewV b).2.2.1.length:=⟨hq.1,by show q < ((lV b).length:Int); omega⟩;generalize hl:(lV b).getD q.toNat (dflt y48)=l;have hl':(viewV b).2.2.1.getD q.toNat (dflt y48)=l:=hl;have hmem:l∈lV b:=by rw[<- hl]; exact getD_mem (by omega)
 have hf:=fac_bd hc l.2.2.1 m;have tail:∀p:Int,-1000000<=p->p<=1000000->u103J0 c l m p=some (divV (p*facV c l.2.2.1 m) 1000 m)/\u99J0 c l m p=some (divV (p*facV c l.2.2.1 m) 1000 m) /\ -6000000<=divV (p*facV c l.2.2.1 m) 1000 m/\divV (p*facV c l.2.2.1 m) 1000 m<=6000000:=fun p p0 p1=>by
  have hp:=mul_bd (A:=1000000) (B:=5000) (x:=p) (y:=facV c l.2.2.1 m) (by omega) (by omega) (by omega) (by omega) (by decide);have hd:=r1622 (p*facV c l.2.2.1 m) 1000 m (by omega) (by omega) (by decide);have hv:=divV_bd (a:=p*facV c l.2.2.1 m) (b:=1000) (K:=6000000) m (by decide) (by omega) (by omega);have hsc:u163 p (facV c l.2.2.1 m) m=some (divV (p*facV c l.2.2.1 m) 1000 m):=by
   unfold u163;rw[hd.1,vS,gP ⟨oo,rfl,trivial⟩,lE]
  refine⟨?_,?_,hv⟩
  ·rw[u103J0,r164,vS,hsc,vS,gP ⟨rfl,rfl,trivial⟩,lE]
  ·rw[u99J0,r157,vS,hd.2,vS,gP ⟨rfl,oo,rfl,trivial⟩,lE]
 rcases link_facts hb hmem with ⟨a,n,h⟩ | ⟨n,k,h⟩
 ·obtain⟨t1,t2⟩:=tables_at h.del h.trs;obtain⟨r,l1,l2,l3,l4⟩:=r1612 t2 s ((loadsV b n).getD 0 0) m;obtain⟨g1,g2⟩:=load_at b h.nlt;obtain⟨d1,d2,d3⟩:=tail r l3 l4;refine⟨_,?_,?_,d3⟩
  ·unfold u103;refine(gP ⟨hqx,trivial⟩).trans ?_;rw[lE,hl',r160 h.pix h.net,vS,gP ⟨rfl,trivial⟩,lE];refine(if_pos (by rw[h.kind]; rfl)).trans ?_;rw[r105 h,vS,g1,l1,vS];refine(gP ⟨rfl,by decide,t1,g2,rfl,trivial⟩).trans ?_;rw[lE];exact d1
  ·unfold u99;refine(if_pos (by rw[h.kind]; rfl)).trans ?_;rw[r152 hw hb h,vS,gP ⟨rfl,trivial⟩,lE];show gd (_/\ix (l.2.1.tmod 2) a.2.2.2.2.1.length/\(u153 (a.2.2.2.2.1.getD (l.2.1.tmod 2).toNat (dflt y140)) s ((loadsV b n).getD 0 0) m).isSome=true/\True) (lt (vl (u153 (a.2.2.2.2.1.getD (l.2.1.tmod 2).toNat (dflt y140)) s ((loadsV b n).getD 0 0) m)) fun v1=>u99J0 c l m v1)=_;rw[l2,vS,gP ⟨by decide,t1,rfl,trivial⟩,lE];exact d2
 ·have no:=net_ok hb h.nlt;obtain⟨dl,db⟩:=no.delays;have hd:=db (nodeS b n k).toNat;obtain⟨g1,g2⟩:=dels_at b h.nlt;have hel:=exact_len b n;have hkl:=h.klt;have hsl:=sdelV_len b n m;have e4:((k:Int)).toNat=k:=rfl;have hv:=divV_bd (a:=(delaysV b n).getD (nodeS b n k).toNat 0) (b:=1000) (K:=301000) m (by decide) (by omega) (by omega);obtain⟨d1,d2,d3⟩:=tail (divV ((delaysV b n).getD (nodeS b n k).toNat 0) 1000 m) (by omega) (by omega);refine⟨_,?_,?_,d3⟩
  ·unfold u103;refine(gP ⟨hqx,trivial⟩).trans ?_;rw[lE,hl',r160 h.pix h.net,vS,gP ⟨rfl,trivial⟩,lE];refine(if_neg (by rw[h.kind]; decide)).trans ?_;rw[g1,h.idx,e4,exact_get hkl,(r1622 _ 1000 m (by omega) (by omega) (by decide)).1,vS];refine(gP ⟨g2,oo,rfl,trivial⟩).trans ?_;rw[lE];exact d1
  ·unfold u99;refine(if_neg (by rw[h.kind]; decide)).trans ?_;rw[r155 hw hb h,vS,r154 b hw no,vS,h.idx,e4,gP ⟨rfl,rfl,oo,by omega,trivial⟩,lE,sdelV_get hkl];exact d2
theorem r102(hb:blockOk b=true)(q:Int):u102 (viewV b) q=some (inB q 0 (((lV b).length:Int)-1)):=by
 have hl:=links_len hb;have e:u159 (viewV b).2.2.1=some ((lV b).length:Int):=rfl;unfold u102;rw[e,vS,r150,vS,gP ⟨rfl,oo,rfl,trivial⟩]
theorem r93(s:Int):u93 s=some (inB s 0 1000000):=by
 unfold u93;rw[r150,vS,gP ⟨rfl,trivial⟩]
def modeB(m:Int):Bool:=m==0||m==1
theorem r94(m:Int):u94 m=some (modeB m):=rfl
theorem r98(m:Int):u98 m=some (modeB m):=rfl
def codeL(b:Y34)(q s m:Int):Int:=if inB q 0 (((lV b).length:Int)-1)=true then(if(inB s 0 1000000&&modeB m)=true then 0 else 2) else 4
theorem r104(hw:wf y34 b)(hb:blockOk b=true)(q s m:Int):u104 b q s m=some (codeL b q s m):=by
 have hl:=links_len hb;unfold u104 codeL;rw[r59 b hw hb,vS,r97,gP ⟨rfl,oo,rfl,trivial⟩,lE,r97,vS];cases h1:inB q 0 (((lV b).length:Int)-1) with
 | false=>rfl
 | true =>
   refine(if_neg (by simp)).trans ?_;rw[if_pos rfl,r97,vS,r98,vS,gP ⟨rfl,(fun _=>rfl),trivial⟩];cases inB s 0 1000000 <;> cases modeB m <;> rfl
end
theorem link_ix{b:Y34}{q:Int}(h:inB q 0 (((lV b).length:Int)-1)=true):ix q (lV b).length/\q.toNat < (lV b).length:=by
 have:=inB_iff.1 h;exact⟨oo,by omega⟩
def lkF(b:Y34)(q s m r:Int):Int×Int:=if inB q 0 (((lV b).length:Int)-1)=true then(if(inB s 0 1000000&&modeB m)=true then(r,0) else(0,2)) else(0,4)
theorem r52(c:Y65)(hc:wf y65 c):u52 c=some (cornerB c):=by
 have ef:∀a b,u110 a b=some (decide (100<=a)&&decide (a<=b)&&decide (b<=5000)):=fun _ _=>rfl;unfold u52 cornerB;rw[r109 _ hc.1,vS,ef,vS,ef,vS,gP ⟨rfl,(fun _=>rfl),(fun _=>rfl),trivial⟩]
def facBad(c:Y65)(i:Nat):Bool:=!inB ([c.2.1,c.2.2.1,c.2.2.2.1,c.2.2.2.2].getD i 0) 100 5000
theorem r96(c:Y65)(hc:wf y65 c):u96 c=some (cornerB c):=by
 unfold u96;rw[lE];have key:=lp_all (n:=4) (by decide) (facBad c) (some false) (e:=u96J0 c ()) (F:=u96L1 [c.2.1,c.2.2.1,c.2.2.2.1,c.2.2.2.2] c) (fun g i hi=>by
  have e3:((i:Int)).toNat=i:=rfl;have hl:([c.2.1,c.2.2.1,c.2.2.2.1,c.2.2.2.2]:List Int).length=4:=rfl;refine(if_pos (decide_eq_true (by rw[hl]; omega))).trans ?_;rw[e3,r97,vS,gP ⟨⟨by omega,by rw[hl]; omega⟩,hi,rfl,trivial⟩,gP ⟨oo,trivial⟩];rfl) (fun g=>by
  show u96L1 [c.2.1,c.2.2.1,c.2.2.2.1,c.2.2.2.2] c g (((4:Nat):Int))=_;rw[u96L1];exact if_neg (by simp))
 refine key.trans ?_;have ej:u96J0 c ()=some (nmB c.1&&decide (c.2.1<=c.2.2.1)&&decide (c.2.2.2.1<=c.2.2.2.2)):=by
  unfold u96J0;rw[r151 _ hc.1,vS,gP ⟨rfl,trivial⟩]
 rw[ej];have ea:(List.range 4).any (facBad c)=(!inB c.2.1 100 5000||(!inB c.2.2.1 100 5000||(!inB c.2.2.2.1 100 5000||(!inB c.2.2.2.2 100 5000||false)))):=rfl;have eq:(if(List.range 4).any (facBad c)=true then false else(nmB c.1&&decide (c.2.1<=c.2.2.1)&&decide (c.2.2.2.1<=c.2.2.2.2)))=cornerB c:=by
  rw[ea,Bool.eq_iff_iff];unfold cornerB inB;by_cases h:(!(decide (100<=c.2.1)&&decide (c.2.1<=5000))||(!(decide (100<=c.2.2.1)&&decide (c.2.2.1<=5000))||(!(decide (100<=c.2.2.2.1)&&decide (c.2.2.2.1<=5000))||(!(decide (100<=c.2.2.2.2)&&decide (c.2.2.2.2<=5000))||false))))=true
  ·rw[if_pos h];simp only[Bool.or_eq_true,Bool.not_eq_true',Bool.and_eq_false_iff,decide_eq_false_iff_not,Bool.false_eq_true,or_false] at h;simp only[ba,dq,Bool.false_eq_true,false_iff];rintro⟨⟨_,h1⟩,h2⟩;omega
  ·rw[if_neg h];simp only[Bool.or_eq_true,Bool.not_eq_true',Bool.and_eq_false_iff,decide_eq_false_iff_not,Bool.false_eq_true,or_false] at h;simp only[ba,dq];constructor
   ·rintro⟨⟨h1,h2⟩,h3⟩;exact⟨⟨h1,by omega⟩,by omega⟩
   ·rintro⟨⟨h1,h2⟩,h3⟩;exact⟨⟨h1,by omega⟩,by omega⟩
 rw[<- eq];split <;> rfl
def ldF(b:Y34)(c:Y65)(q s m r:Int):Int×Int:=if(blockOk b&&cornerB c)=true then lkF b q s m r else(0,1)
theorem q47(b:Y34)(hw:wf y34 b)(hm:cnt y34 b<=1048576)(c:Y65)(hc:wf y65 c)(q s m r:Int)(hr:blockOk b=true->cornerB c=true->inB q 0 (((lV b).length:Int)-1)=true->u103 (viewV b) c q s m=some r):u47 b c q s m=some (ldF b c q s m r):=by
 unfold u47 ldF lkF;rw[r65 b hw hm,vS,r52 c hc,vS,gP ⟨rfl,(fun _=>rfl),trivial⟩];cases hb:blockOk b with
 | false=>rfl
 | true =>
   cases hc':cornerB c with
   | false=>rfl
   | true =>
     refine(if_neg (by simp)).trans ?_;rw[r66 b hw hb,vS,gP ⟨rfl,trivial⟩,lE,r102 hb,vS,gP ⟨rfl,trivial⟩];cases h1:inB q 0 (((lV b).length:Int)-1) with
     | false=>rfl
     | true =>
       refine(if_neg (by simp)).trans ?_;rw[r93,vS,r94,vS,gP ⟨rfl,(fun _=>rfl),trivial⟩];cases h2:inB s 0 1000000 with
       | false=>rfl
       | true =>
         cases h3:modeB m with
         | false=>rfl
         | true =>
           refine(if_neg (by simp)).trans ?_;rw[hr hb hc' h1,vS,gP ⟨rfl,trivial⟩,lE];rfl
theorem q48(b:Y34)(hw:wf y34 b)(hm:cnt y34 b<=1048576)(c:Y65)(hc:wf y65 c)(q s m r:Int)(hr:blockOk b=true->cornerB c=true->inB q 0 (((lV b).length:Int)-1)=true->u99 b c ((lV b).getD q.toNat (dflt y48)) s m=some r):u48 b c q s m=some (ldF b c q s m r):=by
 unfold u48 ldF lkF;rw[r23 b hw hm,vS,r96 c hc,vS,gP ⟨rfl,(fun _=>rfl),trivial⟩];cases hb:blockOk b with
 | false=>rfl
 | true =>
   cases hc':cornerB c with
   | false=>rfl
   | true =>
     refine(if_neg (by simp)).trans ?_;rw[r104 hw hb,vS,gP ⟨rfl,trivial⟩,lE];unfold codeL;cases h1:inB q 0 (((lV b).length:Int)-1) with
     | false=>rfl
     | true =>
       cases h2:inB s 0 1000000 with
       | false=>rfl
       | true =>
         cases h3:modeB m with
         | false=>rfl
         | true =>
           obtain⟨x1,x2⟩:=link_ix h1;refine(if_neg (by simp)).trans ?_;rw[r59 b hw hb,vS,hr hb hc' h1,vS,gP ⟨rfl,x1,x2,rfl,trivial⟩,lE];rfl
theorem both_ld(b:Y34)(hw:wf y34 b)(hm:cnt y34 b<=1048576)(c:Y65)(hc:wf y65 c)(q s m:Int):∃v:Int×Int,u47 b c q s m=some v/\u48 b c q s m=some v:=by
 by_cases h:blockOk b=true/\cornerB c=true/\inB q 0 (((lV b).length:Int)-1)=true
 ·obtain⟨hb,hc',h1⟩:=h;obtain⟨r,e1,e2,_⟩:=r103ay2 hw hb hc' h1 s m;exact⟨_,q47 b hw hm c hc q s m r (fun _ _ _=>e1),q48 b hw hm c hc q s m r (fun _ _ _=>e2)⟩
 ·exact⟨_,q47 b hw hm c hc q s m 0 (fun a b c=>(h ⟨a,b,c⟩).elim),q48 b hw hm c hc q s m 0 (fun a b c=>(h ⟨a,b,c⟩).elim)⟩
end Go.Proofs.YtphnknndgfgepaaGreatDoor
end
section
namespace Go.Proofs.YtphnknndgfgepaaGreatDoor
open Go Go.Proofs Go.Proofs.Xv Go.Proofs.Xl Go.Proofs.Xd
theorem divV_pos{a b:Int}(m:Int)(ha:0<=a)(hb:0<b):0<=divV a b m:=by
 unfold divV;have h1:=Int.emod_nonneg a (Int.ne_of_gt hb);have h2:0<=a / b:=Int.ediv_nonneg ha (Int.le_of_lt hb);rw[Int.tdiv_eq_ediv_of_nonneg ha,Int.tmod_eq_emod_of_nonneg ha,if_neg (by rw[ba,dq]; omega)];split <;> omega
theorem minN_le(xs:List Int):∀n i,i<=n->fN (fun i m=>min m (xs.getD (i+1) 0)) n (xs.getD 0 0)<=xs.getD i 0
 | 0,i,h=>by
   have:i=0:=by omega
   subst this;exact Int.le_refl _
 | n+1,i,h=>by
   show min (fN (fun i m=>min m (xs.getD (i+1) 0)) n (xs.getD 0 0)) (xs.getD (n+1) 0)<=_;rcases Nat.lt_or_ge n i with h' | h'
   ·have:i=n+1:=by omega
    subst this;omega
   ·have:=minN_le xs n i h';omega
theorem tables_pos{l:List DTbl}(h:areTables l true=true){t:DTbl}(ht:t∈l):∀i,i<t.2.2.length->0<=t.2.2.getD i 0:=fun i hi=>by
 unfold areTables at h;rw[ba] at h;have:=List.all_eq_true.1 h.2 t ht;simp only[Bool.true_and,ba,Bool.not_eq_true',decide_eq_false_iff_not] at this;have h1:=minN_le t.2.2 (t.2.2.length-1) i (by omega);have h2:¬minN t.2.2<0:=this.2;unfold minN at h2;omega
theorem rowX_pos{t:Y140}(hp:∀i,i<t.2.2.length->0<=t.2.2.getD i 0){r q:Nat}{w c d:Int}(w0:0<=w)(c0:0<=c)(d0:0<=d):0<=rowX t r q w c d:=by
 have hv:∀r q,0<=celV t r q:=fun r q=>by
  unfold celV;rcases Nat.lt_or_ge (r*t.2.1.length+q) t.2.2.length with h | h
  ·exact hp _ h
  ·rw[gq,List.getElem?_eq_none h]; exact Int.le_refl _
 unfold rowX;have h1:=Int.mul_nonneg (Int.mul_nonneg (hv r q) w0) c0;have h2:=Int.mul_nonneg (Int.mul_nonneg (hv r (q+1)) w0) d0;omega
theorem look_pos{t:Y140}(ht:isTable t=true)(hp:∀i,i<t.2.2.length->0<=t.2.2.getD i 0)(s l m:Int):∀r,u161 t s l m=some r->0<=r:=by
 intro r hr;have hax:isAxis t.1=true/\isAxis t.2.1=true:=by
  simp only[isTable,ba] at ht;exact⟨ht.1.1.1,ht.1.1.2⟩
 obtain⟨p,a,b,L,hpp,hL,h1,h2⟩:=shape s hax.1;obtain⟨q,c,d,M,hq,hM,h3,h4⟩:=shape l hax.2;have hab:0<=a/\0<=b/\1<=a+b/\a+b<=100000/\a<=100000/\b<=100000/\(b≠0->p+1<t.1.length):=by
  rcases hL with ⟨rfl,rfl,_⟩ | ⟨_,_,_,_,_⟩ <;> omega
 have hcd:0<=c/\0<=d/\1<=c+d/\c+d<=100000:=by
  rcases hM with ⟨rfl,rfl,_⟩ | ⟨_,_,_,_,_⟩ <;> omega
 have hm:=mul_bd (A:=100000) (B:=100000) (x:=a+b) (y:=c+d) (by omega) (by omega) (by omega) (by omega) (by decide);have hpos:0 < (a+b)*(c+d):=Int.mul_pos (by omega) (by omega);have x1:=rowX_wt ht hpp hq hM (w:=a) (by omega);have x2 : -(1000000*(b*(c+d)))<=(if b=0 then 0 else rowX t (p+1) q b c d)/\(if b=0 then 0 else rowX t (p+1) q b c d)<=1000000*(b*(c+d)):=by
  by_cases hz:b=0
  ·rw[if_pos hz,hz,Int.zero_mul]; decide
  ·rw[if_neg hz]; exact rowX_wt ht (hab.2.2.2.2.2.2 hz) hq hM (by omega)
 have y1:=rowX_pos hp (r:=p) (q:=q) hab.1 hcd.1 hcd.2.1;have y2:0<=(if b=0 then 0 else rowX t (p+1) q b c d):=by
  split
  ·exact Int.le_refl _
  ·exact rowX_pos hp hab.2.1 hcd.1 hcd.2.1
 have ed:1000000*((a+b)*(c+d))=1000000*(a*(c+d))+1000000*(b*(c+d)):=by rw[Int.add_mul,Int.mul_add 1000000]
 have hr1:=(r1622 (rowX t p q a c d+(if b=0 then 0 else rowX t (p+1) q b c d)) ((a+b)*(c+d)) m (by omega) (by omega) hpos).1;have i1:in64 ((a+b)*(c+d)):=oo;have key:u161 t s l m=some (divV (rowX t p q a c d+(if b=0 then 0 else rowX t (p+1) q b c d)) ((a+b)*(c+d)) m):=by
  unfold u161;rw[h2,gP ⟨rfl,trivial⟩,vS,lE,h4,gP ⟨rfl,trivial⟩,vS,lE,look1 ht hpp hq hL hM,u161J0,hr1,gP ⟨i1,rfl,trivial⟩,vS,lE]
 rw[key] at hr;cases hr;exact divV_pos m (by omega) hpos
end Go.Proofs.YtphnknndgfgepaaGreatDoor
end
section
namespace Go.Proofs.YtphnknndgfgepaaGreatDoor
open Go Go.Proofs Go.Proofs.Sv Go.Proofs.Xv Go.Proofs.Xl Go.Proofs.Xd
theorem divV_val{a:Int}(m:Int)(h:0<=a):divV a 1000 m=if 0<a % 1000/\m=1 then a / 1000+1 else a / 1000:=by
 unfold divV;have h1:=Int.emod_nonneg a (show(1000:Int)≠0 by decide);rw[Int.tdiv_eq_ediv_of_nonneg h,Int.tmod_eq_emod_of_nonneg h,if_neg (by rw[ba,dq]; omega)];by_cases c:0<a % 1000/\m=1
 ·rw[if_pos c,if_pos (by rw[ba,dq,beq_iff_eq]; exact c)]
 ·rw[if_neg c,if_neg (by rw[ba,dq,beq_iff_eq]; exact c)]
theorem divV_mono{a a':Int}(m:Int)(h:0<=a)(h2:a<=a'):divV a 1000 m<=divV a' 1000 m:=by
 rw[divV_val m h,divV_val m (by omega)];split <;> split <;> omega
theorem mul_le'{p x y:Int}(hp:0<=p)(h:x<=y):p*x<=p*y:=Int.mul_le_mul_of_nonneg_left h hp
section
variable {b:Y34}
structure DelV(b:Y34)(q:Int)(B:Int->Int->Int):Prop where
 bd:∀s m,0<=B s m/\B s m<=1000000
 val:∀c,cornerB c=true->∀s m,u103 (viewV b) c q s m=some (divV (B s m*facV c ((lV b).getD q.toNat (dflt y48)).2.2.1 m) 1000 m)
theorem del_val(hb:blockOk b=true){q:Int}(hq:inB q 0 (((lV b).length:Int)-1)=true):∃B,DelV b q B:=by
 have hq:=inB_iff.1 hq;have hqx:ix q (viewV b).2.2.1.length:=⟨hq.1,by show q < ((lV b).length:Int); omega⟩;generalize hl:(lV b).getD q.toNat (dflt y48)=l;have hl':(viewV b).2.2.1.getD q.toNat (dflt y48)=l:=hl;have hmem:l∈lV b:=by rw[<- hl]; exact getD_mem (by omega)
 have tail:∀(c:Y65) (m p:Int),cornerB c=true -> -1000000<=p->p<=1000000->u103J0 c l m p=some (divV (p*facV c l.2.2.1 m) 1000 m):=fun c m p hc p0 p1=>by
  have hf:=fac_bd hc l.2.2.1 m;have hp:=mul_bd (A:=1000000) (B:=5000) (x:=p) (y:=facV c l.2.2.1 m) (by omega) (by omega) (by omega) (by omega) (by decide);have hd:=r1622 (p*facV c l.2.2.1 m) 1000 m (by omega) (by omega) (by decide);have hsc:u163 p (facV c l.2.2.1 m) m=some (divV (p*facV c l.2.2.1 m) 1000 m):=by
   unfold u163;rw[hd.1,vS,gP ⟨oo,rfl,trivial⟩,lE]
  rw[u103J0,r164,vS,hsc,vS,gP ⟨rfl,rfl,trivial⟩,lE]
 rcases link_facts hb hmem with ⟨a,n,h⟩ | ⟨n,k,h⟩
 ·obtain⟨t1,t2⟩:=tables_at h.del h.trs;have hlt:(l.2.1.tmod 2).toNat<a.2.2.2.2.1.length:=by have:=t1.1; have:=t1.2; omega
  have hps:=tables_pos h.del (getD_mem (d:=dflt y140) hlt);obtain⟨g1,g2⟩:=load_at b h.nlt;refine⟨fun s m=>vl (u161 (a.2.2.2.2.1.getD (l.2.1.tmod 2).toNat (dflt y140)) s ((loadsV b n).getD 0 0) m),⟨fun s m=>?_,fun c hc s m=>?_⟩⟩
  ·obtain⟨r,l1,l2,l3,l4⟩:=r1612 t2 s ((loadsV b n).getD 0 0) m;have:=look_pos t2 hps s ((loadsV b n).getD 0 0) m r l1;rw[l1,vS];omega
  ·obtain⟨r,l1,l2,l3,l4⟩:=r1612 t2 s ((loadsV b n).getD 0 0) m;show _=some (divV (vl (u161 (a.2.2.2.2.1.getD (l.2.1.tmod 2).toNat (dflt y140)) s ((loadsV b n).getD 0 0) m)*facV c ((lV b).getD q.toNat (dflt y48)).2.2.1 m) 1000 m);rw[hl];unfold u103;refine(gP ⟨hqx,trivial⟩).trans ?_;rw[lE,hl',r160 h.pix h.net,vS,gP ⟨rfl,trivial⟩,lE];refine(if_pos (by rw[h.kind]; rfl)).trans ?_;rw[r105 h,vS,g1,l1,vS];refine(gP ⟨rfl,by decide,t1,g2,rfl,trivial⟩).trans ?_;rw[lE];exact tail c m r hc l3 l4
 ·have no:=net_ok hb h.nlt;obtain⟨dl,db⟩:=no.delays;have hd:=db (nodeS b n k).toNat;obtain⟨g1,g2⟩:=dels_at b h.nlt;have hel:=exact_len b n;have hkl:=h.klt;have e4:((k:Int)).toNat=k:=rfl;have hv:=fun m=>divV_bd (a:=(delaysV b n).getD (nodeS b n k).toNat 0) (b:=1000) (K:=301000) m (by decide) (by omega) (by omega);have hv0:=fun m=>divV_pos (a:=(delaysV b n).getD (nodeS b n k).toNat 0) (b:=1000) m (by omega) (by decide);refine⟨fun _ m=>divV ((delaysV b n).getD (nodeS b n k).toNat 0) 1000 m,⟨fun s m=>⟨hv0 m,by have:=(hv m).2; omega⟩,fun c hc s m=>?_⟩⟩;show _=some (divV (divV ((delaysV b n).getD (nodeS b n k).toNat 0) 1000 m*facV c ((lV b).getD q.toNat (dflt y48)).2.2.1 m) 1000 m);rw[hl];unfold u103;refine(gP ⟨hqx,trivial⟩).trans ?_;rw[lE,hl',r160 h.pix h.net,vS,gP ⟨rfl,trivial⟩,lE];refine(if_neg (by rw[h.kind]; decide)).trans ?_;rw[g1,h.idx,e4,exact_get hkl,(r1622 _ 1000 m (by omega) (by omega) (by decide)).1,vS];refine(gP ⟨g2,oo,rfl,trivial⟩).trans ?_;rw[lE];exact tail c m _ hc (by have:=hv m; omega) (by have:=hv m; omega)
end
theorem ld_code(b:Y34)(c:Y65)(q s r r':Int):(ldF b c q s 0 r).2=(ldF b c q s 1 r').2:=by
 unfold ldF lkF;split
 ·split
  ·have e0:modeB 0=true:=rfl;have e1:modeB 1=true:=rfl;rw[e0,e1];split <;> rfl
  ·rfl
 ·rfl
theorem ld_zero{b:Y34}{c:Y65}{q s m r:Int}(h:(ldF b c q s m r).2=0):blockOk b=true/\cornerB c=true/\inB q 0 (((lV b).length:Int)-1)=true/\inB s 0 1000000=true/\modeB m=true:=by
 unfold ldF lkF at h;split at h
 ·rename_i h1;split at h
  ·rename_i h2;split at h
   ·rename_i h3;rw[ba] at h1 h3;exact⟨h1.1,h1.2,h2,h3.1,h3.2⟩
   ·cases h
  ·cases h
 ·cases h
theorem ld_ok{b:Y34}{c:Y65}{q s m r:Int}(h1:blockOk b=true)(h2:cornerB c=true)(h3:inB q 0 (((lV b).length:Int)-1)=true)(h4:inB s 0 1000000=true)(h5:modeB m=true):ldF b c q s m r=(r,0):=by
 unfold ldF lkF;rw[h1,h2,h3,h4,h5];rfl
theorem ld_val(b:Y34)(hw:wf y34 b)(hm:cnt y34 b<=1048576)(q:Int):∃B:Int->Int->Int,(blockOk b=true->inB q 0 (((lV b).length:Int)-1)=true->DelV b q B) /\
  ∀(c:Y65),wf y65 c->∀s m,u47 b c q s m=some (ldF b c q s m (divV (B s m*facV c ((lV b).getD q.toNat (dflt y48)).2.2.1 m) 1000 m)):=by
 by_cases h:blockOk b=true/\inB q 0 (((lV b).length:Int)-1)=true
 ·obtain⟨B,hB⟩:=del_val h.1 h.2;exact⟨B,fun _ _=>hB,fun c hc s m=>q47 b hw hm c hc q s m _ (fun _ hc' _=>hB.val c hc' s m)⟩
 ·exact⟨fun _ _=>0,fun a b=>(h ⟨a,b⟩).elim,fun c hc s m=>q47 b hw hm c hc q s m _ (fun a _ c=>(h ⟨a,c⟩).elim)⟩
end Go.Proofs.YtphnknndgfgepaaGreatDoor
end

/- The drawn blocks: there are some, and they are small. -/
import Derived.Test.YtphnknndgfgepaaGreatDoorWA6
import Derived.Test.YtphnknndgfgepaaGreatDoorXF6
section
namespace Go.Proofs.YtphnknndgfgepaaGreatDoor
open Go Go.Proofs Go.Proofs.Sv Go.Proofs.Xv Go.Proofs.Xl Go.Proofs.Xd
theorem H0B{s:l8}{k:Int}(h:sd s)(a:0<=k)(b:k<=40):D0c (s,k,()):=⟨h,a,b⟩
theorem Ww{s:l8}{k:Int}{b:Bool}(h:sd s)(a:2<=k)(e:k<=6):y0d (s,k,b,()):=⟨h,a,e⟩
theorem Xg{α:Type}{f:α->Nat}{y d:α}:∀{xs:List α} {i:Nat},i<xs.length->((xs.set i y).map f).sum+f (xs.getD i d)=(xs.map f).sum+f y
 | x :: r,0,_=>by simp; omega
 | x :: r,i+1,h=>by
   have:=Xg (f:=f) (y:=y) (d:=d) (xs:=r) (i:=i) (by simpa using h);simp only[List.set_cons_succ,List.map_cons,List.sum_cons,List.getD_cons_succ];omega
theorem z0E{d d':Y31}(h1:shp (.sl y165) d.1 d'.1)(h2:shp (.sl .str) d.2.1 d'.2.1)(h3:shp (.sl y175) d.2.2 d'.2.2):cnt y31 d'=cnt y31 d :=
 Zx (.pr (.sl y165) (.pr (.sl .str) (.sl y175))) d d' ⟨h1,h2,h3⟩
theorem z0z{c:List Int}(hw:wf (.sl (.int .u8)) c):∃s,u53 c=some s/\Sd s:=by
 unfold u53;refine M8 (fun x=>(65-x.1).toNat) (fun x=>0<=x.1/\x.1<=64/\0<=x.2/\x.2<2147483647) ?_ ⟨by simp only; omega,by simp only; omega,by simp only; omega,by simp only; omega⟩ (by simp only; omega);rintro g ⟨i,x⟩ ⟨i1,i2,i3,i4⟩ ih;simp only at i1 i2 i3 i4;unfold B0s;dsimp only;split
 ·rename_i hc;simp only[ba,dq] at hc;have hlt:i.toNat<c.length:=by omega
  have hb:0<=c.getD i.toNat 0/\c.getD i.toNat 0<=255:=by
   rw[gq,List.getElem?_eq_getElem hlt];exact hw.2 _ (List.getElem_mem hlt)
  refine m0 ⟨oo,⟨i1,hc.1⟩,trivial,oo,by omega,trivial⟩ (m0 ⟨oo,trivial⟩ ?_);exact ih _ ⟨by simp only; omega,by simp only; omega,Int.tmod_nonneg _ (by omega),Int.tmod_lt_of_pos _ (by omega)⟩ (by simp only; omega)
 ·exact⟨_,rfl,⟨⟨by simp only; omega,i3,i4⟩,hw.1,fun b hb=>hw.2 b hb⟩⟩
section
variable [Alw]
def G0M(w:x9):Prop:=(1<=w.1.length/\1<=w.2.1.length/\1<=w.2.2.1.length)/\cnt l6 w<=60
theorem C0O{s:l8}{most:Int}{wild:Bool}(h:Sd s)(h0:2<=most)(h1:most<=6):D0z s most wild=some ():=by
 refine L0 ?_;obtain⟨⟨l,s0⟩,e0,hs0,hl⟩:=C0t h;simp only at hs0 hl e0;unfold D0z;simp only[e0,vS,Option.isSome_some];refine m0 ⟨trivial,trivial⟩ (A8 ?_);refine m0 ⟨trivial,hs0.1,h0,h1⟩ (V7 ?_);rintro⟨d,s1⟩ ⟨⟨t1,⟨t2,t3⟩,⟨t4,t5⟩,⟨t6,t7⟩,t8⟩,-,hz⟩;have hs1:Sd s1:=Bx hz t1;have hd:Vv d:=⟨⟨t2,t3⟩,t7⟩;refine L0 (m0 trivial ?_);refine M8 (fun x=>(21-x.1).toNat) (fun x=>Sd (x.2.2.1,x.2.2.2.1,x.2.2.2.2)/\0<=x.1/\x.1<=20/\(x.2.1.length:Int)=x.1/\∀w∈x.2.1,G0M w) ?_ ⟨hs1,by simp only; omega,by simp only; omega,by simp,by simp⟩ (by simp only; omega);rintro g ⟨i,ws,c,at0,sd0⟩ ⟨i1,i2,i3,i4,i5⟩ ih;simp only at i1 i2 i3 i4 i5 t4 t5 t6 t8;unfold x0C;dsimp only;by_cases cm:i < (d.2.1.length:Int)
 ·rw[if_pos (decide_eq_true cm)];obtain⟨k,e1,hk⟩:=B0T (t:=i) hd;simp only[e1,vS,Option.isSome_some];refine m0 ⟨⟨trivial,trivial⟩,H0B i1.1 (by omega) (by omega)⟩ (V7 ?_);rintro⟨w,s2⟩ ⟨⟨w1,w2,w3,w4,w5⟩,-,hz2⟩;refine L0 (m0 ⟨⟨by simp; omega,by simp; omega⟩,trivial⟩ (m0 ⟨oo,trivial⟩ (A8 ?_)));refine ih _ ⟨Bx hz2 w1,by simp only; omega,by simp only; omega,by simp; omega,fun x hx=>?_⟩ (by simp only; omega);rcases List.mem_append.1 hx with hx | hx
  ·exact i5 x hx
  ·rw[List.mem_singleton.1 hx];exact⟨⟨w2,w3,w4⟩,w5⟩
 ·rw[if_neg (by simpa using cm)];unfold r0b;have hw:=Ax (e:=l6) (m:=20) (k:=60) (xs:=ws) (by omega) (fun x hx=>(i5 x hx).2);refine m0 ⟨i1.1,by simp only; omega,fun x hx=>(i5 x hx).1,t6,?_⟩ ⟨_,rfl,trivial⟩;show cnt (.pr (.sl y163) (.pr y31 (.sl l6))) (l,d,ws)<=10000;rw[D4,D4];simp only;omega
theorem Xw{s:l8}{ws:List x9}{d:Y31}{l:List m4}(h:Sd s)(hc:cnt (.sl y163) l+(cnt y31 d+cnt (.sl l6) ws)<=20000) :
  ∃r,d0I (s.1,s.2.1,s.2.2,ws,d.1,d.2.1,d.2.2,l)=some r/\True:=by
 unfold d0I;refine m0 ⟨h.1,?_⟩ ⟨_,rfl,trivial⟩;show cnt (.pr (.sl y163) (.pr y31 (.sl l6))) (l,d,ws)<=20000;rw[D4,D4];exact hc
theorem C0S{s:l8}(h:Sd s):D0A s=some ():=by
 refine L0 ?_;obtain⟨v,s0,e0,hs0,-,-,-⟩:=C0 (n:=3) h (by omega);unfold D0A;simp only[e0,vS,Option.isSome_some];refine m0 ⟨⟨trivial,trivial⟩,Ww hs0.1 (by omega) (by omega)⟩ (V7 ?_);rintro⟨⟨l,d,ws⟩,s1⟩ ⟨⟨t1,t2,t3,t4,t5⟩,-,hz⟩;have hs1:Sd s1:=Bx hz t1;simp only at t2 t3 t4 t5;refine L0 (m0 trivial ?_);have hws:ws.length<=9223372036854775807:=by
  have h9:cnt (.pr (.sl y163) (.pr y31 (.sl l6))) (l,d,ws)<=10000:=t5;rw[D4,D4,Y0 (e:=l6)] at h9;simp only at h9;omega
 have hc:cnt (.sl y163) l+(cnt y31 d+cnt (.sl l6) ws)<=10000:=by
  have h9:cnt (.pr (.sl y163) (.pr y31 (.sl l6))) (l,d,ws)<=10000:=t5;rw[D4,D4] at h9;exact h9
 obtain⟨k,s2,e2,hs2,ka,kb,-⟩:=C0 (n:=(ws.length:Int)) hs1 (by omega);have kb:=kb (by omega);obtain⟨q,s3,e3,hs3,-,-,-⟩:=C0 (n:=20) hs2 (by omega);have e2':u88 (N7 ((l,d,ws),s1)) (ws.length:Int)=some (k,s2):=e2;dsimp only;simp only[e2',vS,Option.isSome_some];refine m0 ⟨trivial,trivial⟩ (A8 ?_);dsimp only;simp only[e3,vS,Option.isSome_some];refine m0 ⟨trivial,trivial⟩ (A8 ?_);dsimp only;have hlt:k.toNat<ws.length:=by omega
 have hwk:1<=(ws.getD k.toNat (d6 l6)).1.length/\1<=(ws.getD k.toNat (d6 l6)).2.1.length/\1<=(ws.getD k.toNat (d6 l6)).2.2.1.length:=by
  rw[gq,List.getElem?_eq_getElem hlt];exact t3 _ (List.getElem_mem hlt)
 have hwl:cnt l6 (ws.getD k.toNat (d6 l6))<=10000:=by
  have:=x0X (t:=l6) (d:=d6 l6) hlt;rw[Y0 (e:=l6)] at hc;omega
 -- a number deep in the data has turned
 have hav:∀(s4:l8) (c4:List Int) (d4:Y31) (w4:List x9) (l4:List m4),Sd s4->wf (.sl (.int .u8)) c4->shp (.sl y165) d.1 d4.1->shp (.sl .str) d.2.1 d4.2.1->shp (.sl y175) d.2.2 d4.2.2->shp (.sl l6) ws w4->shp (.sl y163) l l4 ->
   ∃r,d0I (c4,s4.2.1,s4.2.2,w4,d4.1,d4.2.1,d4.2.2,l4)=some r/\True:=fun s4 c4 d4 w4 l4 q1 q2 q3 q4 q5 q6 q7 =>
  Xw (s:=(c4,s4.2.1,s4.2.2)) ⟨q1.1,q2.1,fun b hb=>q2.2 b hb⟩ (by rw[Zx _ _ _ q7,z0E q3 q4 q5,Zx _ _ _ q6]; omega)
 have hwf:∀{s4:l8},Sd s4->wf (.sl (.int .u8)) s4.1:=fun q=>⟨q.2.1,fun b hb=>q.2.2 b hb⟩;split
 ·refine m0 ⟨⟨by omega,by omega,by omega⟩,trivial⟩ ?_;refine Xw (s:=s3) (d:=d) hs3 ?_;have:cnt (.sl l6) (List.drop (Int.toNat (1:Int)) ws)<=cnt (.sl l6) ws:=by
   cases ws with
   | nil=>simp
   | cons x r =>
     rw[Y0,Y0];simp only[show Int.toNat (1:Int)=1 from rfl,List.drop_succ_cons,List.drop_zero,List.map_cons,List.sum_cons,List.length_cons];omega
  omega
 split
 ·have hsk:(ws.getD k.toNat (d6 l6)).2.2.2.length<=10000:=by
   have h9:cnt (.pr (.sl (.int .i64)) (.pr (.sl (.int .i64)) (.pr (.sl (.int .i64)) (.sl (.int .i64))))) (ws.getD k.toNat (d6 l6))<=10000:=hwl;rw[D4,D4,D4] at h9;simp only[b0W] at h9;omega
  have hik:J9 (ws.getD k.toNat (d6 l6)).2.2.2=some (ws.getD k.toNat (d6 l6)).2.2.2:=by
   unfold J9;rw[gP ⟨oo,trivial⟩];rfl
  simp only[hik,vS,Option.isSome_some];refine m0 ⟨⟨⟨ka,by omega⟩,hlt,trivial,⟨by rw[List.length_singleton]; omega,by rw[List.length_singleton]; omega⟩,⟨ka,by omega⟩,trivial⟩,hlt,trivial⟩ ?_;refine Xw (s:=s3) (d:=d) hs3 ?_;have hset:=Xg (f:=cnt l6) (d:=d6 l6) (y:=((ws.getD k.toNat (d6 l6)).1,(ws.getD k.toNat (d6 l6)).2.1,(ws.getD k.toNat (d6 l6)).2.2.1,(ws.getD k.toNat (d6 l6)).2.2.2++[0])) hlt;have hone:cnt l6 ((ws.getD k.toNat (d6 l6)).1,(ws.getD k.toNat (d6 l6)).2.1,(ws.getD k.toNat (d6 l6)).2.2.1,(ws.getD k.toNat (d6 l6)).2.2.2++[0])=cnt l6 (ws.getD k.toNat (d6 l6))+1:=by
   generalize ws.getD k.toNat (d6 l6)=w;show cnt (.pr (.sl (.int .i64)) (.pr (.sl (.int .i64)) (.pr (.sl (.int .i64)) (.sl (.int .i64))))) _=cnt (.pr (.sl (.int .i64)) (.pr (.sl (.int .i64)) (.pr (.sl (.int .i64)) (.sl (.int .i64))))) w+1;simp only[D4,b0W,List.length_append,List.length_singleton];omega
  rw[hone] at hset;rw[Y0 (e:=l6),List.length_set];rw[Y0 (e:=l6)] at hc;omega
 split
 ·refine m0 ⟨⟨ka,by omega⟩,hlt,oo,trivial⟩ (V7 ?_);rintro⟨v3,v4,v5,v6,v7,v8,v9,v10⟩ ⟨-,-,jh5,jh6,jh7,jh8,jh9,jh10⟩;refine L0 (m0 trivial ?_);exact hav s3 v5 (v6,v7,v8) v9 v10 hs3 (jh5.2 (hwf hs3)) jh6.1 jh7.1 jh8.1 jh9 jh10
 split
 ·obtain⟨q5,s5,e5,hs5,qa,qb,-⟩:=C0 (n:=3) hs3 (by omega);have qb:=qb (by omega);simp only[e5,vS,Option.isSome_some];refine m0 ⟨⟨ka,by omega⟩,hlt,trivial,⟨by omega,by simp; omega⟩,by simp; omega,oo,trivial⟩ (V7 ?_);rintro⟨v11,v12,v13,v14,v15,v16,v17,v18,v19⟩ ⟨-,-,jh5,-,jh6,jh7,jh8,jh9,jh10⟩;refine L0 (m0 trivial ?_);exact hav s5 v13 (v15,v16,v17) v18 v19 hs5 (jh5.2 (hwf hs5)) jh6.1 jh7.1 jh8.1 jh9 jh10
 split
 ·obtain⟨q5,s5,e5,hs5,qa,qb,-⟩:=C0 (n:=5) hs3 (by omega);have qb:=qb (by omega);have hP:(ws.getD k.toNat (d6 l6)).1.length<=10000:=by
   have h9:cnt (.pr (.sl (.int .i64)) (.pr (.sl (.int .i64)) (.pr (.sl (.int .i64)) (.sl (.int .i64))))) (ws.getD k.toNat (d6 l6))<=10000:=hwl;rw[D4,D4,D4] at h9;simp only[b0W] at h9;omega
  simp only[e5,vS,Option.isSome_some];refine m0 ⟨⟨ka,by omega⟩,hlt,⟨ka,by omega⟩,hlt,oo,trivial,oo,oo,trivial⟩ (V7 ?_);rintro⟨v20,v21,v22,v23,v24,v25,v26,v27,v28,v29⟩ ⟨-,-,-,jh5,-,jh6,jh7,jh8,jh9,jh10⟩;refine L0 (m0 trivial ?_);exact hav s5 v23 (v25,v26,v27) v28 v29 hs5 (jh5.2 (hwf hs5)) jh6.1 jh7.1 jh8.1 jh9 jh10
 split
 ·refine m0 ⟨oo,trivial⟩ (V7 ?_);rintro⟨v30,v31,v32,v33,v34,v35,v36,v37,v38⟩ ⟨-,-,-,jh5,jh6,jh7,jh8,jh9,jh10⟩;refine L0 (m0 trivial ?_);exact hav s3 v33 (v34,v35,v36) v37 v38 hs3 (jh5.2 (hwf hs3)) jh6.1 jh7.1 jh8.1 jh9 jh10
 ·exact Xw (s:=s3) (d:=d) hs3 (by omega)
theorem K0e:F0f:=L0q fun _ hw hp=>y0e (Bx hw.1 hp.1) hp.2.1 hp.2.2
theorem K0f:F0g:=L0r fun _ hw hp=>C0F (Bx hw.1 hp.1) hp.2.1 hp.2.2
theorem Wv:D0f:=L0s K0e K0f fun _ hw hp=>C0O (Bx hw.1 hp.1) hp.2.1 hp.2.2
theorem K0O:F0h:=L0t Wv fun _ hw hp=>C0S (Bx hw.1 hp)
theorem Yg{v:Int}{s:l8}{b:Bool}(h:Sd s):∃r,q0v (v,s) b=some r/\True:=by
 unfold q0v;dsimp only;split
 ·refine m0 ⟨trivial,Ww h.1 (by omega) (by omega)⟩ (V7 ?_);rintro⟨b,s1⟩ ⟨⟨t1,t2,t3,t4,t5⟩,-,hz⟩;exact L0 (m0 trivial (m0 ⟨t1,Nat.le_trans t5 (by decide)⟩ ⟨_,rfl,trivial⟩))
 ·refine m0 ⟨trivial,Ww h.1 (by omega) (by omega)⟩ (V7 ?_);rintro⟨b,s1⟩ ⟨⟨t1,t2,t3,t4,t5⟩,-,hz⟩;exact L0 (m0 trivial (m0 ⟨t1,Nat.le_trans t5 (by decide)⟩ ⟨_,rfl,trivial⟩))
theorem z0R{s:l8}(h:Sd s):u54 s=some ():=by
 refine L0 ?_;obtain⟨v,s0,e0,hs0,-,-,-⟩:=C0 (n:=12) h (by omega);unfold u54;simp only[e0,vS,Option.isSome_some];refine m0 ⟨trivial,trivial⟩ (A8 ?_);dsimp only;split
 ·refine m0 ⟨trivial,hs0.1⟩ (V7 ?_);rintro⟨b,s1⟩ ⟨⟨t1,t5⟩,-,hz⟩;exact L0 (m0 trivial (m0 ⟨t1,t5⟩ ⟨_,rfl,trivial⟩))
 ·split
  ·exact Yg hs0
  ·exact Yg hs0
theorem k54:K54:=e54 Wv K0O fun _ hw hp=>z0R (Bx hw.1 hp)
end
end Go.Proofs.YtphnknndgfgepaaGreatDoor
end
section
namespace Go.Proofs.Xd
open Go Go.Proofs.Xv Go.Proofs.Xl
abbrev Aw:=List Int×List Int×List Int
abbrev H4:=Int×Int×Int×Int×List Aw×List Aw
abbrev L6:=ByteArray×Int×Int×Bool
abbrev C9:=ByteArray×Int×List Int
abbrev L8:=ByteArray×Int×Int
abbrev Yv:=List Int×List Int×List Int×List Int
def inB(x l h:Int):Bool:=decide (l<=x)&&decide (x<=h)
theorem D1{x l h:Int}:inB x l h=true↔l<=x/\x<=h:=by simp[inB]
def Kx(xs:List Int):Bool:=!(List.range xs.length).any fun i=>decide (0<i)&&decide (xs.getD i 0<=xs.getD (i-1) 0)
def V8(xs:List Int):Bool:=decide (1<=xs.length)&&decide (xs.length<=4)&&xs.all (inB · 0 100000)&&Kx xs
def L9(t:Aw):Bool:=V8 t.1&&V8 t.2.1&&decide (t.2.2.length=t.1.length*t.2.1.length)&&t.2.2.all (inB · (-1000000) 1000000)
theorem Tz{xs:List Int}(h:V8 xs=true):1<=xs.length/\xs.length<=4:=by
 simp only[V8,ba,dq] at h;exact⟨h.1.1.1,h.1.1.2⟩
theorem Zv{t:Aw}(h:L9 t=true):1<=t.1.length/\t.1.length<=4/\1<=t.2.1.length/\t.2.1.length<=4/\t.2.2.length=t.1.length*t.2.1.length/\1<=t.2.2.length/\t.2.2.length<=16:=by
 simp only[L9,ba,dq] at h;obtain⟨⟨⟨h1,h2⟩,h3⟩,_⟩:=h;obtain⟨a1,a2⟩:=Tz h1;obtain⟨b1,b2⟩:=Tz h2;have c1:1*1<=t.1.length*t.2.1.length:=Nat.mul_le_mul a1 b1;have c2:t.1.length*t.2.1.length<=4*4:=Nat.mul_le_mul a2 b2;exact⟨a1,a2,b1,b2,h3,by omega,by omega⟩
def Rq(xs:List Int):Int:=fN (fun i m=>min m (xs.getD (i+1) 0)) (xs.length-1) (xs.getD 0 0)
def I4(l:List Aw)(p:Bool):Bool:=decide (l.length=2)&&l.all fun t=>L9 t&&!(p&&decide (Rq t.2.2<0))
theorem Dq{α:Type}(l:List α)(p:α->Bool):(!l.any fun x=>!p x)=l.all p:=by
 induction l with
 | nil=>rfl
 | cons a r ih=>simp only[List.any_cons,List.all_cons,Bool.not_or,Bool.not_not,ih]
end Go.Proofs.Xd
end
section
namespace Go.Proofs.Xd
open Go Go.Proofs.Sv Go.Proofs.Xv Go.Proofs.Xl
theorem Zg(s:ByteArray):∀n,Bq s n=!(List.range n).any fun i=>!chB (B8 s i) i
 | 0=>rfl
 | n+1=>by
   rw[Bq,Zg s n,List.range_succ,List.any_append,Bool.not_or];simp
def M9(f:Nat->ByteArray)(i:Nat):Bool:=(List.range i).any fun k=>decide (f k=f i)
def C2(n:Nat)(f:Nat->ByteArray):Bool:=!(List.range n).any fun i=>!nmB (f i)||M9 f i
theorem l0a{n:Nat}{f g:Nat->ByteArray}(h:∀i,i<n->f i=g i):C2 n f=C2 n g:=by
 unfold C2;congr 1;refine d0h fun i hi=>?_;rw[h i hi];congr 1;unfold M9;refine d0h fun k hk=>?_;rw[h i hi,h k (by omega)]
theorem t0R(l:List ByteArray)(d:ByteArray)(i:Nat)(h:i<l.length):((l.take i).any fun y=>decide (l.getD i d=y))=M9 (fun k=>l.getD k d) i:=by
 have hl:(l.take i).length=i:=by rw[List.length_take]; omega
 rw[<- P3 (l.take i) d (fun y=>decide (l.getD i d=y)),hl];unfold M9;refine d0h fun k hk=>?_;have:(l.take i).getD k d=l.getD k d:=by
  rw[gq,gq,List.getElem?_take_of_lt hk]
 rw[this,decide_eq_decide];exact eq_comm
theorem s0l{α β:Type}(f:α->β)(l:List α)(i:Nat)(d:α)(e:β)(h:i<l.length):(l.map f).getD i e=f (l.getD i d):=by
 rw[gq,gq,List.getElem?_map,List.getElem?_eq_getElem h]; rfl
theorem r0x{α β:Type}(l:List α)(d:α)(f:α->β):(List.range l.length).map (fun i=>f (l.getD i d))=l.map f:=by
 apply List.ext_getElem?;intro i;rw[List.getElem?_map,List.getElem?_map];by_cases h:i<l.length
 ·rw[List.getElem?_range h,List.getElem?_eq_getElem h];show some (f (l.getD i d))=some (f l[i]);rw[gq,List.getElem?_eq_getElem h]; rfl
 ·rw[List.getElem?_eq_none (by simpa using h),List.getElem?_eq_none (by omega)]; rfl
def Fq(n:Nat)(q:L6)(i:Nat):Bool:=inB q.2.2.1 0 500&&(if i+1=n then q.2.1==2&&q.2.2.1==0&&!q.2.2.2 else q.2.1==1)
def Y1(n:Nat)(p:Nat->L6):Bool:=decide (2<=n)&&decide (n<=5)&&C2 n (fun i=>(p i).1)&&!(List.range n).any fun i=>!Fq n (p i) i
def H8(n:Nat)(p:Nat->L6):Int:=fN (fun i s=>if(p i).2.2.2=true then s+1 else s) n 0
def Sx(n:Nat)(p:Nat->L6):Int:=match(List.range n).find? (fun i=>(p i).2.2.2) with | some i=>(i:Int) | none => -1
def Uz(a:Nat->H4)(i:Nat):Bool:=(List.range i).any fun k=>(a k).1==(a i).1&&(a k).2.1==(a i).2.1&&(a k).2.2.1==(a i).2.2.1
def D3(n:Nat)(p:Nat->L6)(a:H4):Bool :=
 inB a.2.1 0 ((n:Int)-1-1)&&inB a.2.2.1 0 ((n:Int)-1) &&
 if a.1=1 then !(p a.2.1.toNat).2.2.2&&a.2.2.1==(n:Int)-1&&inB a.2.2.2.1 1 3&&I4 a.2.2.2.2.1 true&&I4 a.2.2.2.2.2 true
 else if a.1=2∨a.1=3 then(p a.2.1.toNat).2.2.2&&a.2.2.1==(n:Int)-1&&a.2.2.2.1==0&&I4 a.2.2.2.2.1 true&&I4 a.2.2.2.2.2 true
 else if a.1=4∨a.1=5 then(p a.2.1.toNat).2.2.2&&decide (a.2.2.1 < (n:Int)-1)&&!(p a.2.2.1.toNat).2.2.2&&a.2.2.2.1==0&&I4 a.2.2.2.2.1 false&&(a.2.2.2.2.2.length:Int)==0
 else false
def Lx(n:Nat)(p:Nat->L6)(a:H4):Bool :=
 if a.1=4∨a.1=5 then a.2.2.2.1==0&&(a.2.2.2.2.2.length:Int)==0&&I4 a.2.2.2.2.1 false&&a.2.1==Sx n p&&decide (0<=a.2.1)&&inB a.2.2.1 0 ((n:Int)-1-1)&&a.2.2.1 != a.2.1
 else I4 a.2.2.2.2.1 true&&I4 a.2.2.2.2.2 true&&a.2.2.1==(n:Int)-1&&inB a.2.1 0 ((n:Int)-1-1) &&
  if a.1=1 then !(p a.2.1.toNat).2.2.2&&inB a.2.2.2.1 1 3
  else if a.1=2∨a.1=3 then(p a.2.1.toNat).2.2.2&&a.2.2.2.1==0
  else false
theorem Ah(p:Nat->L6):∀n,0<=H8 n p/\H8 n p<=n
 | 0=>⟨Int.le_refl _,Int.le_refl _⟩
 | n+1=>by
   have:=Ah p n;unfold H8 at *
   rw[fN];split <;> omega
theorem Bh{p:Nat->L6}:∀{n i:Nat},i<n->(p i).2.2.2=true->1<=H8 n p
 | n+1,i,hi,h=>by
   have h0:=(Ah p n).1;have ih:i<n->1<=H8 n p:=fun h'=>Bh h' h;unfold H8 at *
   rw[fN];rcases Nat.lt_succ_iff_lt_or_eq.1 hi with h' | rfl
   ·have:=ih h';split <;> omega
   ·rw[if_pos h]; omega
theorem Ak{p:Nat->L6}:∀{n i j:Nat},i<j->j<n->(p i).2.2.2=true->(p j).2.2.2=true->2<=H8 n p
 | n+1,i,j,hij,hj,h,k=>by
   have ih:j<n->2<=H8 n p:=fun h'=>Ak hij h' h k;have h1:i<n->1<=H8 n p:=fun h'=>Bh h' h;unfold H8 at *
   rw[fN];rcases Nat.lt_succ_iff_lt_or_eq.1 hj with h' | rfl
   ·have:=ih h';split <;> omega
   ·have:=h1 hij;rw[if_pos k]; omega
theorem z0L{p:Nat->L6}{n i:Nat}(hn:H8 n p<=1)(hi:i<n):(p i).2.2.2=decide (Sx n p=(i:Int)):=by
 unfold Sx;cases h:(List.range n).find? (fun i=>(p i).2.2.2) with
 | none =>
   rw[List.find?_eq_none] at h;have:=h i (List.mem_range.2 hi);rw[Bool.not_eq_true] at this;rw[this];exact(decide_eq_false (by show ¬(-1:Int)=i; omega)).symm
 | some j =>
   have h1:=List.find?_some h;have h2:=List.mem_range.1 (List.mem_of_find?_eq_some h);show _=decide ((j:Int)=(i:Int));by_cases e:j=i
   ·subst e;rw[decide_eq_true rfl]; exact h1
   ·rw[decide_eq_false (by omega),<- Bool.not_eq_true];intro hc;rcases Nat.lt_or_gt_of_ne e with h' | h'
    ·have:=Ak (p:=p) h' hi h1 hc; omega
    ·have:=Ak (p:=p) h' h2 hc h1; omega
theorem z0K{p:Nat->L6}{n:Nat}:Sx n p<n:=by
 unfold Sx;cases h:(List.range n).find? (fun i=>(p i).2.2.2) with
 | none=>show(-1:Int)<n; omega
 | some j =>
   have h2:=List.mem_range.1 (List.mem_of_find?_eq_some h);show(j:Int)<n; omega
theorem Vz{p:Nat->L6}{n:Nat}(h:Y1 n p=true):2<=n/\n<=5/\(p (n-1)).2.2.2=false:=by
 unfold Y1 at h;simp only[ba,dq] at h;obtain⟨⟨⟨h1,h2⟩,_⟩,h3⟩:=h;have:=V9.1 h3 (n-1) (by omega);rw[Bool.not_eq_false'] at this;unfold Fq at this;rw[if_pos (by omega)] at this;simp only[ba,Bool.not_eq_true'] at this;exact⟨h1,h2,this.2.2⟩
theorem Bk{p:Nat->L6}{n:Nat}(h:Y1 n p=true)(hc:H8 n p<=1)(a:H4):Lx n p a=D3 n p a:=by
 obtain⟨h2,h5,hl⟩:=Vz h;obtain⟨kd,fr,to,se,de,sl⟩:=a;rw[Bool.eq_iff_iff];unfold Lx D3;dsimp only;have hcl:∀x:Int,0<=x->x<=(n:Int)-1->(p x.toNat).2.2.2=decide (Sx n p=x):=fun x h0 h1=>by
  rw[z0L hc (by omega)];rw[decide_eq_decide]; omega
 have hlast:Sx n p≠(n:Int)-1:=fun e=>by
  have:=hcl ((n:Int)-1) (by omega) (by omega);have e2:((n:Int)-1).toNat=n-1:=by omega
  rw[e2,hl,decide_eq_true e] at this;cases this
 have hlt:=z0K (p:=p) (n:=n);by_cases k45:kd=4∨kd=5
 ·rw[if_pos k45,if_neg (by omega),if_neg (by omega),if_pos k45];simp only[ba,D1,dq,beq_iff_eq,bne_iff_ne,Bool.not_eq_true'];constructor
  ·rintro⟨⟨⟨⟨⟨⟨a1,a2⟩,a3⟩,a4⟩,a5⟩,a6⟩,a7⟩;have e1:=hcl fr a5 (by omega);have e2:=hcl to a6.1 (by omega);exact⟨⟨⟨a5,by omega⟩,by omega,by omega⟩,⟨⟨⟨⟨⟨by rw[e1]; exact decide_eq_true a4.symm,by omega⟩,by rw[e2]; exact decide_eq_false (by omega)⟩,a1⟩,a3⟩,a2⟩⟩
  ·rintro⟨⟨⟨a5,a6⟩,b1,b2⟩,⟨⟨⟨⟨⟨c1,c2⟩,c3⟩,c4⟩,c5⟩,c6⟩⟩;rw[hcl fr a5 (by omega),dq] at c1;rw[hcl to b1 (by omega),decide_eq_false_iff_not] at c3;exact⟨⟨⟨⟨⟨⟨c4,c6⟩,c5⟩,c1.symm⟩,a5⟩,b1,by omega⟩,by omega⟩
 ·rw[if_neg k45];by_cases k1:kd=1
  ·rw[if_pos k1,if_pos k1];simp only[ba,D1,beq_iff_eq];constructor
   ·rintro⟨⟨⟨⟨a1,a2⟩,a3⟩,a4⟩,a5,a6⟩;exact⟨⟨a4,by omega,by omega⟩,⟨⟨⟨a5,a3⟩,a6⟩,a1⟩,a2⟩
   ·rintro⟨⟨a4,_⟩,⟨⟨⟨a5,a3⟩,a6⟩,a1⟩,a2⟩;exact⟨⟨⟨⟨a1,a2⟩,a3⟩,a4⟩,a5,a6⟩
  ·rw[if_neg k1,if_neg k1];by_cases k23:kd=2∨kd=3
   ·rw[if_pos k23,if_pos k23];simp only[ba,D1,beq_iff_eq];constructor
    ·rintro⟨⟨⟨⟨a1,a2⟩,a3⟩,a4⟩,a5,a6⟩;exact⟨⟨a4,by omega,by omega⟩,⟨⟨⟨a5,a3⟩,a6⟩,a1⟩,a2⟩
    ·rintro⟨⟨a4,_⟩,⟨⟨⟨a5,a3⟩,a6⟩,a1⟩,a2⟩;exact⟨⟨⟨⟨a1,a2⟩,a3⟩,a4⟩,a5,a6⟩
   ·rw[if_neg k23,if_neg k23,if_neg k45,Bool.and_false,Bool.and_false]
def B6(m:Nat)(a:Nat->H4)(k:Int):Bool:=(List.range m).any fun i=>(a i).1==k
def Wz(k:Int)(n:Nat)(p:Nat->L6)(m:Nat)(a:Nat->H4)(tr:List Int):Bool :=
 if k=1 then H8 n p==0&&(tr.length:Int)==1*2 ^ (n-1)&&tr.all (inB · 0 1)
 else if k=2 then H8 n p==1&&(tr.length:Int)==0&&!B6 m a 1&&!(B6 m a 2==B6 m a 3)
 else if k=3 then H8 n p==1&&(tr.length:Int)==0&&B6 m a 1&&B6 m a 2&&!B6 m a 3
 else false
theorem u0O{k:Int}{n:Nat}{p:Nat->L6}{m:Nat}{a:Nat->H4}{tr:List Int}(h:Wz k n p m a tr=true):H8 n p<=1:=by
 unfold Wz at h;split at h
 ·simp only[ba,beq_iff_eq] at h; omega
 ·split at h
  ·simp only[ba,beq_iff_eq] at h; omega
  ·split at h
   ·simp only[ba,beq_iff_eq] at h; omega
   ·cases h
def Az(q:H4->Bool)(m:Nat)(a:Nat->H4):Bool:=decide (m<=8)&&!(List.range m).any fun i=>!q (a i)||Uz a i
def O4(q:Nat->(Nat->L6)->H4->Bool)(nm:ByteArray)(k:Int)(n:Nat)(p:Nat->L6)(m:Nat)(a:Nat->H4)(tr:List Int)(lk en:Int):Bool :=
 nmB nm&&Y1 n p&&Az (q n p) m a&&inB lk 0 100000&&inB en 0 100000&&Wz k n p m a tr
theorem z0O(nm:ByteArray)(k:Int)(n:Nat)(p:Nat->L6)(m:Nat)(a:Nat->H4)(tr:List Int)(lk en:Int):O4 Lx nm k n p m a tr lk en=O4 D3 nm k n p m a tr lk en:=by
 unfold O4;cases hp:Y1 n p with
 | false=>simp
 | true =>
   cases hk:Wz k n p m a tr with
   | false=>simp
   | true =>
     have:Lx n p=D3 n p:=funext fun x=>Bk hp (u0O hk) x;rw[this]
theorem r0f{α:Type}(l:List α)(d:α)(q:α->Bool)(i:Nat)(h:i<=l.length):(l.take i).any q=(List.range i).any fun k=>q (l.getD k d):=by
 have hl:(l.take i).length=i:=by rw[List.length_take]; omega
 rw[<- P3 (l.take i) d q,hl];refine d0h fun k hk=>?_;rw[gq,gq,List.getElem?_take_of_lt hk]
theorem Ch{n:Nat}{p:Nat->L6}{a:H4}(h:D3 n p a=true):1<=a.1/\a.1<=5:=by
 unfold D3 at h;rw[ba] at h;obtain⟨_,h⟩:=h;split at h
 ·omega
 ·split at h
  ·omega
  ·split at h
   ·omega
   ·cases h
theorem Dh{n:Nat}(h:n<=5) : -9223372036854775808<=(1:Int)*2 ^ (n-1)/\(1:Int)*2 ^ (n-1)<=9223372036854775807:=by
 have:∀k:Fin 6,-9223372036854775808<=(1:Int)*2 ^ (k.val-1)/\(1:Int)*2 ^ (k.val-1)<=9223372036854775807:=by decide
 exact this ⟨n,by omega⟩
def Dx(a:Nat->H4)(k:Int)(m:Nat):Int:=fN (fun i s=>if(a i).1=k then s+1 else s) m 0
theorem Bw(a:Nat->H4)(k:Int):∀m,0<=Dx a k m/\Dx a k m<=m
 | 0=>⟨Int.le_refl _,Int.le_refl _⟩
 | m+1=>by
   have:=Bw a k m;unfold Dx at *
   rw[fN];split <;> omega
theorem Xz(a:Nat->H4)(k:Int):∀m,B6 m a k=decide (0<Dx a k m)
 | 0=>rfl
 | m+1=>by
   have ih:=Xz a k m;have h0:=(Bw a k m).1;unfold B6 Dx at *
   rw[List.range_succ,List.any_append,ih,fN];simp only[List.any_cons,List.any_nil,Bool.or_false];by_cases h:(a m).1=k
   ·rw[if_pos h,beq_iff_eq.2 h,Bool.or_true];exact(decide_eq_true (by omega)).symm
   ·rw[if_neg h,beq_eq_false_iff_ne.2 h,Bool.or_false]
def Bz(a:Nat->H4)(i:Nat)(v:List Int):List Int:=v.set (a i).1.toNat (v.getD (a i).1.toNat 0+1)
theorem Ck(a:Nat->H4):∀m,(∀i,i<m->1<=(a i).1/\(a i).1<=5)->(fN (Bz a) m (List.replicate 6 0)).length=6/\∀k:Nat,k<6->(fN (Bz a) m (List.replicate 6 0)).getD k 0=Dx a k m
 | 0,_=>⟨by simp[fN],fun k hk=>by
   have:∀k:Fin 6,(List.replicate 6 (0:Int)).getD k.val 0=0:=by decide
   exact this ⟨k,hk⟩⟩
 | m+1,h=>by
   obtain⟨h1,h2⟩:=Ck a m (fun i hi=>h i (by omega));obtain⟨h3,h4⟩:=h m (by omega);rw[fN];unfold Bz at *
   refine⟨by rw[List.length_set]; exact h1,fun k hk=>?_⟩;have e:Dx a k (m+1)=if(a m).1=k then Dx a k m+1 else Dx a k m:=by unfold Dx; rw[fN]
   rw[e,gq,List.getElem?_set];by_cases hk':(a m).1.toNat=k
   ·rw[if_pos hk',if_pos (by rw[h1]; omega),if_pos (by omega)];rw[Option.getD_some,hk',h2 k hk]
   ·rw[if_neg hk',if_neg (by omega),<- gq,h2 k hk]
def Sq(v:List Int)(x:Int):List Int:=v.set x.toNat (v.getD x.toNat 0+1)
def W9(v:List Int)(n b:Nat):Prop:=v.length=n/\∀k:Nat,0<=v.getD k 0/\v.getD k 0<=(b:Int)
theorem Yw(n b:Nat):W9 (List.replicate n 0) n b:=by
 refine⟨List.length_replicate,fun k=>?_⟩;rw[gq,List.getElem?_replicate];split <;> (show(0:Int)<=0/\(0:Int)<=b; omega)
theorem Yz{v:List Int}{n b:Nat}(h:W9 v n b)(x:Int):W9 (Sq v x) n (b+1):=by
 refine⟨by unfold Sq; rw[List.length_set]; exact h.1,fun k=>?_⟩;have hx:=h.2 x.toNat;have hk:=h.2 k;unfold Sq;rw[gq,List.getElem?_set];by_cases e:x.toNat=k
 ·rw[if_pos e];split
  ·rw[Option.getD_some]; omega
  ·show(0:Int)<=0/\(0:Int)<=_; omega
 ·rw[if_neg e,<- gq]; omega
theorem Dk{v:List Int}{n b b':Nat}(h:W9 v n b)(hb:b<=b'):W9 v n b':=⟨h.1,fun k=>by have:=h.2 k; omega⟩
theorem u0K{v:List Int}{n b:Nat}(h:W9 v n b){x:Int}(hx:inB x 0 ((n:Int)-1)=true):ix x v.length/\x.toNat<v.length:=by
 rw[D1] at hx;rw[ix,h.1];omega
def Fx(n:Nat)(ok:Nat->Bool)(nm:Nat->ByteArray):Bool:=!((List.range n).any fun i=>!ok i||M9 nm i)&&decide (n<=8)
theorem C0u{n:Nat}{ok:Nat->Bool}{nm:Nat->ByteArray}(h:∀i,i<n->ok i=true->nmB (nm i)=true):(if((List.range n).any fun i=>!ok i)=true then false else decide (n<=8)&&C2 n nm)=Fx n ok nm:=by
 unfold Fx C2;have e:((List.range n).any fun i=>!ok i||M9 nm i)=(((List.range n).any fun i=>!ok i)||(List.range n).any fun i=>M9 nm i):=o0O _ _;rw[e];cases ha:(List.range n).any fun i=>!ok i with
 | true=>rfl
 | false =>
   have hall:=(V9 (n:=n) (c:=fun i=>!ok i)).1 (by rw[ha]; rfl);have:((List.range n).any fun i=>!nmB (nm i)||M9 nm i)=(List.range n).any fun i=>M9 nm i:=d0h fun i hi=>by
    have:=hall i hi;rw[Bool.not_eq_false'] at this;rw[h i hi this]; rfl
   rw[this,if_neg (by simp),Bool.false_or,Bool.and_comm]
def N1(nc:Nat)(pins:Int->Nat)(nn:Nat)(x:C9):Bool:=inB x.2.1 0 ((nc:Int)-1)&&(x.2.2.length:Int)==(pins x.2.1:Int)&&x.2.2.all fun y=>inB y 0 ((nn:Int)-1)
def N8(nn:Nat)(x:L8):Bool:=inB x.2.1 1 2&&inB x.2.2 0 ((nn:Int)-1)
def P4(x:Nat->C9)(i:Nat)(v:List Int):List Int:=Sq v ((x i).2.2.getD ((x i).2.2.length-1) 0)
def K3(x:Nat->L8)(i:Nat)(v:List Int):List Int:=if(x i).2.1=1 then Sq v (x i).2.2 else v
def Tx(ni np nn:Nat)(x:Nat->C9)(y:Nat->L8):List Int:=fN (K3 y) np (fN (P4 x) ni (List.replicate nn 0))
theorem Fk(x:Nat->C9)(nn:Nat):∀i,W9 (fN (P4 x) i (List.replicate nn 0)) nn i
 | 0=>Yw nn 0
 | i+1=>Yz (Fk x nn i) _
def Gx(lib:Bool)(nc:Nat)(pins:Int->Nat)(ni np nn:Nat)(x:Nat->C9)(y:Nat->L8)(nets:Nat->ByteArray):Bool :=
 lib&&decide (ni<=14)&&decide (nn<=30)&&decide (np<=8)&&C2 ni (fun i=>(x i).1)&&C2 nn nets&&C2 np (fun i=>(y i).1) &&
  !((List.range ni).any fun i=>!N1 nc pins nn (x i))&&!((List.range np).any fun i=>!N8 nn (y i))&&(Tx ni np nn x y).all (·==1)
def X0(w:Yv)(n:Int):Bool :=
 decide (1<=w.1.length)&&decide (w.1.length<=8)&&decide (w.2.1.length=w.1.length)&&decide (w.2.2.1.length=w.1.length)&&(w.2.2.2.length:Int)==n &&
  w.2.1.all (inB · 0 1000)&&w.2.2.1.all (inB · 0 500)&&w.2.2.2.all (inB · 0 ((w.1.length:Int)-1)) &&
  !(List.range w.1.length).any fun i=>(i==0&&(w.1.getD i 0 != -1||w.2.1.getD 0 0 != 0))||(decide (0<i)&&!inB (w.1.getD i 0) 0 ((i:Int)-1))
abbrev A6:=Int×Int×Int×Bool
def J6(x:C9)(i:Int)(k:Nat)(s:List A6):List A6:=s++[(i,(k:Int),x.2.2.getD k 0,(k:Int)==(x.2.2.length:Int)-1)]
def J0(y:Nat->L8)(i:Nat)(s:List A6):List A6:=s++[(-1,(i:Int),(y i).2.2,(y i).2.1==1)]
def N2(x:Nat->C9)(i:Nat)(s:List A6):List A6:=fN (J6 (x i) i) (x i).2.2.length s
def K4(ni np:Nat)(x:Nat->C9)(y:Nat->L8):List A6:=fN (J0 y) np (fN (N2 x) ni [])
theorem Cz(x:C9)(i:Int)(s:List A6):∀k,(fN (J6 x i) k s).length=s.length+k
 | 0=>rfl
 | k+1=>by
   rw[fN,J6,List.length_append,Cz x i s k]; rfl
theorem Cw(y:Nat->L8)(s:List A6):∀k,(fN (J0 y) k s).length=s.length+k
 | 0=>rfl
 | k+1=>by
   rw[fN,J0,List.length_append,Cw y s k]; rfl
def Mx(pl:Nat->A6)(i:Nat)(v:List Int):List Int:=if(pl i).2.2.2=false then Sq v (pl i).2.2.1 else v
def P5(pl:Nat->A6)(t:Int)(m:Nat):Int:=fN (fun i s=>if((pl i).2.2.1==t&&!(pl i).2.2.2)=true then s+1 else s) m 0
theorem Fh(pl:Nat->A6)(t:Int):∀m,0<=P5 pl t m/\P5 pl t m<=m
 | 0=>⟨Int.le_refl _,Int.le_refl _⟩
 | m+1=>by
   have:=Fh pl t m;unfold P5 at *
   rw[fN];split <;> omega
theorem Hh(pl:Nat->A6)(n:Nat):∀m,(∀i,i<m->inB (pl i).2.2.1 0 ((n:Int)-1)=true)->(fN (Mx pl) m (List.replicate n 0)).length=n/\∀k:Nat,k<n->(fN (Mx pl) m (List.replicate n 0)).getD k 0=P5 pl k m
 | 0,_=>⟨by simp[fN],fun k hk=>by
   show(List.replicate n (0:Int)).getD k 0=0;rw[gq,List.getElem?_replicate,if_pos hk]; rfl⟩
 | m+1,h=>by
   obtain⟨h1,h2⟩:=Hh pl n m (fun i hi=>h i (by omega));have h3:=D1.1 (h m (by omega));rw[fN];generalize fN (Mx pl) m (List.replicate n 0)=v at *
   unfold Mx;have e:∀k:Nat,P5 pl k (m+1)=if((pl m).2.2.1==(k:Int)&&!(pl m).2.2.2)=true then P5 pl k m+1 else P5 pl k m:=fun k=>by unfold P5; rw[fN]
   cases hd:(pl m).2.2.2 with
   | true =>
     refine⟨by rw[if_neg (by simp)]; exact h1,fun k hk=>?_⟩;rw[if_neg (by simp),h2 k hk,e,hd,if_neg (by simp)]
   | false =>
     rw[if_pos rfl];unfold Sq;refine⟨by rw[List.length_set]; exact h1,fun k hk=>?_⟩;rw[e,hd,gq,List.getElem?_set];by_cases hk':(pl m).2.2.1.toNat=k
     ·rw[if_pos hk',if_pos (by rw[h1]; omega),if_pos (by simp; omega),Option.getD_some,hk',h2 k hk]
     ·rw[if_neg hk',if_neg (by simp; omega),<- gq,h2 k hk]
def M1(pl:Nat->A6)(t:Int)(i:Nat)(s:List Int):List Int:=if((pl i).2.2.1==t&&!(pl i).2.2.2)=true then s++[(i:Int)] else s
theorem Dw(pl:Nat->A6)(t:Int):∀m,((fN (M1 pl t) m []).length:Int)=P5 pl t m
 | 0=>rfl
 | m+1=>by
   have:=Dw pl t m;rw[fN];unfold P5 at *
   rw[fN];unfold M1 at *
   split
   ·rw[List.length_append];show((_+1:Nat):Int)=_;omega
   ·exact this
def Zz(n:Nat)(s:List A6):Prop:=∀p∈s,inB p.2.2.1 0 ((n:Int)-1)=true
theorem Jh{n:Nat}{x:C9}{i:Int}(hx:∀k,k<x.2.2.length->inB (x.2.2.getD k 0) 0 ((n:Int)-1)=true){s:List A6}(hs:Zz n s):∀k,k<=x.2.2.length->Zz n (fN (J6 x i) k s)
 | 0,_=>hs
 | k+1,hk=>by
   rw[fN,J6];intro p hp;rcases List.mem_append.1 hp with h | h
   ·exact Jh hx hs k (by omega) p h
   ·cases List.mem_singleton.1 h;exact hx k (by omega)
theorem Kh{n:Nat}{x:Nat->C9}{ni:Nat}(hx:∀i,i<ni->∀k,k < (x i).2.2.length->inB ((x i).2.2.getD k 0) 0 ((n:Int)-1)=true):∀i,i<=ni->Zz n (fN (N2 x) i [])
 | 0,_=>fun p hp=>by cases hp
 | i+1,hi=>by
   rw[fN,N2];exact Jh (hx i (by omega)) (Kh hx i (by omega)) _ (Nat.le_refl _)
theorem Lh{n:Nat}{y:Nat->L8}{np:Nat}(hy:∀i,i<np->inB (y i).2.2 0 ((n:Int)-1)=true){s:List A6}(hs:Zz n s):∀k,k<=np->Zz n (fN (J0 y) k s)
 | 0,_=>hs
 | k+1,hk=>by
   rw[fN,J0];intro p hp;rcases List.mem_append.1 hp with h | h
   ·exact Lh hy hs k (by omega) p h
   ·cases List.mem_singleton.1 h;exact hy k (by omega)
theorem Zw{x:Nat->C9}{ni:Nat}(hx:∀i,i<ni->(x i).2.2.length<=5):∀i,i<=ni->(fN (N2 x) i []).length<=5*i
 | 0,_=>Nat.le_refl _
 | i+1,hi=>by
   rw[fN,N2,Cz];have:=Zw hx i (by omega);have:=hx i (by omega);omega
theorem X1{α:Type}{l:List α}{i:Nat}{d:α}(h:i<l.length):l.getD i d∈l:=by
 rw[gq,List.getElem?_eq_getElem h];exact List.getElem_mem h
theorem Aj{l:List Int}{p:Int->Bool}(h:l.all p=true){i:Nat}(hi:i<l.length):p (l.getD i 0)=true:=List.all_eq_true.1 h _ (X1 hi)
structure DesignFacts(nc:Nat)(pins:Int->Nat)(ni np nn:Nat)(x:Nat->C9)(y:Nat->L8):Prop where
 ni14:ni<=14
 np8:np<=8
 nn30:nn<=30
 inst:∀i,i<ni->N1 nc pins nn (x i)=true
 port:∀i,i<np->N8 nn (y i)=true
theorem l0u{lib:Bool}{nc:Nat}{pins:Int->Nat}{ni np nn:Nat}{x:Nat->C9}{y:Nat->L8}{nets:Nat->ByteArray}(h:Gx lib nc pins ni np nn x y nets=true):lib=true/\DesignFacts nc pins ni np nn x y:=by
 unfold Gx at h;simp only[ba,dq] at h;obtain⟨⟨⟨⟨⟨⟨⟨⟨⟨c1,c2⟩,c3⟩,c4⟩,_⟩,_⟩,_⟩,c5⟩,c6⟩,_⟩:=h;refine⟨c1,c2,c4,c3,fun i hi=>?_,fun i hi=>?_⟩
 ·have:=V9.1 c5 i hi
  rwa [Bool.not_eq_false'] at this
 ·have:=V9.1 c6 i hi
  rwa [Bool.not_eq_false'] at this
theorem DesignFacts.net{nc:Nat}{pins:Int->Nat}{ni np nn:Nat}{x:Nat->C9}{y:Nat->L8}(h:DesignFacts nc pins ni np nn x y):(∀i,i<ni->∀k,k < (x i).2.2.length->inB ((x i).2.2.getD k 0) 0 ((nn:Int)-1)=true)/\∀i,i<np->inB (y i).2.2 0 ((nn:Int)-1)=true:=by
 refine⟨fun i hi k hk=>?_,fun i hi=>?_⟩
 ·have:=h.inst i hi;unfold N1 at this;rw[ba] at this;exact Aj (p:=fun y=>inB y 0 ((nn:Int)-1)) this.2 hk
 ·have:=h.port i hi;unfold N8 at this;rw[ba] at this;exact this.2
end Go.Proofs.Xd
end
section
namespace Go.Proofs.Xd
open Go Go.Proofs Go.Proofs.Xl
def Ux(v:List Int)(i:Nat)(x:Int):List Int:=v.set i (v.getD i 0+x)
theorem Mh{v:List Int}{i:Nat}{x:Int}:(Ux v i x).length=v.length:=by unfold Ux; simp
theorem Av{v:List Int}{i j:Nat}{x:Int}(hi:i<v.length):(Ux v i x).getD j 0=if j=i then v.getD i 0+x else v.getD j 0:=by
 unfold Ux;by_cases h:j=i
 ·subst h; simp[hi]
 ·rw[if_neg h]; simp[List.getElem?_set_ne (Ne.symm h)]
def X2(v:List Int)(k:Nat):Int:=fN (fun i s=>s+v.getD i 0) k 0
theorem Bj(v:List Int)(k:Nat):X2 v (k+1)=X2 v k+v.getD k 0:=rfl
theorem Gk{v:List Int}{i:Nat}{x:Int}(hi:i<v.length):∀k,X2 (Ux v i x) k=X2 v k+if i<k then x else 0
 | 0=>by simp[X2,fN]
 | k+1=>by
   rw[Bj,Bj,Gk hi k,Av hi];by_cases h:k=i
   ·subst h; simp; omega
   ·rw[if_neg h];by_cases h2:i<k
    ·rw[if_pos h2,if_pos (by omega)]; omega
    ·rw[if_neg h2,if_neg (by omega)]; omega
theorem Nh{v:List Int}(hp:∀j,0<=v.getD j 0):∀k,0<=X2 v k
 | 0=>by simp[X2,fN]
 | k+1=>by have:=Nh hp k; have:=hp k; rw[Bj]; omega
theorem Hk{v:List Int}(hp:∀j,0<=v.getD j 0):∀{k j:Nat},j<k->v.getD j 0<=X2 v k
 | k+1,j,h=>by
   rw[Bj];have h1:=Nh hp k;have h2:=hp k;by_cases e:j=k
   ·subst e; omega
   ·have:=Hk hp (k:=k) (j:=j) (by omega); omega
structure Low(v:List Int)(n:Nat)(S:Int):Prop where
 len:v.length=n
 pos:∀j,0<=v.getD j 0
 sum:X2 v n<=S
theorem Ph{v:List Int}{c:Int}(hp:∀j,v.getD j 0<=c):∀k:Nat,X2 v k<=c*(k:Int)
 | 0=>by simp[X2,fN]
 | k+1=>by
   have:=Ph hp k;have:=hp k;rw[Bj,Int.natCast_add,Int.mul_add];omega
theorem z0j{v:List Int}{n:Nat}(hn:v.length=n)(h:v.all (inB · 0 500)=true):Low v n (500*(n:Int)):=by
 have hj:∀j,0<=v.getD j 0/\v.getD j 0<=500:=fun j=>by
  rcases Nat.lt_or_ge j v.length with hj | hj
  ·have:=D1.1 (Aj (p:=fun x=>inB x 0 500) h hj); exact this
  ·rw[gq,List.getElem?_eq_none hj]; exact⟨by decide,by decide⟩
 exact⟨hn,fun j=>(hj j).1,Ph (fun j=>(hj j).2) n⟩
theorem Low.bd{v:List Int}{n:Nat}{S:Int}(h:Low v n S)(hS:0<=S)(j:Nat):0<=v.getD j 0/\v.getD j 0<=S:=by
 refine⟨h.pos j,?_⟩;rcases Nat.lt_or_ge j n with hj | hj
 ·exact Int.le_trans (Hk h.pos hj) h.sum
 ·rw[gq,List.getElem?_eq_none (by rw[h.len]; exact hj)]; exact hS
theorem Low.add{v:List Int}{n:Nat}{S:Int}(h:Low v n S){i:Nat}(hi:i<n){x:Int}(hx:0<=x):Low (Ux v i x) n (S+x):=by
 have hi':i<v.length:=by rw[h.len]; exact hi
 refine⟨by rw[Mh]; exact h.len,fun j=>?_,?_⟩
 ·rw[Av hi'];have:=h.pos i;have:=h.pos j;split <;> omega
 ·rw[Gk hi',if_pos hi]; have:=h.sum; omega
def Vx(s c:Nat->Int)(i:Nat)(v:List Int):List Int:=Ux v (s i).toNat (c i)
theorem Qh{s c:Nat->Int}{v:List Int}{n:Nat}{S:Int}(h:Low v n S):∀m,(∀i,i<m->0<=s i/\(s i).toNat<n/\0<=c i/\c i<=500)->Low (fN (Vx s c) m v) n (S+500*(m:Int))
 | 0,_=>⟨h.len,h.pos,by have:=h.sum; show X2 v n<=_; omega⟩
 | m+1,hm=>by
   have ih:=Qh h m (fun i hi=>hm i (by omega));obtain⟨h1,h2,h3,h4⟩:=hm m (by omega);have:=ih.add h2 h3;refine⟨this.len,this.pos,?_⟩;have:=this.sum;rw[Int.natCast_add,Int.mul_add];refine Int.le_trans this ?_;simp only[Int.natCast_one];omega
def Y2(P:Nat->Int)(n k:Nat)(v:List Int):List Int:=Ux v (P (n-1-k)).toNat (v.getD (n-1-k) 0)
structure D0b(v:List Int)(n k:Nat)(S:Int):Prop where
 len:v.length=n
 pos:∀j,0<=v.getD j 0
 bd:∀j,v.getD j 0<=S
 sum:X2 v (n-k)<=S
theorem Rh{P:Nat->Int}{v:List Int}{n k:Nat}{S:Int}(h:D0b v n k S)(_:k<n-1)(hP:0<=P (n-1-k)/\(P (n-1-k)).toNat<n-1-k):D0b (Y2 P n k v) n (k+1) S:=by
 have hp:(P (n-1-k)).toNat<v.length:=by rw[h.len]; omega
 have hpos:∀j,0<=(Y2 P n k v).getD j 0:=fun j=>by
  unfold Y2;rw[Av hp];have:=h.pos (P (n-1-k)).toNat;have:=h.pos (n-1-k);have:=h.pos j;split <;> omega
 have hs:X2 (Y2 P n k v) (n-(k+1))<=S:=by
  unfold Y2;have e:n-(k+1)=n-1-k:=by omega
  rw[Gk hp,e,if_pos hP.2];have:=h.sum;rw[show n-k=(n-1-k)+1 by omega,Bj] at this;exact this
 refine⟨by unfold Y2; rw[Mh]; exact h.len,hpos,fun j=>?_,hs⟩;by_cases e:j=(P (n-1-k)).toNat
 ·have hlt:j<n-(k+1):=by omega
  exact Int.le_trans (Hk hpos hlt) hs
 ·unfold Y2;rw[Av hp,if_neg e];exact h.bd j
theorem Sh{P:Nat->Int}{v:List Int}{n:Nat}{S:Int}(h:Low v n S)(hS:0<=S)(hP:∀i,0<i->i<n->0<=P i/\(P i).toNat<i):∀k,k<=n-1->D0b (fN (Y2 P n) k v) n k S
 | 0,_=>⟨h.len,h.pos,fun j=>(h.bd hS j).2,h.sum⟩
 | k+1,hk=>Rh (Sh h hS hP k (by omega)) (by omega) (hP _ (by omega) (by omega))
def C0s(cap:List Int)(n m:Nat)(s c P:Nat->Int):List Int:=fN (Y2 P n) (n-1) (fN (Vx s c) m cap)
theorem Wx{α:Type}{l r:List α}{d:α}{i:Nat}(h:i<l.length):(l++r).getD i d=l.getD i d:=by
 simp only[gq,List.getElem?_append_left h]
theorem Fw{α:Type}{l r:List α}{d:α}{i:Nat}(h:l.length<=i):(l++r).getD i d=r.getD (i-l.length) d:=by
 simp only[gq,List.getElem?_append_right h]
def R7(P R L:Nat->Int)(k:Nat)(s:List Int):List Int:=s++[s.getD (P (k+1)).toNat 0+R (k+1)*L (k+1)]
def z0F(n:Nat)(P R L:Nat->Int):List Int:=fN (R7 P R L) (n-1) [0]
theorem Jk{a b A B:Int}(a0:0<=a)(a1:a<=A)(b0:0<=b)(b1:b<=B):0<=a*b/\a*b<=A*B :=
 ⟨Int.mul_nonneg a0 b0,Int.mul_le_mul a1 b1 b0 (Int.le_trans a0 a1)⟩
theorem Th{P R L:Nat->Int}{n:Nat}{S:Int}(hR:∀i,i<n->0<=R i/\R i<=1000)(hL:∀i,i<n->0<=L i/\L i<=S)(hS:0<=S):∀k,k<=n-1->(fN (R7 P R L) k [0]).length=k+1/\∀j,0<=(fN (R7 P R L) k [0]).getD j 0/\(fN (R7 P R L) k [0]).getD j 0<=1000*S*(k:Int)
 | 0,_=>⟨rfl,fun j=>by
   cases j with
   | zero=>exact⟨by simp[fN],by simp[fN]⟩
   | succ j=>exact⟨by simp[fN],by simp[fN]⟩⟩
 | k+1,hk=>by
   obtain⟨h1,h2⟩:=Th hR hL hS k (by omega);have hx:=Jk (hR (k+1) (by omega)).1 (hR (k+1) (by omega)).2 (hL (k+1) (by omega)).1 (hL (k+1) (by omega)).2;have hk1:0<=1000*S*(k:Int):=Int.mul_nonneg (by omega) (by omega);have e:1000*S*((k+1:Nat):Int)=1000*S*(k:Int)+1000*S:=by rw[Int.natCast_add,Int.mul_add]; simp
   have e2:fN (R7 P R L) (k+1) [0]=R7 P R L k (fN (R7 P R L) k [0]):=rfl;rw[e2];generalize fN (R7 P R L) k [0]=s at h1 h2;unfold R7;refine⟨by rw[List.length_append,h1]; rfl,fun j=>?_⟩;rw[e];rcases Nat.lt_or_ge j s.length with hj | hj
   ·have:=h2 j;rw[Wx hj]; omega
   ·have h3:=h2 (P (k+1)).toNat;rw[Fw hj];cases hjs:j-s.length with
    | zero=>simp only[List.getD_cons_zero]; omega
    | succ q=>simp only[List.getD_cons_succ,List.getD_nil]; omega
theorem v0s{s:List Int}{k n:Nat}{x:Int}(hs:s.length=k+1)(hk:k+1<n):(s++List.replicate (n-1-k) 0).set (k+1) x=(s++[x])++List.replicate (n-1-(k+1)) 0:=by
 have e:n-1-k=(n-1-(k+1))+1:=by omega
 rw[e,List.replicate_succ,List.set_append_right _ _ (by omega),hs,Nat.sub_self,List.set_cons_zero,List.append_assoc];rfl
theorem v0t{s:List Int}{k n p:Nat}(hs:s.length=k+1)(hp:p<k+1):(s++List.replicate (n-1-k) 0).getD p 0=s.getD p 0:=Wx (by omega)
def exF(D:List Int)(S:Nat->Int)(i:Nat)(s:List Int):List Int:=s++[D.getD (S i).toNat 0]
def Cj(ni np:Nat)(x:Nat->C9)(p:A6):Prop:=(p.1 = -1/\0<=p.2.1/\p.2.1.toNat<np)∨(0<=p.1/\p.1.toNat<ni/\0<=p.2.1/\p.2.1.toNat < (x p.1.toNat).2.2.length)
theorem Uh{ni np:Nat}{x:Nat->C9}{i:Nat}(hi:i<ni){s:List A6}(hs:∀p∈s,Cj ni np x p):∀k,k<=(x i).2.2.length->∀p∈fN (J6 (x i) i) k s,Cj ni np x p
 | 0,_=>hs
 | k+1,hk=>fun p hp=>by
   have hp:p∈J6 (x i) i k (fN (J6 (x i) i) k s):=hp;unfold J6 at hp;rcases List.mem_append.1 hp with hp | hp
   ·exact Uh hi hs k (by omega) p hp
   ·cases List.mem_singleton.1 hp;exact .inr ⟨Int.natCast_nonneg _,by simpa using hi,Int.natCast_nonneg _,by simp; omega⟩
theorem Vh{ni np:Nat}{x:Nat->C9}:∀i,i<=ni->∀p∈fN (N2 x) i [],Cj ni np x p
 | 0,_=>fun p hp=>by cases hp
 | i+1,hi=>Uh (by omega) (Vh i (by omega)) _ (Nat.le_refl _)
theorem Wh{ni np:Nat}{x:Nat->C9}{y:Nat->L8}{s:List A6}(hs:∀p∈s,Cj ni np x p):∀k,k<=np->∀p∈fN (J0 y) k s,Cj ni np x p
 | 0,_=>hs
 | k+1,hk=>fun p hp=>by
   have hp:p∈J0 y k (fN (J0 y) k s):=hp;unfold J0 at hp;rcases List.mem_append.1 hp with hp | hp
   ·exact Wh hs k (by omega) p hp
   ·cases List.mem_singleton.1 hp;exact .inl ⟨rfl,Int.natCast_nonneg _,by simp; omega⟩
theorem m0k(ni np:Nat)(x:Nat->C9)(y:Nat->L8):∀p∈K4 ni np x y,Cj ni np x p:=Wh (Vh ni (Nat.le_refl _)) np (Nat.le_refl _)
theorem Kk(pl:Nat->A6)(t:Int):∀m,∀x∈fN (M1 pl t) m [],∃j:Nat,x=(j:Int)/\j<m/\(pl j).2.2.1=t/\(pl j).2.2.2=false
 | 0,x,h=>by cases h
 | m+1,x,h=>by
   have ih:=Kk pl t m x;have h:x∈M1 pl t m (fN (M1 pl t) m []):=h;generalize fN (M1 pl t) m []=s at ih h;unfold M1 at h;split at h
   ·rename_i hc;rw[ba,beq_iff_eq,Bool.not_eq_true'] at hc;rcases List.mem_append.1 h with h | h
    ·obtain⟨j,h1,h2,h3⟩:=ih h;exact⟨j,h1,by omega,h3⟩
    ·cases List.mem_singleton.1 h;exact⟨m,rfl,by omega,hc⟩
   ·obtain⟨j,h1,h2,h3⟩:=ih h;exact⟨j,h1,by omega,h3⟩
structure l0L(w:Yv)(n:Int):Prop where
 n1:1<=w.1.length
 n8:w.1.length<=8
 res:w.2.1.length=w.1.length
 cap:w.2.2.1.length=w.1.length
 snk:(w.2.2.2.length:Int)=n
 resIn:∀i,i<w.1.length->0<=w.2.1.getD i 0/\w.2.1.getD i 0<=1000
 capOk:w.2.2.1.all (inB · 0 500)=true
 snkIn:∀i,i<w.2.2.2.length->0<=w.2.2.2.getD i 0/\(w.2.2.2.getD i 0).toNat<w.1.length
 par:∀i,0<i->i<w.1.length->0<=w.1.getD i 0/\(w.1.getD i 0).toNat<i
theorem o0V{w:Yv}{n:Int}(h:X0 w n=true):l0L w n:=by
 unfold X0 at h;simp only[ba,dq,beq_iff_eq] at h;obtain⟨⟨⟨⟨⟨⟨⟨⟨c1,c2⟩,c3⟩,c4⟩,c5⟩,c6⟩,c7⟩,c8⟩,c9⟩:=h;refine⟨c1,c2,c3,c4,c5,fun i hi=>?_,c7,fun i hi=>?_,fun i h0 hi=>?_⟩
 ·exact D1.1 (Aj (p:=fun x=>inB x 0 1000) c6 (by omega))
 ·have:=D1.1 (Aj (p:=fun x=>inB x 0 ((w.1.length:Int)-1)) c8 hi);omega
 ·have:=V9.1 c9 i hi;rw[Bool.or_eq_false_iff] at this;have h2:=this.2;rw[Bool.and_eq_false_iff,decide_eq_false_iff_not,Bool.not_eq_false',D1] at h2;rcases h2 with h | h
  ·omega
  ·omega
end Go.Proofs.Xd
end

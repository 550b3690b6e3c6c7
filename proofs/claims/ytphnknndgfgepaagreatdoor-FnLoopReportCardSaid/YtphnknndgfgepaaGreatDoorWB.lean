/- The drawn blocks: there are some, and they are small. -/
import Derived.Test.YtphnknndgfgepaaGreatDoorWA
import Derived.Test.YtphnknndgfgepaaGreatDoorXF
section
namespace Go.Proofs.YtphnknndgfgepaaGreatDoor
open Go Go.Proofs Go.Proofs.Sv Go.Proofs.Xv Go.Proofs.Xl Go.Proofs.Xd
theorem H0v{s:a0u}{k:Int}(h:sd s)(a:0<=k)(b:k<=40):D0d (s,k,()):=⟨h,a,b⟩
theorem D0N{s:a0u}{k:Int}{b:Bool}(h:sd s)(a:2<=k)(e:k<=6):y0m (s,k,b,()):=⟨h,a,e⟩
theorem r0o{α:Type}{f:α->Nat}{y d:α}:∀{xs:List α} {i:Nat},i<xs.length->((xs.set i y).map f).sum+f (xs.getD i d)=(xs.map f).sum+f y
 | x :: r,0,_=>by simp; omega
 | x :: r,i+1,h=>by
   have:=r0o (f:=f) (y:=y) (d:=d) (xs:=r) (i:=i) (by simpa using h);simp only[List.set_cons_succ,List.map_cons,List.sum_cons,List.getD_cons_succ];omega
theorem z0G{d d':Y31}(h1:shp (.sl y165) d.1 d'.1)(h2:shp (.sl .str) d.2.1 d'.2.1)(h3:shp (.sl y175) d.2.2 d'.2.2):cnt y31 d'=cnt y31 d :=
 e0p (.pr (.sl y165) (.pr (.sl .str) (.sl y175))) d d' ⟨h1,h2,h3⟩
theorem z0C{c:List Int}(hw:wf (.sl (.int .u8)) c):∃s,u53 c=some s/\Sd s:=by
 unfold u53;refine e0g (fun x=>(65-x.1).toNat) (fun x=>0<=x.1/\x.1<=64/\0<=x.2/\x.2<2147483647) ?_ ⟨by simp only; omega,by simp only; omega,by simp only; omega,by simp only; omega⟩ (by simp only; omega);rintro g ⟨i,x⟩ ⟨i1,i2,i3,i4⟩ ih;simp only at i1 i2 i3 i4;unfold B0y;dsimp only;split
 ·rename_i hc;simp only[ba,dq] at hc;have hlt:i.toNat<c.length:=by omega
  have hb:0<=c.getD i.toNat 0/\c.getD i.toNat 0<=255:=by
   rw[gq,List.getElem?_eq_getElem hlt];exact hw.2 _ (List.getElem_mem hlt)
  refine a0b ⟨oo,⟨i1,hc.1⟩,trivial,oo,by omega,trivial⟩ (a0b ⟨oo,trivial⟩ ?_);exact ih _ ⟨by simp only; omega,by simp only; omega,Int.tmod_nonneg _ (by omega),Int.tmod_lt_of_pos _ (by omega)⟩ (by simp only; omega)
 ·exact⟨_,rfl,⟨⟨by simp only; omega,i3,i4⟩,hw.1,fun b hb=>hw.2 b hb⟩⟩
section
variable [Alw]
def G0K(w:b0I):Prop:=(1<=w.1.length/\1<=w.2.1.length/\1<=w.2.2.1.length)/\cnt a0j w<=60
theorem C0O{s:a0u}{most:Int}{wild:Bool}(h:Sd s)(h0:2<=most)(h1:most<=6):D0F s most wild=some ():=by
 refine h0Y ?_;obtain⟨⟨l,s0⟩,e0,hs0,hl⟩:=C0q h;simp only at hs0 hl e0;unfold D0F;simp only[e0,vS,Option.isSome_some];refine a0b ⟨trivial,trivial⟩ (b0c ?_);refine a0b ⟨trivial,hs0.1,h0,h1⟩ (c0I ?_);rintro⟨d,s1⟩ ⟨⟨t1,⟨t2,t3⟩,⟨t4,t5⟩,⟨t6,t7⟩,t8⟩,-,hz⟩;have hs1:Sd s1:=k0i hz t1;have hd:E0X d:=⟨⟨t2,t3⟩,t7⟩;refine h0Y (a0b trivial ?_);refine e0g (fun x=>(21-x.1).toNat) (fun x=>Sd (x.2.2.1,x.2.2.2.1,x.2.2.2.2)/\0<=x.1/\x.1<=20/\(x.2.1.length:Int)=x.1/\∀w∈x.2.1,G0K w) ?_ ⟨hs1,by simp only; omega,by simp only; omega,by simp,by simp⟩ (by simp only; omega);rintro g ⟨i,ws,c,at0,sd0⟩ ⟨i1,i2,i3,i4,i5⟩ ih;simp only at i1 i2 i3 i4 i5 t4 t5 t6 t8;unfold x0J;dsimp only;by_cases cm:i < (d.2.1.length:Int)
 ·rw[if_pos (decide_eq_true cm)];obtain⟨k,e1,hk⟩:=B0V (t:=i) hd;simp only[e1,vS,Option.isSome_some];refine a0b ⟨⟨trivial,trivial⟩,H0v i1.1 (by omega) (by omega)⟩ (c0I ?_);rintro⟨w,s2⟩ ⟨⟨w1,w2,w3,w4,w5⟩,-,hz2⟩;refine h0Y (a0b ⟨⟨by simp; omega,by simp; omega⟩,trivial⟩ (a0b ⟨oo,trivial⟩ (b0c ?_)));refine ih _ ⟨k0i hz2 w1,by simp only; omega,by simp only; omega,by simp; omega,fun x hx=>?_⟩ (by simp only; omega);rcases List.mem_append.1 hx with hx | hx
  ·exact i5 x hx
  ·rw[List.mem_singleton.1 hx];exact⟨⟨w2,w3,w4⟩,w5⟩
 ·rw[if_neg (by simpa using cm)];unfold r0i;have hw:=c0K (e:=a0j) (m:=20) (k:=60) (xs:=ws) (by omega) (fun x hx=>(i5 x hx).2);refine a0b ⟨i1.1,by simp only; omega,fun x hx=>(i5 x hx).1,t6,?_⟩ ⟨_,rfl,trivial⟩;show cnt (.pr (.sl y163) (.pr y31 (.sl a0j))) (l,d,ws)<=10000;rw[a0M,a0M];simp only;omega
theorem k0g{s:a0u}{ws:List b0I}{d:Y31}{l:List a0y}(h:Sd s)(hc:cnt (.sl y163) l+(cnt y31 d+cnt (.sl a0j) ws)<=20000) :
  ∃r,d0z (s.1,s.2.1,s.2.2,ws,d.1,d.2.1,d.2.2,l)=some r/\True:=by
 unfold d0z;refine a0b ⟨h.1,?_⟩ ⟨_,rfl,trivial⟩;show cnt (.pr (.sl y163) (.pr y31 (.sl a0j))) (l,d,ws)<=20000;rw[a0M,a0M];exact hc
theorem C0T{s:a0u}(h:Sd s):D0G s=some ():=by
 refine h0Y ?_;obtain⟨v,s0,e0,hs0,-,-,-⟩:=a0K (n:=3) h (by omega);unfold D0G;simp only[e0,vS,Option.isSome_some];refine a0b ⟨⟨trivial,trivial⟩,D0N hs0.1 (by omega) (by omega)⟩ (c0I ?_);rintro⟨⟨l,d,ws⟩,s1⟩ ⟨⟨t1,t2,t3,t4,t5⟩,-,hz⟩;have hs1:Sd s1:=k0i hz t1;simp only at t2 t3 t4 t5;refine h0Y (a0b trivial ?_);have hws:ws.length<=9223372036854775807:=by
  have h9:cnt (.pr (.sl y163) (.pr y31 (.sl a0j))) (l,d,ws)<=10000:=t5;rw[a0M,a0M,d0b (e:=a0j)] at h9;simp only at h9;omega
 have hc:cnt (.sl y163) l+(cnt y31 d+cnt (.sl a0j) ws)<=10000:=by
  have h9:cnt (.pr (.sl y163) (.pr y31 (.sl a0j))) (l,d,ws)<=10000:=t5;rw[a0M,a0M] at h9;exact h9
 obtain⟨k,s2,e2,hs2,ka,kb,-⟩:=a0K (n:=(ws.length:Int)) hs1 (by omega);have kb:=kb (by omega);obtain⟨q,s3,e3,hs3,-,-,-⟩:=a0K (n:=20) hs2 (by omega);have e2':u88 (k0h ((l,d,ws),s1)) (ws.length:Int)=some (k,s2):=e2;dsimp only;simp only[e2',vS,Option.isSome_some];refine a0b ⟨trivial,trivial⟩ (b0c ?_);dsimp only;simp only[e3,vS,Option.isSome_some];refine a0b ⟨trivial,trivial⟩ (b0c ?_);dsimp only;have hlt:k.toNat<ws.length:=by omega
 have hwk:1<=(ws.getD k.toNat (a0a a0j)).1.length/\1<=(ws.getD k.toNat (a0a a0j)).2.1.length/\1<=(ws.getD k.toNat (a0a a0j)).2.2.1.length:=by
  rw[gq,List.getElem?_eq_getElem hlt];exact t3 _ (List.getElem_mem hlt)
 have hwl:cnt a0j (ws.getD k.toNat (a0a a0j))<=10000:=by
  have:=y0i (t:=a0j) (d:=a0a a0j) hlt;rw[d0b (e:=a0j)] at hc;omega
 -- a number deep in the data has turned
 have hav:∀(s4:a0u) (c4:List Int) (d4:Y31) (w4:List b0I) (l4:List a0y),Sd s4->wf (.sl (.int .u8)) c4->shp (.sl y165) d.1 d4.1->shp (.sl .str) d.2.1 d4.2.1->shp (.sl y175) d.2.2 d4.2.2->shp (.sl a0j) ws w4->shp (.sl y163) l l4 ->
   ∃r,d0z (c4,s4.2.1,s4.2.2,w4,d4.1,d4.2.1,d4.2.2,l4)=some r/\True:=fun s4 c4 d4 w4 l4 q1 q2 q3 q4 q5 q6 q7 =>
  k0g (s:=(c4,s4.2.1,s4.2.2)) ⟨q1.1,q2.1,fun b hb=>q2.2 b hb⟩ (by rw[e0p _ _ _ q7,z0G q3 q4 q5,e0p _ _ _ q6]; omega)
 have hwf:∀{s4:a0u},Sd s4->wf (.sl (.int .u8)) s4.1:=fun q=>⟨q.2.1,fun b hb=>q.2.2 b hb⟩;split
 ·refine a0b ⟨⟨by omega,by omega,by omega⟩,trivial⟩ ?_;refine k0g (s:=s3) (d:=d) hs3 ?_;have:cnt (.sl a0j) (List.drop (Int.toNat (1:Int)) ws)<=cnt (.sl a0j) ws:=by
   cases ws with
   | nil=>simp
   | cons x r =>
     rw[d0b,d0b];simp only[show Int.toNat (1:Int)=1 from rfl,List.drop_succ_cons,List.drop_zero,List.map_cons,List.sum_cons,List.length_cons];omega
  omega
 split
 ·have hsk:(ws.getD k.toNat (a0a a0j)).2.2.2.length<=10000:=by
   have h9:cnt (.pr (.sl (.int .i64)) (.pr (.sl (.int .i64)) (.pr (.sl (.int .i64)) (.sl (.int .i64))))) (ws.getD k.toNat (a0a a0j))<=10000:=hwl;rw[a0M,a0M,a0M] at h9;simp only[b0T] at h9;omega
  have hik:h0V (ws.getD k.toNat (a0a a0j)).2.2.2=some (ws.getD k.toNat (a0a a0j)).2.2.2:=by
   unfold h0V;rw[gP ⟨oo,trivial⟩];rfl
  simp only[hik,vS,Option.isSome_some];refine a0b ⟨⟨⟨ka,by omega⟩,hlt,trivial,⟨by rw[List.length_singleton]; omega,by rw[List.length_singleton]; omega⟩,⟨ka,by omega⟩,trivial⟩,hlt,trivial⟩ ?_;refine k0g (s:=s3) (d:=d) hs3 ?_;have hset:=r0o (f:=cnt a0j) (d:=a0a a0j) (y:=((ws.getD k.toNat (a0a a0j)).1,(ws.getD k.toNat (a0a a0j)).2.1,(ws.getD k.toNat (a0a a0j)).2.2.1,(ws.getD k.toNat (a0a a0j)).2.2.2++[0])) hlt;have hone:cnt a0j ((ws.getD k.toNat (a0a a0j)).1,(ws.getD k.toNat (a0a a0j)).2.1,(ws.getD k.toNat (a0a a0j)).2.2.1,(ws.getD k.toNat (a0a a0j)).2.2.2++[0])=cnt a0j (ws.getD k.toNat (a0a a0j))+1:=by
   generalize ws.getD k.toNat (a0a a0j)=w;show cnt (.pr (.sl (.int .i64)) (.pr (.sl (.int .i64)) (.pr (.sl (.int .i64)) (.sl (.int .i64))))) _=cnt (.pr (.sl (.int .i64)) (.pr (.sl (.int .i64)) (.pr (.sl (.int .i64)) (.sl (.int .i64))))) w+1;simp only[a0M,b0T,List.length_append,List.length_singleton];omega
  rw[hone] at hset;rw[d0b (e:=a0j),List.length_set];rw[d0b (e:=a0j)] at hc;omega
 split
 ·refine a0b ⟨⟨ka,by omega⟩,hlt,oo,trivial⟩ (c0I ?_);rintro⟨v3,v4,v5,v6,v7,v8,v9,v10⟩ ⟨-,-,jh5,jh6,jh7,jh8,jh9,jh10⟩;refine h0Y (a0b trivial ?_);exact hav s3 v5 (v6,v7,v8) v9 v10 hs3 (jh5.2 (hwf hs3)) jh6.1 jh7.1 jh8.1 jh9 jh10
 split
 ·obtain⟨q5,s5,e5,hs5,qa,qb,-⟩:=a0K (n:=3) hs3 (by omega);have qb:=qb (by omega);simp only[e5,vS,Option.isSome_some];refine a0b ⟨⟨ka,by omega⟩,hlt,trivial,⟨by omega,by simp; omega⟩,by simp; omega,oo,trivial⟩ (c0I ?_);rintro⟨v11,v12,v13,v14,v15,v16,v17,v18,v19⟩ ⟨-,-,jh5,-,jh6,jh7,jh8,jh9,jh10⟩;refine h0Y (a0b trivial ?_);exact hav s5 v13 (v15,v16,v17) v18 v19 hs5 (jh5.2 (hwf hs5)) jh6.1 jh7.1 jh8.1 jh9 jh10
 split
 ·obtain⟨q5,s5,e5,hs5,qa,qb,-⟩:=a0K (n:=5) hs3 (by omega);have qb:=qb (by omega);have hP:(ws.getD k.toNat (a0a a0j)).1.length<=10000:=by
   have h9:cnt (.pr (.sl (.int .i64)) (.pr (.sl (.int .i64)) (.pr (.sl (.int .i64)) (.sl (.int .i64))))) (ws.getD k.toNat (a0a a0j))<=10000:=hwl;rw[a0M,a0M,a0M] at h9;simp only[b0T] at h9;omega
  simp only[e5,vS,Option.isSome_some];refine a0b ⟨⟨ka,by omega⟩,hlt,⟨ka,by omega⟩,hlt,oo,trivial,oo,oo,trivial⟩ (c0I ?_);rintro⟨v20,v21,v22,v23,v24,v25,v26,v27,v28,v29⟩ ⟨-,-,-,jh5,-,jh6,jh7,jh8,jh9,jh10⟩;refine h0Y (a0b trivial ?_);exact hav s5 v23 (v25,v26,v27) v28 v29 hs5 (jh5.2 (hwf hs5)) jh6.1 jh7.1 jh8.1 jh9 jh10
 split
 ·refine a0b ⟨oo,trivial⟩ (c0I ?_);rintro⟨v30,v31,v32,v33,v34,v35,v36,v37,v38⟩ ⟨-,-,-,jh5,jh6,jh7,jh8,jh9,jh10⟩;refine h0Y (a0b trivial ?_);exact hav s3 v33 (v34,v35,v36) v37 v38 hs3 (jh5.2 (hwf hs3)) jh6.1 jh7.1 jh8.1 jh9 jh10
 ·exact k0g (s:=s3) (d:=d) hs3 (by omega)
theorem J0O:F0e:=K0Y fun x hw hp=>y0n (k0i hw.1 hp.1) hp.2.1 hp.2.2
theorem J0P:F0f:=K0Z fun x hw hp=>C0B (k0i hw.1 hp.1) hp.2.1 hp.2.2
theorem E0U:D0h:=L0a J0O J0P fun x hw hp=>C0O (k0i hw.1 hp.1) hp.2.1 hp.2.2
theorem K0w:F0g:=L0b E0U fun x hw hp=>C0T (k0i hw.1 hp)
theorem o0S{v:Int}{s:a0u}{b:Bool}(h:Sd s):∃r,q0H (v,s) b=some r/\True:=by
 unfold q0H;dsimp only;split
 ·refine a0b ⟨trivial,D0N h.1 (by omega) (by omega)⟩ (c0I ?_);rintro⟨b,s1⟩ ⟨⟨t1,t2,t3,t4,t5⟩,-,hz⟩;exact h0Y (a0b trivial (a0b ⟨t1,Nat.le_trans t5 (by decide)⟩ ⟨_,rfl,trivial⟩))
 ·refine a0b ⟨trivial,D0N h.1 (by omega) (by omega)⟩ (c0I ?_);rintro⟨b,s1⟩ ⟨⟨t1,t2,t3,t4,t5⟩,-,hz⟩;exact h0Y (a0b trivial (a0b ⟨t1,Nat.le_trans t5 (by decide)⟩ ⟨_,rfl,trivial⟩))
theorem z0R{s:a0u}(h:Sd s):u54 s=some ():=by
 refine h0Y ?_;obtain⟨v,s0,e0,hs0,-,-,-⟩:=a0K (n:=12) h (by omega);unfold u54;simp only[e0,vS,Option.isSome_some];refine a0b ⟨trivial,trivial⟩ (b0c ?_);dsimp only;split
 ·refine a0b ⟨trivial,hs0.1⟩ (c0I ?_);rintro⟨b,s1⟩ ⟨⟨t1,t5⟩,-,hz⟩;exact h0Y (a0b trivial (a0b ⟨t1,t5⟩ ⟨_,rfl,trivial⟩))
 ·split
  ·exact o0S hs0
  ·exact o0S hs0
theorem k54:K54:=e54 E0U K0w fun x hw hp=>z0R (k0i hw.1 hp)
end
end Go.Proofs.YtphnknndgfgepaaGreatDoor
end
section
namespace Go.Proofs.Xd
open Go Go.Proofs.Xv Go.Proofs.Xl
abbrev D0j:=List Int×List Int×List Int
abbrev e0I:=Int×Int×Int×Int×List D0j×List D0j
abbrev i0l:=ByteArray×Int×Int×Bool
abbrev b0j:=ByteArray×Int×List Int
abbrev c0L:=ByteArray×Int×Int
abbrev z0Y:=List Int×List Int×List Int×List Int
def inB(x l h:Int):Bool:=decide (l<=x)&&decide (x<=h)
theorem a0s{x l h:Int}:inB x l h=true↔l<=x/\x<=h:=by simp[inB]
def v0w(xs:List Int):Bool:=!(List.range xs.length).any fun i=>decide (0<i)&&decide (xs.getD i 0<=xs.getD (i-1) 0)
def c0F(xs:List Int):Bool:=decide (1<=xs.length)&&decide (xs.length<=4)&&xs.all (inB · 0 100000)&&v0w xs
def a0X(t:D0j):Bool:=c0F t.1&&c0F t.2.1&&decide (t.2.2.length=t.1.length*t.2.1.length)&&t.2.2.all (inB · (-1000000) 1000000)
theorem e0d{xs:List Int}(h:c0F xs=true):1<=xs.length/\xs.length<=4:=by
 simp only[c0F,ba,dq] at h;exact⟨h.1.1.1,h.1.1.2⟩
theorem g0T{t:D0j}(h:a0X t=true):1<=t.1.length/\t.1.length<=4/\1<=t.2.1.length/\t.2.1.length<=4/\t.2.2.length=t.1.length*t.2.1.length/\1<=t.2.2.length/\t.2.2.length<=16:=by
 simp only[a0X,ba,dq] at h;obtain⟨⟨⟨h1,h2⟩,h3⟩,_⟩:=h;obtain⟨a1,a2⟩:=e0d h1;obtain⟨b1,b2⟩:=e0d h2;have c1:1*1<=t.1.length*t.2.1.length:=Nat.mul_le_mul a1 b1;have c2:t.1.length*t.2.1.length<=4*4:=Nat.mul_le_mul a2 b2;exact⟨a1,a2,b1,b2,h3,by omega,by omega⟩
def r0W(xs:List Int):Int:=fN (fun i m=>min m (xs.getD (i+1) 0)) (xs.length-1) (xs.getD 0 0)
def a0m(l:List D0j)(p:Bool):Bool:=decide (l.length=2)&&l.all fun t=>a0X t&&!(p&&decide (r0W t.2.2<0))
theorem c0e{α:Type}(l:List α)(p:α->Bool):(!l.any fun x=>!p x)=l.all p:=by
 induction l with
 | nil=>rfl
 | cons a r ih=>simp only[List.any_cons,List.all_cons,Bool.not_or,Bool.not_not,ih]
end Go.Proofs.Xd
end
section
namespace Go.Proofs.Xd
open Go Go.Proofs.Sv Go.Proofs.Xv Go.Proofs.Xl
theorem o0o(s:ByteArray):∀n,p0I s n=!(List.range n).any fun i=>!chB (a0r s i) i
 | 0=>rfl
 | n+1=>by
   rw[p0I,o0o s n,List.range_succ,List.any_append,Bool.not_or];simp
def h0X(f:Nat->ByteArray)(i:Nat):Bool:=(List.range i).any fun k=>decide (f k=f i)
def a0B(n:Nat)(f:Nat->ByteArray):Bool:=!(List.range n).any fun i=>!nmB (f i)||h0X f i
theorem l0l{n:Nat}{f g:Nat->ByteArray}(h:∀i,i<n->f i=g i):a0B n f=a0B n g:=by
 unfold a0B;congr 1;refine d0e fun i hi=>?_;rw[h i hi];congr 1;unfold h0X;refine d0e fun k hk=>?_;rw[h i hi,h k (by omega)]
theorem u0a(l:List ByteArray)(d:ByteArray)(i:Nat)(h:i<l.length):((l.take i).any fun y=>decide (l.getD i d=y))=h0X (fun k=>l.getD k d) i:=by
 have hl:(l.take i).length=i:=by rw[List.length_take]; omega
 rw[<- a0W (l.take i) d (fun y=>decide (l.getD i d=y)),hl];unfold h0X;refine d0e fun k hk=>?_;have:(l.take i).getD k d=l.getD k d:=by
  rw[gq,gq,List.getElem?_take_of_lt hk]
 rw[this,decide_eq_decide];exact eq_comm
theorem c0p{n:Nat}{f:Nat->ByteArray}:a0B n f=true↔∀i,i<n->nmB (f i)=true/\h0X f i=false:=by
 unfold a0B;rw[Bool.not_eq_true',<- Bool.not_eq_true,List.any_eq_true];constructor
 ·intro h i hi;have:¬(!nmB (f i)||h0X f i)=true:=fun hc=>h ⟨i,List.mem_range.2 hi,hc⟩;simpa using this
 ·rintro h ⟨i,h1,h2⟩;obtain⟨h3,h4⟩:=h i (List.mem_range.1 h1);rw[h3,h4] at h2;cases h2
theorem s0u{α β:Type}(f:α->β)(l:List α)(i:Nat)(d:α)(e:β)(h:i<l.length):(l.map f).getD i e=f (l.getD i d):=by
 rw[gq,gq,List.getElem?_map,List.getElem?_eq_getElem h]; rfl
theorem r0G{α β:Type}(l:List α)(d:α)(f:α->β):(List.range l.length).map (fun i=>f (l.getD i d))=l.map f:=by
 apply List.ext_getElem?;intro i;rw[List.getElem?_map,List.getElem?_map];by_cases h:i<l.length
 ·rw[List.getElem?_range h,List.getElem?_eq_getElem h];show some (f (l.getD i d))=some (f l[i]);rw[gq,List.getElem?_eq_getElem h]; rfl
 ·rw[List.getElem?_eq_none (by simpa using h),List.getElem?_eq_none (by omega)]; rfl
def q0i(n:Nat)(q:i0l)(i:Nat):Bool:=inB q.2.2.1 0 500&&(if i+1=n then q.2.1==2&&q.2.2.1==0&&!q.2.2.2 else q.2.1==1)
def c0t(n:Nat)(p:Nat->i0l):Bool:=decide (2<=n)&&decide (n<=5)&&a0B n (fun i=>(p i).1)&&!(List.range n).any fun i=>!q0i n (p i) i
def e0J(n:Nat)(p:Nat->i0l):Int:=fN (fun i s=>if(p i).2.2.2=true then s+1 else s) n 0
def y0j(n:Nat)(p:Nat->i0l):Int:=match(List.range n).find? (fun i=>(p i).2.2.2) with | some i=>(i:Int) | none => -1
def A0A(a:Nat->e0I)(i:Nat):Bool:=(List.range i).any fun k=>(a k).1==(a i).1&&(a k).2.1==(a i).2.1&&(a k).2.2.1==(a i).2.2.1
def a0J(n:Nat)(p:Nat->i0l)(a:e0I):Bool :=
 inB a.2.1 0 ((n:Int)-1-1)&&inB a.2.2.1 0 ((n:Int)-1) &&
 if a.1=1 then !(p a.2.1.toNat).2.2.2&&a.2.2.1==(n:Int)-1&&inB a.2.2.2.1 1 3&&a0m a.2.2.2.2.1 true&&a0m a.2.2.2.2.2 true
 else if a.1=2∨a.1=3 then(p a.2.1.toNat).2.2.2&&a.2.2.1==(n:Int)-1&&a.2.2.2.1==0&&a0m a.2.2.2.2.1 true&&a0m a.2.2.2.2.2 true
 else if a.1=4∨a.1=5 then(p a.2.1.toNat).2.2.2&&decide (a.2.2.1 < (n:Int)-1)&&!(p a.2.2.1.toNat).2.2.2&&a.2.2.2.1==0&&a0m a.2.2.2.2.1 false&&(a.2.2.2.2.2.length:Int)==0
 else false
def f0l(n:Nat)(p:Nat->i0l)(a:e0I):Bool :=
 if a.1=4∨a.1=5 then a.2.2.2.1==0&&(a.2.2.2.2.2.length:Int)==0&&a0m a.2.2.2.2.1 false&&a.2.1==y0j n p&&decide (0<=a.2.1)&&inB a.2.2.1 0 ((n:Int)-1-1)&&a.2.2.1 != a.2.1
 else a0m a.2.2.2.2.1 true&&a0m a.2.2.2.2.2 true&&a.2.2.1==(n:Int)-1&&inB a.2.1 0 ((n:Int)-1-1) &&
  if a.1=1 then !(p a.2.1.toNat).2.2.2&&inB a.2.2.2.1 1 3
  else if a.1=2∨a.1=3 then(p a.2.1.toNat).2.2.2&&a.2.2.2.1==0
  else false
theorem s0R(p:Nat->i0l):∀n,0<=e0J n p/\e0J n p<=n
 | 0=>⟨Int.le_refl _,Int.le_refl _⟩
 | n+1=>by
   have:=s0R p n;unfold e0J at *
   rw[fN];split <;> omega
theorem o0O{p:Nat->i0l}:∀{n i:Nat},i<n->(p i).2.2.2=true->1<=e0J n p
 | n+1,i,hi,h=>by
   have h0:=(s0R p n).1;have ih:i<n->1<=e0J n p:=fun h'=>o0O h' h;unfold e0J at *
   rw[fN];rcases Nat.lt_succ_iff_lt_or_eq.1 hi with h' | rfl
   ·have:=ih h';split <;> omega
   ·rw[if_pos h]; omega
theorem k0e{p:Nat->i0l}:∀{n i j:Nat},i<j->j<n->(p i).2.2.2=true->(p j).2.2.2=true->2<=e0J n p
 | n+1,i,j,hij,hj,h,k=>by
   have ih:j<n->2<=e0J n p:=fun h'=>k0e hij h' h k;have h1:i<n->1<=e0J n p:=fun h'=>o0O h' h;unfold e0J at *
   rw[fN];rcases Nat.lt_succ_iff_lt_or_eq.1 hj with h' | rfl
   ·have:=ih h';split <;> omega
   ·have:=h1 hij;rw[if_pos k]; omega
theorem z0M{p:Nat->i0l}{n i:Nat}(hn:e0J n p<=1)(hi:i<n):(p i).2.2.2=decide (y0j n p=(i:Int)):=by
 unfold y0j;cases h:(List.range n).find? (fun i=>(p i).2.2.2) with
 | none =>
   rw[List.find?_eq_none] at h;have:=h i (List.mem_range.2 hi);rw[Bool.not_eq_true] at this;rw[this];exact(decide_eq_false (by show ¬(-1:Int)=i; omega)).symm
 | some j =>
   have h1:=List.find?_some h;have h2:=List.mem_range.1 (List.mem_of_find?_eq_some h);show _=decide ((j:Int)=(i:Int));by_cases e:j=i
   ·subst e;rw[decide_eq_true rfl]; exact h1
   ·rw[decide_eq_false (by omega),<- Bool.not_eq_true];intro hc;rcases Nat.lt_or_gt_of_ne e with h' | h'
    ·have:=k0e (p:=p) h' hi h1 hc; omega
    ·have:=k0e (p:=p) h' h2 hc h1; omega
theorem z0L{p:Nat->i0l}{n:Nat}:y0j n p<n:=by
 unfold y0j;cases h:(List.range n).find? (fun i=>(p i).2.2.2) with
 | none=>show(-1:Int)<n; omega
 | some j =>
   have h2:=List.mem_range.1 (List.mem_of_find?_eq_some h);show(j:Int)<n; omega
theorem c0T{p:Nat->i0l}{n:Nat}(h:c0t n p=true):2<=n/\n<=5/\(p (n-1)).2.2.2=false:=by
 unfold c0t at h;simp only[ba,dq] at h;obtain⟨⟨⟨h1,h2⟩,_⟩,h3⟩:=h;have:=b0B.1 h3 (n-1) (by omega);rw[Bool.not_eq_false'] at this;unfold q0i at this;rw[if_pos (by omega)] at this;simp only[ba,Bool.not_eq_true'] at this;exact⟨h1,h2,this.2.2⟩
theorem t0g{p:Nat->i0l}{n:Nat}(h:c0t n p=true)(hc:e0J n p<=1)(a:e0I):f0l n p a=a0J n p a:=by
 obtain⟨h2,h5,hl⟩:=c0T h;obtain⟨kd,fr,to,se,de,sl⟩:=a;rw[Bool.eq_iff_iff];unfold f0l a0J;dsimp only;have hcl:∀x:Int,0<=x->x<=(n:Int)-1->(p x.toNat).2.2.2=decide (y0j n p=x):=fun x h0 h1=>by
  rw[z0M hc (by omega)];rw[decide_eq_decide]; omega
 have hlast:y0j n p≠(n:Int)-1:=fun e=>by
  have:=hcl ((n:Int)-1) (by omega) (by omega);have e2:((n:Int)-1).toNat=n-1:=by omega
  rw[e2,hl,decide_eq_true e] at this;cases this
 have hlt:=z0L (p:=p) (n:=n);by_cases k45:kd=4∨kd=5
 ·rw[if_pos k45,if_neg (by omega),if_neg (by omega),if_pos k45];simp only[ba,a0s,dq,beq_iff_eq,bne_iff_ne,Bool.not_eq_true'];constructor
  ·rintro⟨⟨⟨⟨⟨⟨a1,a2⟩,a3⟩,a4⟩,a5⟩,a6⟩,a7⟩;have e1:=hcl fr a5 (by omega);have e2:=hcl to a6.1 (by omega);exact⟨⟨⟨a5,by omega⟩,by omega,by omega⟩,⟨⟨⟨⟨⟨by rw[e1]; exact decide_eq_true a4.symm,by omega⟩,by rw[e2]; exact decide_eq_false (by omega)⟩,a1⟩,a3⟩,a2⟩⟩
  ·rintro⟨⟨⟨a5,a6⟩,b1,b2⟩,⟨⟨⟨⟨⟨c1,c2⟩,c3⟩,c4⟩,c5⟩,c6⟩⟩;rw[hcl fr a5 (by omega),dq] at c1;rw[hcl to b1 (by omega),decide_eq_false_iff_not] at c3;exact⟨⟨⟨⟨⟨⟨c4,c6⟩,c5⟩,c1.symm⟩,a5⟩,b1,by omega⟩,by omega⟩
 ·rw[if_neg k45];by_cases k1:kd=1
  ·rw[if_pos k1,if_pos k1];simp only[ba,a0s,beq_iff_eq];constructor
   ·rintro⟨⟨⟨⟨a1,a2⟩,a3⟩,a4⟩,a5,a6⟩;exact⟨⟨a4,by omega,by omega⟩,⟨⟨⟨a5,a3⟩,a6⟩,a1⟩,a2⟩
   ·rintro⟨⟨a4,_⟩,⟨⟨⟨a5,a3⟩,a6⟩,a1⟩,a2⟩;exact⟨⟨⟨⟨a1,a2⟩,a3⟩,a4⟩,a5,a6⟩
  ·rw[if_neg k1,if_neg k1];by_cases k23:kd=2∨kd=3
   ·rw[if_pos k23,if_pos k23];simp only[ba,a0s,beq_iff_eq];constructor
    ·rintro⟨⟨⟨⟨a1,a2⟩,a3⟩,a4⟩,a5,a6⟩;exact⟨⟨a4,by omega,by omega⟩,⟨⟨⟨a5,a3⟩,a6⟩,a1⟩,a2⟩
    ·rintro⟨⟨a4,_⟩,⟨⟨⟨a5,a3⟩,a6⟩,a1⟩,a2⟩;exact⟨⟨⟨⟨a1,a2⟩,a3⟩,a4⟩,a5,a6⟩
   ·rw[if_neg k23,if_neg k23,if_neg k45,Bool.and_false,Bool.and_false]
def b0s(m:Nat)(a:Nat->e0I)(k:Int):Bool:=(List.range m).any fun i=>(a i).1==k
def p0O(k:Int)(n:Nat)(p:Nat->i0l)(m:Nat)(a:Nat->e0I)(tr:List Int):Bool :=
 if k=1 then e0J n p==0&&(tr.length:Int)==1*2 ^ (n-1)&&tr.all (inB · 0 1)
 else if k=2 then e0J n p==1&&(tr.length:Int)==0&&!b0s m a 1&&!(b0s m a 2==b0s m a 3)
 else if k=3 then e0J n p==1&&(tr.length:Int)==0&&b0s m a 1&&b0s m a 2&&!b0s m a 3
 else false
theorem v0c{k:Int}{n:Nat}{p:Nat->i0l}{m:Nat}{a:Nat->e0I}{tr:List Int}(h:p0O k n p m a tr=true):e0J n p<=1:=by
 unfold p0O at h;split at h
 ·simp only[ba,beq_iff_eq] at h; omega
 ·split at h
  ·simp only[ba,beq_iff_eq] at h; omega
  ·split at h
   ·simp only[ba,beq_iff_eq] at h; omega
   ·cases h
def n0f(q:e0I->Bool)(m:Nat)(a:Nat->e0I):Bool:=decide (m<=8)&&!(List.range m).any fun i=>!q (a i)||A0A a i
def c0z(q:Nat->(Nat->i0l)->e0I->Bool)(nm:ByteArray)(k:Int)(n:Nat)(p:Nat->i0l)(m:Nat)(a:Nat->e0I)(tr:List Int)(lk en:Int):Bool :=
 nmB nm&&c0t n p&&n0f (q n p) m a&&inB lk 0 100000&&inB en 0 100000&&p0O k n p m a tr
theorem z0P(nm:ByteArray)(k:Int)(n:Nat)(p:Nat->i0l)(m:Nat)(a:Nat->e0I)(tr:List Int)(lk en:Int):c0z f0l nm k n p m a tr lk en=c0z a0J nm k n p m a tr lk en:=by
 unfold c0z;cases hp:c0t n p with
 | false=>simp
 | true =>
   cases hk:p0O k n p m a tr with
   | false=>simp
   | true =>
     have:f0l n p=a0J n p:=funext fun x=>t0g hp (v0c hk) x;rw[this]
theorem r0m{α:Type}(l:List α)(d:α)(q:α->Bool)(i:Nat)(h:i<=l.length):(l.take i).any q=(List.range i).any fun k=>q (l.getD k d):=by
 have hl:(l.take i).length=i:=by rw[List.length_take]; omega
 rw[<- a0W (l.take i) d q,hl];refine d0e fun k hk=>?_;rw[gq,gq,List.getElem?_take_of_lt hk]
theorem l0T{n:Nat}{p:Nat->i0l}{a:e0I}(h:a0J n p a=true):1<=a.1/\a.1<=5:=by
 unfold a0J at h;rw[ba] at h;obtain⟨_,h⟩:=h;split at h
 ·omega
 ·split at h
  ·omega
  ·split at h
   ·omega
   ·cases h
theorem x0R{n:Nat}(h:n<=5) : -9223372036854775808<=(1:Int)*2 ^ (n-1)/\(1:Int)*2 ^ (n-1)<=9223372036854775807:=by
 have:∀k:Fin 6,-9223372036854775808<=(1:Int)*2 ^ (k.val-1)/\(1:Int)*2 ^ (k.val-1)<=9223372036854775807:=by decide
 exact this ⟨n,by omega⟩
def t0v(a:Nat->e0I)(k:Int)(m:Nat):Int:=fN (fun i s=>if(a i).1=k then s+1 else s) m 0
theorem h0I(a:Nat->e0I)(k:Int):∀m,0<=t0v a k m/\t0v a k m<=m
 | 0=>⟨Int.le_refl _,Int.le_refl _⟩
 | m+1=>by
   have:=h0I a k m;unfold t0v at *
   rw[fN];split <;> omega
theorem e0b(a:Nat->e0I)(k:Int):∀m,b0s m a k=decide (0<t0v a k m)
 | 0=>rfl
 | m+1=>by
   have ih:=e0b a k m;have h0:=(h0I a k m).1;unfold b0s t0v at *
   rw[List.range_succ,List.any_append,ih,fN];simp only[List.any_cons,List.any_nil,Bool.or_false];by_cases h:(a m).1=k
   ·rw[if_pos h,beq_iff_eq.2 h,Bool.or_true];exact(decide_eq_true (by omega)).symm
   ·rw[if_neg h,beq_eq_false_iff_ne.2 h,Bool.or_false]
def h0p(a:Nat->e0I)(i:Nat)(v:List Int):List Int:=v.set (a i).1.toNat (v.getD (a i).1.toNat 0+1)
theorem f0Q(a:Nat->e0I):∀m,(∀i,i<m->1<=(a i).1/\(a i).1<=5)->(fN (h0p a) m (List.replicate 6 0)).length=6/\∀k:Nat,k<6->(fN (h0p a) m (List.replicate 6 0)).getD k 0=t0v a k m
 | 0,_=>⟨by simp[fN],fun k hk=>by
   have:∀k:Fin 6,(List.replicate 6 (0:Int)).getD k.val 0=0:=by decide
   exact this ⟨k,hk⟩⟩
 | m+1,h=>by
   obtain⟨h1,h2⟩:=f0Q a m (fun i hi=>h i (by omega));obtain⟨h3,h4⟩:=h m (by omega);rw[fN];unfold h0p at *
   refine⟨by rw[List.length_set]; exact h1,fun k hk=>?_⟩;have e:t0v a k (m+1)=if(a m).1=k then t0v a k m+1 else t0v a k m:=by unfold t0v; rw[fN]
   rw[e,gq,List.getElem?_set];by_cases hk':(a m).1.toNat=k
   ·rw[if_pos hk',if_pos (by rw[h1]; omega),if_pos (by omega)];rw[Option.getD_some,hk',h2 k hk]
   ·rw[if_neg hk',if_neg (by omega),<- gq,h2 k hk]
def h0x(v:List Int)(x:Int):List Int:=v.set x.toNat (v.getD x.toNat 0+1)
def f0h(v:List Int)(n b:Nat):Prop:=v.length=n/\∀k:Nat,0<=v.getD k 0/\v.getD k 0<=(b:Int)
theorem f0g(n b:Nat):f0h (List.replicate n 0) n b:=by
 refine⟨List.length_replicate,fun k=>?_⟩;rw[gq,List.getElem?_replicate];split <;> (show(0:Int)<=0/\(0:Int)<=b; omega)
theorem c0V{v:List Int}{n b:Nat}(h:f0h v n b)(x:Int):f0h (h0x v x) n (b+1):=by
 refine⟨by unfold h0x; rw[List.length_set]; exact h.1,fun k=>?_⟩;have hx:=h.2 x.toNat;have hk:=h.2 k;unfold h0x;rw[gq,List.getElem?_set];by_cases e:x.toNat=k
 ·rw[if_pos e];split
  ·rw[Option.getD_some]; omega
  ·show(0:Int)<=0/\(0:Int)<=_; omega
 ·rw[if_neg e,<- gq]; omega
theorem j0K{v:List Int}{n b b':Nat}(h:f0h v n b)(hb:b<=b'):f0h v n b':=⟨h.1,fun k=>by have:=h.2 k; omega⟩
theorem u0X{v:List Int}{n b:Nat}(h:f0h v n b){x:Int}(hx:inB x 0 ((n:Int)-1)=true):ix x v.length/\x.toNat<v.length:=by
 rw[a0s] at hx;rw[ix,h.1];omega
def t0t(n:Nat)(ok:Nat->Bool)(nm:Nat->ByteArray):Bool:=!((List.range n).any fun i=>!ok i||h0X nm i)&&decide (n<=8)
theorem C0r{n:Nat}{ok:Nat->Bool}{nm:Nat->ByteArray}(h:∀i,i<n->ok i=true->nmB (nm i)=true):(if((List.range n).any fun i=>!ok i)=true then false else decide (n<=8)&&a0B n nm)=t0t n ok nm:=by
 unfold t0t a0B;have e:((List.range n).any fun i=>!ok i||h0X nm i)=(((List.range n).any fun i=>!ok i)||(List.range n).any fun i=>h0X nm i):=o0Y _ _;rw[e];cases ha:(List.range n).any fun i=>!ok i with
 | true=>rfl
 | false =>
   have hall:=(b0B (n:=n) (c:=fun i=>!ok i)).1 (by rw[ha]; rfl);have:((List.range n).any fun i=>!nmB (nm i)||h0X nm i)=(List.range n).any fun i=>h0X nm i:=d0e fun i hi=>by
    have:=hall i hi;rw[Bool.not_eq_false'] at this;rw[h i hi this]; rfl
   rw[this,if_neg (by simp),Bool.false_or,Bool.and_comm]
def c0X(nc:Nat)(pins:Int->Nat)(nn:Nat)(x:b0j):Bool:=inB x.2.1 0 ((nc:Int)-1)&&(x.2.2.length:Int)==(pins x.2.1:Int)&&x.2.2.all fun y=>inB y 0 ((nn:Int)-1)
def d0h(nn:Nat)(x:c0L):Bool:=inB x.2.1 1 2&&inB x.2.2 0 ((nn:Int)-1)
def d0I(x:Nat->b0j)(i:Nat)(v:List Int):List Int:=h0x v ((x i).2.2.getD ((x i).2.2.length-1) 0)
def c0y(x:Nat->c0L)(i:Nat)(v:List Int):List Int:=if(x i).2.1=1 then h0x v (x i).2.2 else v
def g0n(ni np nn:Nat)(x:Nat->b0j)(y:Nat->c0L):List Int:=fN (c0y y) np (fN (d0I x) ni (List.replicate nn 0))
theorem h0w(x:Nat->b0j)(nn:Nat):∀i,f0h (fN (d0I x) i (List.replicate nn 0)) nn i
 | 0=>f0g nn 0
 | i+1=>c0V (h0w x nn i) _
def b0E(lib:Bool)(nc:Nat)(pins:Int->Nat)(ni np nn:Nat)(x:Nat->b0j)(y:Nat->c0L)(nets:Nat->ByteArray):Bool :=
 lib&&decide (ni<=14)&&decide (nn<=30)&&decide (np<=8)&&a0B ni (fun i=>(x i).1)&&a0B nn nets&&a0B np (fun i=>(y i).1) &&
  !((List.range ni).any fun i=>!c0X nc pins nn (x i))&&!((List.range np).any fun i=>!d0h nn (y i))&&(g0n ni np nn x y).all (·==1)
def e0N(w:z0Y)(n:Int):Bool :=
 decide (1<=w.1.length)&&decide (w.1.length<=8)&&decide (w.2.1.length=w.1.length)&&decide (w.2.2.1.length=w.1.length)&&(w.2.2.2.length:Int)==n &&
  w.2.1.all (inB · 0 1000)&&w.2.2.1.all (inB · 0 500)&&w.2.2.2.all (inB · 0 ((w.1.length:Int)-1)) &&
  !(List.range w.1.length).any fun i=>(i==0&&(w.1.getD i 0 != -1||w.2.1.getD 0 0 != 0))||(decide (0<i)&&!inB (w.1.getD i 0) 0 ((i:Int)-1))
abbrev a0p:=Int×Int×Int×Bool
def c0v(x:b0j)(i:Int)(k:Nat)(s:List a0p):List a0p:=s++[(i,(k:Int),x.2.2.getD k 0,(k:Int)==(x.2.2.length:Int)-1)]
def c0d(y:Nat->c0L)(i:Nat)(s:List a0p):List a0p:=s++[(-1,(i:Int),(y i).2.2,(y i).2.1==1)]
def b0a(x:Nat->b0j)(i:Nat)(s:List a0p):List a0p:=fN (c0v (x i) i) (x i).2.2.length s
def a0S(ni np:Nat)(x:Nat->b0j)(y:Nat->c0L):List a0p:=fN (c0d y) np (fN (b0a x) ni [])
theorem c0u(x:b0j)(i:Int)(s:List a0p):∀k,(fN (c0v x i) k s).length=s.length+k
 | 0=>rfl
 | k+1=>by
   rw[fN,c0v,List.length_append,c0u x i s k]; rfl
theorem d0D(y:Nat->c0L)(s:List a0p):∀k,(fN (c0d y) k s).length=s.length+k
 | 0=>rfl
 | k+1=>by
   rw[fN,c0d,List.length_append,d0D y s k]; rfl
def j0q(pl:Nat->a0p)(i:Nat)(v:List Int):List Int:=if(pl i).2.2.2=false then h0x v (pl i).2.2.1 else v
def l0N(pl:Nat->a0p)(t:Int)(m:Nat):Int:=fN (fun i s=>if((pl i).2.2.1==t&&!(pl i).2.2.2)=true then s+1 else s) m 0
theorem s0O(pl:Nat->a0p)(t:Int):∀m,0<=l0N pl t m/\l0N pl t m<=m
 | 0=>⟨Int.le_refl _,Int.le_refl _⟩
 | m+1=>by
   have:=s0O pl t m;unfold l0N at *
   rw[fN];split <;> omega
theorem k0N(pl:Nat->a0p)(n:Nat):∀m,(∀i,i<m->inB (pl i).2.2.1 0 ((n:Int)-1)=true)->(fN (j0q pl) m (List.replicate n 0)).length=n/\∀k:Nat,k<n->(fN (j0q pl) m (List.replicate n 0)).getD k 0=l0N pl k m
 | 0,_=>⟨by simp[fN],fun k hk=>by
   show(List.replicate n (0:Int)).getD k 0=0;rw[gq,List.getElem?_replicate,if_pos hk]; rfl⟩
 | m+1,h=>by
   obtain⟨h1,h2⟩:=k0N pl n m (fun i hi=>h i (by omega));have h3:=a0s.1 (h m (by omega));rw[fN];generalize fN (j0q pl) m (List.replicate n 0)=v at *
   unfold j0q;have e:∀k:Nat,l0N pl k (m+1)=if((pl m).2.2.1==(k:Int)&&!(pl m).2.2.2)=true then l0N pl k m+1 else l0N pl k m:=fun k=>by unfold l0N; rw[fN]
   cases hd:(pl m).2.2.2 with
   | true =>
     refine⟨by rw[if_neg (by simp)]; exact h1,fun k hk=>?_⟩;rw[if_neg (by simp),h2 k hk,e,hd,if_neg (by simp)]
   | false =>
     rw[if_pos rfl];unfold h0x;refine⟨by rw[List.length_set]; exact h1,fun k hk=>?_⟩;rw[e,hd,gq,List.getElem?_set];by_cases hk':(pl m).2.2.1.toNat=k
     ·rw[if_pos hk',if_pos (by rw[h1]; omega),if_pos (by simp; omega),Option.getD_some,hk',h2 k hk]
     ·rw[if_neg hk',if_neg (by simp; omega),<- gq,h2 k hk]
def c0J(pl:Nat->a0p)(t:Int)(i:Nat)(s:List Int):List Int:=if((pl i).2.2.1==t&&!(pl i).2.2.2)=true then s++[(i:Int)] else s
theorem d0B(pl:Nat->a0p)(t:Int):∀m,((fN (c0J pl t) m []).length:Int)=l0N pl t m
 | 0=>rfl
 | m+1=>by
   have:=d0B pl t m;rw[fN];unfold l0N at *
   rw[fN];unfold c0J at *
   split
   ·rw[List.length_append];show((_+1:Nat):Int)=_;omega
   ·exact this
def i0R(n:Nat)(s:List a0p):Prop:=∀p∈s,inB p.2.2.1 0 ((n:Int)-1)=true
theorem o0B{n:Nat}{x:b0j}{i:Int}(hx:∀k,k<x.2.2.length->inB (x.2.2.getD k 0) 0 ((n:Int)-1)=true){s:List a0p}(hs:i0R n s):∀k,k<=x.2.2.length->i0R n (fN (c0v x i) k s)
 | 0,_=>hs
 | k+1,hk=>by
   rw[fN,c0v];intro p hp;rcases List.mem_append.1 hp with h | h
   ·exact o0B hx hs k (by omega) p h
   ·cases List.mem_singleton.1 h;exact hx k (by omega)
theorem i0N{n:Nat}{x:Nat->b0j}{ni:Nat}(hx:∀i,i<ni->∀k,k < (x i).2.2.length->inB ((x i).2.2.getD k 0) 0 ((n:Int)-1)=true):∀i,i<=ni->i0R n (fN (b0a x) i [])
 | 0,_=>fun p hp=>by cases hp
 | i+1,hi=>by
   rw[fN,b0a];exact o0B (hx i (by omega)) (i0N hx i (by omega)) _ (Nat.le_refl _)
theorem o0c{n:Nat}{y:Nat->c0L}{np:Nat}(hy:∀i,i<np->inB (y i).2.2 0 ((n:Int)-1)=true){s:List a0p}(hs:i0R n s):∀k,k<=np->i0R n (fN (c0d y) k s)
 | 0,_=>hs
 | k+1,hk=>by
   rw[fN,c0d];intro p hp;rcases List.mem_append.1 hp with h | h
   ·exact o0c hy hs k (by omega) p h
   ·cases List.mem_singleton.1 h;exact hy k (by omega)
theorem d0i{x:Nat->b0j}{ni:Nat}(hx:∀i,i<ni->(x i).2.2.length<=5):∀i,i<=ni->(fN (b0a x) i []).length<=5*i
 | 0,_=>Nat.le_refl _
 | i+1,hi=>by
   rw[fN,b0a,c0u];have:=d0i hx i (by omega);have:=hx i (by omega);omega
theorem b0d{α:Type}{l:List α}{i:Nat}{d:α}(h:i<l.length):l.getD i d∈l:=by
 rw[gq,List.getElem?_eq_getElem h];exact List.getElem_mem h
theorem e0f{l:List Int}{p:Int->Bool}(h:l.all p=true){i:Nat}(hi:i<l.length):p (l.getD i 0)=true:=List.all_eq_true.1 h _ (b0d hi)
structure DesignFacts(nc:Nat)(pins:Int->Nat)(ni np nn:Nat)(x:Nat->b0j)(y:Nat->c0L):Prop where
 ni14:ni<=14
 np8:np<=8
 nn30:nn<=30
 inst:∀i,i<ni->c0X nc pins nn (x i)=true
 port:∀i,i<np->d0h nn (y i)=true
theorem l0J{lib:Bool}{nc:Nat}{pins:Int->Nat}{ni np nn:Nat}{x:Nat->b0j}{y:Nat->c0L}{nets:Nat->ByteArray}(h:b0E lib nc pins ni np nn x y nets=true):lib=true/\DesignFacts nc pins ni np nn x y:=by
 unfold b0E at h;simp only[ba,dq] at h;obtain⟨⟨⟨⟨⟨⟨⟨⟨⟨c1,c2⟩,c3⟩,c4⟩,_⟩,_⟩,_⟩,c5⟩,c6⟩,_⟩:=h;refine⟨c1,c2,c4,c3,fun i hi=>?_,fun i hi=>?_⟩
 ·have:=b0B.1 c5 i hi
  rwa [Bool.not_eq_false'] at this
 ·have:=b0B.1 c6 i hi
  rwa [Bool.not_eq_false'] at this
theorem DesignFacts.net{nc:Nat}{pins:Int->Nat}{ni np nn:Nat}{x:Nat->b0j}{y:Nat->c0L}(h:DesignFacts nc pins ni np nn x y):(∀i,i<ni->∀k,k < (x i).2.2.length->inB ((x i).2.2.getD k 0) 0 ((nn:Int)-1)=true)/\∀i,i<np->inB (y i).2.2 0 ((nn:Int)-1)=true:=by
 refine⟨fun i hi k hk=>?_,fun i hi=>?_⟩
 ·have:=h.inst i hi;unfold c0X at this;rw[ba] at this;exact e0f (p:=fun y=>inB y 0 ((nn:Int)-1)) this.2 hk
 ·have:=h.port i hi;unfold d0h at this;rw[ba] at this;exact this.2
end Go.Proofs.Xd
end
section
namespace Go.Proofs.Xd
open Go Go.Proofs Go.Proofs.Xl
def l0Y(v:List Int)(i:Nat)(x:Int):List Int:=v.set i (v.getD i 0+x)
theorem l0X{v:List Int}{i:Nat}{x:Int}:(l0Y v i x).length=v.length:=by unfold l0Y; simp
theorem f0u{v:List Int}{i j:Nat}{x:Int}(hi:i<v.length):(l0Y v i x).getD j 0=if j=i then v.getD i 0+x else v.getD j 0:=by
 unfold l0Y;by_cases h:j=i
 ·subst h; simp[hi]
 ·rw[if_neg h]; simp[List.getElem?_set_ne (Ne.symm h)]
def e0Y(v:List Int)(k:Nat):Int:=fN (fun i s=>s+v.getD i 0) k 0
theorem c0n(v:List Int)(k:Nat):e0Y v (k+1)=e0Y v k+v.getD k 0:=rfl
theorem e0o{v:List Int}{i:Nat}{x:Int}(hi:i<v.length):∀k,e0Y (l0Y v i x) k=e0Y v k+if i<k then x else 0
 | 0=>by simp[e0Y,fN]
 | k+1=>by
   rw[c0n,c0n,e0o hi k,f0u hi];by_cases h:k=i
   ·subst h; simp; omega
   ·rw[if_neg h];by_cases h2:i<k
    ·rw[if_pos h2,if_pos (by omega)]; omega
    ·rw[if_neg h2,if_neg (by omega)]; omega
theorem k0F{v:List Int}(hp:∀j,0<=v.getD j 0):∀k,0<=e0Y v k
 | 0=>by simp[e0Y,fN]
 | k+1=>by have:=k0F hp k; have:=hp k; rw[c0n]; omega
theorem j0O{v:List Int}(hp:∀j,0<=v.getD j 0):∀{k j:Nat},j<k->v.getD j 0<=e0Y v k
 | k+1,j,h=>by
   rw[c0n];have h1:=k0F hp k;have h2:=hp k;by_cases e:j=k
   ·subst e; omega
   ·have:=j0O hp (k:=k) (j:=j) (by omega); omega
structure Low(v:List Int)(n:Nat)(S:Int):Prop where
 len:v.length=n
 pos:∀j,0<=v.getD j 0
 sum:e0Y v n<=S
theorem n0Q{v:List Int}{c:Int}(hp:∀j,v.getD j 0<=c):∀k:Nat,e0Y v k<=c*(k:Int)
 | 0=>by simp[e0Y,fN]
 | k+1=>by
   have:=n0Q hp k;have:=hp k;rw[c0n,Int.natCast_add,Int.mul_add];omega
theorem z0o{v:List Int}{n:Nat}(hn:v.length=n)(h:v.all (inB · 0 500)=true):Low v n (500*(n:Int)):=by
 have hj:∀j,0<=v.getD j 0/\v.getD j 0<=500:=fun j=>by
  rcases Nat.lt_or_ge j v.length with hj | hj
  ·have:=a0s.1 (e0f (p:=fun x=>inB x 0 500) h hj); exact this
  ·rw[gq,List.getElem?_eq_none hj]; exact⟨by decide,by decide⟩
 exact⟨hn,fun j=>(hj j).1,n0Q (fun j=>(hj j).2) n⟩
theorem Low.bd{v:List Int}{n:Nat}{S:Int}(h:Low v n S)(hS:0<=S)(j:Nat):0<=v.getD j 0/\v.getD j 0<=S:=by
 refine⟨h.pos j,?_⟩;rcases Nat.lt_or_ge j n with hj | hj
 ·exact Int.le_trans (j0O h.pos hj) h.sum
 ·rw[gq,List.getElem?_eq_none (by rw[h.len]; exact hj)]; exact hS
theorem Low.add{v:List Int}{n:Nat}{S:Int}(h:Low v n S){i:Nat}(hi:i<n){x:Int}(hx:0<=x):Low (l0Y v i x) n (S+x):=by
 have hi':i<v.length:=by rw[h.len]; exact hi
 refine⟨by rw[l0X]; exact h.len,fun j=>?_,?_⟩
 ·rw[f0u hi'];have:=h.pos i;have:=h.pos j;split <;> omega
 ·rw[e0o hi',if_pos hi]; have:=h.sum; omega
def y0k(s c:Nat->Int)(i:Nat)(v:List Int):List Int:=l0Y v (s i).toNat (c i)
theorem o0Q{s c:Nat->Int}{v:List Int}{n:Nat}{S:Int}(h:Low v n S):∀m,(∀i,i<m->0<=s i/\(s i).toNat<n/\0<=c i/\c i<=500)->Low (fN (y0k s c) m v) n (S+500*(m:Int))
 | 0,_=>⟨h.len,h.pos,by have:=h.sum; show e0Y v n<=_; omega⟩
 | m+1,hm=>by
   have ih:=o0Q h m (fun i hi=>hm i (by omega));obtain⟨h1,h2,h3,h4⟩:=hm m (by omega);have:=ih.add h2 h3;refine⟨this.len,this.pos,?_⟩;have:=this.sum;rw[Int.natCast_add,Int.mul_add];refine Int.le_trans this ?_;simp only[Int.natCast_one];omega
def f0H(P:Nat->Int)(n k:Nat)(v:List Int):List Int:=l0Y v (P (n-1-k)).toNat (v.getD (n-1-k) 0)
structure D0c(v:List Int)(n k:Nat)(S:Int):Prop where
 len:v.length=n
 pos:∀j,0<=v.getD j 0
 bd:∀j,v.getD j 0<=S
 sum:e0Y v (n-k)<=S
theorem k0T{P:Nat->Int}{v:List Int}{n k:Nat}{S:Int}(h:D0c v n k S)(hk:k<n-1)(hP:0<=P (n-1-k)/\(P (n-1-k)).toNat<n-1-k):D0c (f0H P n k v) n (k+1) S:=by
 have hp:(P (n-1-k)).toNat<v.length:=by rw[h.len]; omega
 have hpos:∀j,0<=(f0H P n k v).getD j 0:=fun j=>by
  unfold f0H;rw[f0u hp];have:=h.pos (P (n-1-k)).toNat;have:=h.pos (n-1-k);have:=h.pos j;split <;> omega
 have hs:e0Y (f0H P n k v) (n-(k+1))<=S:=by
  unfold f0H;have e:n-(k+1)=n-1-k:=by omega
  rw[e0o hp,e,if_pos hP.2];have:=h.sum;rw[show n-k=(n-1-k)+1 by omega,c0n] at this;exact this
 refine⟨by unfold f0H; rw[l0X]; exact h.len,hpos,fun j=>?_,hs⟩;by_cases e:j=(P (n-1-k)).toNat
 ·have hlt:j<n-(k+1):=by omega
  exact Int.le_trans (j0O hpos hlt) hs
 ·unfold f0H;rw[f0u hp,if_neg e];exact h.bd j
theorem k0U{P:Nat->Int}{v:List Int}{n:Nat}{S:Int}(h:Low v n S)(hS:0<=S)(hP:∀i,0<i->i<n->0<=P i/\(P i).toNat<i):∀k,k<=n-1->D0c (fN (f0H P n) k v) n k S
 | 0,_=>⟨h.len,h.pos,fun j=>(h.bd hS j).2,h.sum⟩
 | k+1,hk=>k0T (k0U h hS hP k (by omega)) (by omega) (hP _ (by omega) (by omega))
def C0p(cap:List Int)(n m:Nat)(s c P:Nat->Int):List Int:=fN (f0H P n) (n-1) (fN (y0k s c) m cap)
theorem b0Z{α:Type}{l r:List α}{d:α}{i:Nat}(h:i<l.length):(l++r).getD i d=l.getD i d:=by
 simp only[gq,List.getElem?_append_left h]
theorem c0Y{α:Type}{l r:List α}{d:α}{i:Nat}(h:l.length<=i):(l++r).getD i d=r.getD (i-l.length) d:=by
 simp only[gq,List.getElem?_append_right h]
def m0f(P R L:Nat->Int)(k:Nat)(s:List Int):List Int:=s++[s.getD (P (k+1)).toNat 0+R (k+1)*L (k+1)]
def z0H(n:Nat)(P R L:Nat->Int):List Int:=fN (m0f P R L) (n-1) [0]
theorem r0V{a b A B:Int}(a0:0<=a)(a1:a<=A)(b0:0<=b)(b1:b<=B):0<=a*b/\a*b<=A*B :=
 ⟨Int.mul_nonneg a0 b0,Int.mul_le_mul a1 b1 b0 (Int.le_trans a0 a1)⟩
theorem s0K{P R L:Nat->Int}{n:Nat}{S:Int}(hR:∀i,i<n->0<=R i/\R i<=1000)(hL:∀i,i<n->0<=L i/\L i<=S)(hS:0<=S):∀k,k<=n-1->(fN (m0f P R L) k [0]).length=k+1/\∀j,0<=(fN (m0f P R L) k [0]).getD j 0/\(fN (m0f P R L) k [0]).getD j 0<=1000*S*(k:Int)
 | 0,_=>⟨rfl,fun j=>by
   cases j with
   | zero=>exact⟨by simp[fN],by simp[fN]⟩
   | succ j=>exact⟨by simp[fN],by simp[fN]⟩⟩
 | k+1,hk=>by
   obtain⟨h1,h2⟩:=s0K hR hL hS k (by omega);have hx:=r0V (hR (k+1) (by omega)).1 (hR (k+1) (by omega)).2 (hL (k+1) (by omega)).1 (hL (k+1) (by omega)).2;have hk1:0<=1000*S*(k:Int):=Int.mul_nonneg (by omega) (by omega);have e:1000*S*((k+1:Nat):Int)=1000*S*(k:Int)+1000*S:=by rw[Int.natCast_add,Int.mul_add]; simp
   have e2:fN (m0f P R L) (k+1) [0]=m0f P R L k (fN (m0f P R L) k [0]):=rfl;rw[e2];generalize fN (m0f P R L) k [0]=s at h1 h2;unfold m0f;refine⟨by rw[List.length_append,h1]; rfl,fun j=>?_⟩;rw[e];rcases Nat.lt_or_ge j s.length with hj | hj
   ·have:=h2 j;rw[b0Z hj]; omega
   ·have h3:=h2 (P (k+1)).toNat;rw[c0Y hj];cases hjs:j-s.length with
    | zero=>simp only[List.getD_cons_zero]; omega
    | succ q=>simp only[List.getD_cons_succ,List.getD_nil]; omega
theorem v0D{s:List Int}{k n:Nat}{x:Int}(hs:s.length=k+1)(hk:k+1<n):(s++List.replicate (n-1-k) 0).set (k+1) x=(s++[x])++List.replicate (n-1-(k+1)) 0:=by
 have e:n-1-k=(n-1-(k+1))+1:=by omega
 rw[e,List.replicate_succ,List.set_append_right _ _ (by omega),hs,Nat.sub_self,List.set_cons_zero,List.append_assoc];rfl
theorem v0E{s:List Int}{k n p:Nat}(hs:s.length=k+1)(hp:p<k+1):(s++List.replicate (n-1-k) 0).getD p 0=s.getD p 0:=b0Z (by omega)
def exF(D:List Int)(S:Nat->Int)(i:Nat)(s:List Int):List Int:=s++[D.getD (S i).toNat 0]
def p0B(ni np:Nat)(x:Nat->b0j)(p:a0p):Prop:=(p.1 = -1/\0<=p.2.1/\p.2.1.toNat<np)∨(0<=p.1/\p.1.toNat<ni/\0<=p.2.1/\p.2.1.toNat < (x p.1.toNat).2.2.length)
theorem i0S{ni np:Nat}{x:Nat->b0j}{i:Nat}(hi:i<ni){s:List a0p}(hs:∀p∈s,p0B ni np x p):∀k,k<=(x i).2.2.length->∀p∈fN (c0v (x i) i) k s,p0B ni np x p
 | 0,_=>hs
 | k+1,hk=>fun p hp=>by
   have hp:p∈c0v (x i) i k (fN (c0v (x i) i) k s):=hp;unfold c0v at hp;rcases List.mem_append.1 hp with hp | hp
   ·exact i0S hi hs k (by omega) p hp
   ·cases List.mem_singleton.1 hp;exact .inr ⟨Int.natCast_nonneg _,by simpa using hi,Int.natCast_nonneg _,by simp; omega⟩
theorem g0f{ni np:Nat}{x:Nat->b0j}:∀i,i<=ni->∀p∈fN (b0a x) i [],p0B ni np x p
 | 0,_=>fun p hp=>by cases hp
 | i+1,hi=>i0S (by omega) (g0f i (by omega)) _ (Nat.le_refl _)
theorem i0M{ni np:Nat}{x:Nat->b0j}{y:Nat->c0L}{s:List a0p}(hs:∀p∈s,p0B ni np x p):∀k,k<=np->∀p∈fN (c0d y) k s,p0B ni np x p
 | 0,_=>hs
 | k+1,hk=>fun p hp=>by
   have hp:p∈c0d y k (fN (c0d y) k s):=hp;unfold c0d at hp;rcases List.mem_append.1 hp with hp | hp
   ·exact i0M hs k (by omega) p hp
   ·cases List.mem_singleton.1 hp;exact .inl ⟨rfl,Int.natCast_nonneg _,by simp; omega⟩
theorem m0z(ni np:Nat)(x:Nat->b0j)(y:Nat->c0L):∀p∈a0S ni np x y,p0B ni np x p:=i0M (g0f ni (Nat.le_refl _)) np (Nat.le_refl _)
theorem g0E(pl:Nat->a0p)(t:Int):∀m,∀x∈fN (c0J pl t) m [],∃j:Nat,x=(j:Int)/\j<m/\(pl j).2.2.1=t/\(pl j).2.2.2=false
 | 0,x,h=>by cases h
 | m+1,x,h=>by
   have ih:=g0E pl t m x;have h:x∈c0J pl t m (fN (c0J pl t) m []):=h;generalize fN (c0J pl t) m []=s at ih h;unfold c0J at h;split at h
   ·rename_i hc;rw[ba,beq_iff_eq,Bool.not_eq_true'] at hc;rcases List.mem_append.1 h with h | h
    ·obtain⟨j,h1,h2,h3⟩:=ih h;exact⟨j,h1,by omega,h3⟩
    ·cases List.mem_singleton.1 h;exact⟨m,rfl,by omega,hc⟩
   ·obtain⟨j,h1,h2,h3⟩:=ih h;exact⟨j,h1,by omega,h3⟩
structure l0Z(w:z0Y)(n:Int):Prop where
 n1:1<=w.1.length
 n8:w.1.length<=8
 res:w.2.1.length=w.1.length
 cap:w.2.2.1.length=w.1.length
 snk:(w.2.2.2.length:Int)=n
 resIn:∀i,i<w.1.length->0<=w.2.1.getD i 0/\w.2.1.getD i 0<=1000
 capOk:w.2.2.1.all (inB · 0 500)=true
 snkIn:∀i,i<w.2.2.2.length->0<=w.2.2.2.getD i 0/\(w.2.2.2.getD i 0).toNat<w.1.length
 par:∀i,0<i->i<w.1.length->0<=w.1.getD i 0/\(w.1.getD i 0).toNat<i
theorem p0e{w:z0Y}{n:Int}(h:e0N w n=true):l0Z w n:=by
 unfold e0N at h;simp only[ba,dq,beq_iff_eq] at h;obtain⟨⟨⟨⟨⟨⟨⟨⟨c1,c2⟩,c3⟩,c4⟩,c5⟩,c6⟩,c7⟩,c8⟩,c9⟩:=h;refine⟨c1,c2,c3,c4,c5,fun i hi=>?_,c7,fun i hi=>?_,fun i h0 hi=>?_⟩
 ·exact a0s.1 (e0f (p:=fun x=>inB x 0 1000) c6 (by omega))
 ·have:=a0s.1 (e0f (p:=fun x=>inB x 0 ((w.1.length:Int)-1)) c8 hi);omega
 ·have:=b0B.1 c9 i hi;rw[Bool.or_eq_false_iff] at this;have h2:=this.2;rw[Bool.and_eq_false_iff,decide_eq_false_iff_not,Bool.not_eq_false',a0s] at h2;rcases h2 with h | h
  ·omega
  ·omega
end Go.Proofs.Xd
end

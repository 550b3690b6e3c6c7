/- The drawn blocks: there are some, and they are small. -/
import Derived.Test.YtphnknndgfgepaaGreatDoorWA
import Derived.Test.YtphnknndgfgepaaGreatDoorXF
section
namespace Go.Proofs.YtphnknndgfgepaaGreatDoor
open Go Go.Proofs Go.Proofs.Sv Go.Proofs.Xv Go.Proofs.Xl Go.Proofs.Xd
theorem H0I{s:a0s}{k:Int}(h:sd s)(a:0<=k)(b:k<=40):D0h (s,k,()):=⟨h,a,b⟩
theorem D0Q{s:a0s}{k:Int}{b:Bool}(h:sd s)(a:2<=k)(e:k<=6):y0n (s,k,b,()):=⟨h,a,e⟩
theorem r0o{α:Type}{f:α->Nat}{y d:α}:∀{xs:List α} {i:Nat},i<xs.length->((xs.set i y).map f).sum+f (xs.getD i d)=(xs.map f).sum+f y
 | x :: r,0,_=>by simp; omega
 | x :: r,i+1,h=>by
   have:=r0o (f:=f) (y:=y) (d:=d) (xs:=r) (i:=i) (by simpa using h);simp only[List.set_cons_succ,List.map_cons,List.sum_cons,List.getD_cons_succ];omega
theorem z0I{d d':Y31}(h1:shp (.sl y165) d.1 d'.1)(h2:shp (.sl .str) d.2.1 d'.2.1)(h3:shp (.sl y175) d.2.2 d'.2.2):cnt y31 d'=cnt y31 d :=
 e0t (.pr (.sl y165) (.pr (.sl .str) (.sl y175))) d d' ⟨h1,h2,h3⟩
theorem z0G{c:List Int}(hw:wf (.sl (.int .u8)) c):∃s,u53 c=some s/\Sd s:=by
 unfold u53;refine d0A (fun x=>(65-x.1).toNat) (fun x=>0<=x.1/\x.1<=64/\0<=x.2/\x.2<2147483647) ?_ ⟨by simp only; omega,by simp only; omega,by simp only; omega,by simp only; omega⟩ (by simp only; omega);rintro g ⟨i,x⟩ ⟨i1,i2,i3,i4⟩ ih;simp only at i1 i2 i3 i4;unfold B0D;dsimp only;split
 ·rename_i hc;simp only[ba,dq] at hc;have hlt:i.toNat<c.length:=by omega
  have hb:0<=c.getD i.toNat 0/\c.getD i.toNat 0<=255:=by
   rw[gq,List.getElem?_eq_getElem hlt];exact hw.2 _ (List.getElem_mem hlt)
  refine a0b ⟨oo,⟨i1,hc.1⟩,trivial,oo,by omega,trivial⟩ (a0b ⟨oo,trivial⟩ ?_);exact ih _ ⟨by simp only; omega,by simp only; omega,Int.tmod_nonneg _ (by omega),Int.tmod_lt_of_pos _ (by omega)⟩ (by simp only; omega)
 ·exact⟨_,rfl,⟨⟨by simp only; omega,i3,i4⟩,hw.1,fun b hb=>hw.2 b hb⟩⟩
section
variable [Alw]
def G0X(w:b0H):Prop:=(1<=w.1.length/\1<=w.2.1.length/\1<=w.2.2.1.length)/\cnt a0j w<=60
theorem C0S{s:a0s}{most:Int}{wild:Bool}(h:Sd s)(h0:2<=most)(h1:most<=6):D0H s most wild=some ():=by
 refine h0Y ?_;obtain⟨⟨l,s0⟩,e0,hs0,hl⟩:=C0w h;simp only at hs0 hl e0;unfold D0H;simp only[e0,vS,Option.isSome_some];refine a0b ⟨trivial,trivial⟩ (b0a ?_);refine a0b ⟨trivial,hs0.1,h0,h1⟩ (c0F ?_);rintro⟨d,s1⟩ ⟨⟨t1,⟨t2,t3⟩,⟨t4,t5⟩,⟨t6,t7⟩,t8⟩,-,hz⟩;have hs1:Sd s1:=k0l hz t1;have hd:F0g d:=⟨⟨t2,t3⟩,t7⟩;refine h0Y (a0b trivial ?_);refine d0A (fun x=>(21-x.1).toNat) (fun x=>Sd (x.2.2.1,x.2.2.2.1,x.2.2.2.2)/\0<=x.1/\x.1<=20/\(x.2.1.length:Int)=x.1/\∀w∈x.2.1,G0X w) ?_ ⟨hs1,by simp only; omega,by simp only; omega,by simp,by simp⟩ (by simp only; omega);rintro g ⟨i,ws,c,at0,sd0⟩ ⟨i1,i2,i3,i4,i5⟩ ih;simp only at i1 i2 i3 i4 i5 t4 t5 t6 t8;unfold x0K;dsimp only;by_cases cm:i < (d.2.1.length:Int)
 ·rw[if_pos (decide_eq_true cm)];obtain⟨k,e1,hk⟩:=C0b (t:=i) hd;simp only[e1,vS,Option.isSome_some];refine a0b ⟨⟨trivial,trivial⟩,H0I i1.1 (by omega) (by omega)⟩ (c0F ?_);rintro⟨w,s2⟩ ⟨⟨w1,w2,w3,w4,w5⟩,-,hz2⟩;refine h0Y (a0b ⟨⟨by simp; omega,by simp; omega⟩,trivial⟩ (a0b ⟨oo,trivial⟩ (b0a ?_)));refine ih _ ⟨k0l hz2 w1,by simp only; omega,by simp only; omega,by simp; omega,fun x hx=>?_⟩ (by simp only; omega);rcases List.mem_append.1 hx with hx | hx
  ·exact i5 x hx
  ·rw[List.mem_singleton.1 hx];exact⟨⟨w2,w3,w4⟩,w5⟩
 ·rw[if_neg (by simpa using cm)];unfold r0j;have hw:=c0K (e:=a0j) (m:=20) (k:=60) (xs:=ws) (by omega) (fun x hx=>(i5 x hx).2);refine a0b ⟨i1.1,by simp only; omega,fun x hx=>(i5 x hx).1,t6,?_⟩ ⟨_,rfl,trivial⟩;show cnt (.pr (.sl y163) (.pr y31 (.sl a0j))) (l,d,ws)<=10000;rw[a0M,a0M];simp only;omega
theorem k0j{s:a0s}{ws:List b0H}{d:Y31}{l:List a0A}(h:Sd s)(hc:cnt (.sl y163) l+(cnt y31 d+cnt (.sl a0j) ws)<=20000) :
  ∃r,d0G (s.1,s.2.1,s.2.2,ws,d.1,d.2.1,d.2.2,l)=some r/\True:=by
 unfold d0G;refine a0b ⟨h.1,?_⟩ ⟨_,rfl,trivial⟩;show cnt (.pr (.sl y163) (.pr y31 (.sl a0j))) (l,d,ws)<=20000;rw[a0M,a0M];exact hc
theorem C0X{s:a0s}(h:Sd s):D0I s=some ():=by
 refine h0Y ?_;obtain⟨v,s0,e0,hs0,-,-,-⟩:=a0H (n:=3) h (by omega);unfold D0I;simp only[e0,vS,Option.isSome_some];refine a0b ⟨⟨trivial,trivial⟩,D0Q hs0.1 (by omega) (by omega)⟩ (c0F ?_);rintro⟨⟨l,d,ws⟩,s1⟩ ⟨⟨t1,t2,t3,t4,t5⟩,-,hz⟩;have hs1:Sd s1:=k0l hz t1;simp only at t2 t3 t4 t5;refine h0Y (a0b trivial ?_);have hws:ws.length<=9223372036854775807:=by
  have h9:cnt (.pr (.sl y163) (.pr y31 (.sl a0j))) (l,d,ws)<=10000:=t5;rw[a0M,a0M,d0c (e:=a0j)] at h9;simp only at h9;omega
 have hc:cnt (.sl y163) l+(cnt y31 d+cnt (.sl a0j) ws)<=10000:=by
  have h9:cnt (.pr (.sl y163) (.pr y31 (.sl a0j))) (l,d,ws)<=10000:=t5;rw[a0M,a0M] at h9;exact h9
 obtain⟨k,s2,e2,hs2,ka,kb,-⟩:=a0H (n:=(ws.length:Int)) hs1 (by omega);have kb:=kb (by omega);obtain⟨q,s3,e3,hs3,-,-,-⟩:=a0H (n:=20) hs2 (by omega);have e2':u88 (k0k ((l,d,ws),s1)) (ws.length:Int)=some (k,s2):=e2;dsimp only;simp only[e2',vS,Option.isSome_some];refine a0b ⟨trivial,trivial⟩ (b0a ?_);dsimp only;simp only[e3,vS,Option.isSome_some];refine a0b ⟨trivial,trivial⟩ (b0a ?_);dsimp only;have hlt:k.toNat<ws.length:=by omega
 have hwk:1<=(ws.getD k.toNat (a0a a0j)).1.length/\1<=(ws.getD k.toNat (a0a a0j)).2.1.length/\1<=(ws.getD k.toNat (a0a a0j)).2.2.1.length:=by
  rw[gq,List.getElem?_eq_getElem hlt];exact t3 _ (List.getElem_mem hlt)
 have hwl:cnt a0j (ws.getD k.toNat (a0a a0j))<=10000:=by
  have:=y0j (t:=a0j) (d:=a0a a0j) hlt;rw[d0c (e:=a0j)] at hc;omega
 -- a number deep in the data has turned
 have hav:∀(s4:a0s) (c4:List Int) (d4:Y31) (w4:List b0H) (l4:List a0A),Sd s4->wf (.sl (.int .u8)) c4->shp (.sl y165) d.1 d4.1->shp (.sl .str) d.2.1 d4.2.1->shp (.sl y175) d.2.2 d4.2.2->shp (.sl a0j) ws w4->shp (.sl y163) l l4 ->
   ∃r,d0G (c4,s4.2.1,s4.2.2,w4,d4.1,d4.2.1,d4.2.2,l4)=some r/\True:=fun s4 c4 d4 w4 l4 q1 q2 q3 q4 q5 q6 q7 =>
  k0j (s:=(c4,s4.2.1,s4.2.2)) ⟨q1.1,q2.1,fun b hb=>q2.2 b hb⟩ (by rw[e0t _ _ _ q7,z0I q3 q4 q5,e0t _ _ _ q6]; omega)
 have hwf:∀{s4:a0s},Sd s4->wf (.sl (.int .u8)) s4.1:=fun q=>⟨q.2.1,fun b hb=>q.2.2 b hb⟩;split
 ·refine a0b ⟨⟨by omega,by omega,by omega⟩,trivial⟩ ?_;refine k0j (s:=s3) (d:=d) hs3 ?_;have:cnt (.sl a0j) (List.drop (Int.toNat (1:Int)) ws)<=cnt (.sl a0j) ws:=by
   cases ws with
   | nil=>simp
   | cons x r =>
     rw[d0c,d0c];simp only[show Int.toNat (1:Int)=1 from rfl,List.drop_succ_cons,List.drop_zero,List.map_cons,List.sum_cons,List.length_cons];omega
  omega
 split
 ·have hsk:(ws.getD k.toNat (a0a a0j)).2.2.2.length<=10000:=by
   have h9:cnt (.pr (.sl (.int .i64)) (.pr (.sl (.int .i64)) (.pr (.sl (.int .i64)) (.sl (.int .i64))))) (ws.getD k.toNat (a0a a0j))<=10000:=hwl;rw[a0M,a0M,a0M] at h9;simp only[b0T] at h9;omega
  have hik:h0V (ws.getD k.toNat (a0a a0j)).2.2.2=some (ws.getD k.toNat (a0a a0j)).2.2.2:=by
   unfold h0V;rw[gP ⟨oo,trivial⟩];rfl
  simp only[hik,vS,Option.isSome_some];refine a0b ⟨⟨⟨ka,by omega⟩,hlt,trivial,⟨by rw[List.length_singleton]; omega,by rw[List.length_singleton]; omega⟩,⟨ka,by omega⟩,trivial⟩,hlt,trivial⟩ ?_;refine k0j (s:=s3) (d:=d) hs3 ?_;have hset:=r0o (f:=cnt a0j) (d:=a0a a0j) (y:=((ws.getD k.toNat (a0a a0j)).1,(ws.getD k.toNat (a0a a0j)).2.1,(ws.getD k.toNat (a0a a0j)).2.2.1,(ws.getD k.toNat (a0a a0j)).2.2.2++[0])) hlt;have hone:cnt a0j ((ws.getD k.toNat (a0a a0j)).1,(ws.getD k.toNat (a0a a0j)).2.1,(ws.getD k.toNat (a0a a0j)).2.2.1,(ws.getD k.toNat (a0a a0j)).2.2.2++[0])=cnt a0j (ws.getD k.toNat (a0a a0j))+1:=by
   generalize ws.getD k.toNat (a0a a0j)=w;show cnt (.pr (.sl (.int .i64)) (.pr (.sl (.int .i64)) (.pr (.sl (.int .i64)) (.sl (.int .i64))))) _=cnt (.pr (.sl (.int .i64)) (.pr (.sl (.int .i64)) (.pr (.sl (.int .i64)) (.sl (.int .i64))))) w+1;simp only[a0M,b0T,List.length_append,List.length_singleton];omega
  rw[hone] at hset;rw[d0c (e:=a0j),List.length_set];rw[d0c (e:=a0j)] at hc;omega
 split
 ·refine a0b ⟨⟨ka,by omega⟩,hlt,oo,trivial⟩ (c0F ?_);rintro⟨v3,v4,v5,v6,v7,v8,v9,v10⟩ ⟨-,-,jh5,jh6,jh7,jh8,jh9,jh10⟩;refine h0Y (a0b trivial ?_);exact hav s3 v5 (v6,v7,v8) v9 v10 hs3 (jh5.2 (hwf hs3)) jh6.1 jh7.1 jh8.1 jh9 jh10
 split
 ·obtain⟨q5,s5,e5,hs5,qa,qb,-⟩:=a0H (n:=3) hs3 (by omega);have qb:=qb (by omega);simp only[e5,vS,Option.isSome_some];refine a0b ⟨⟨ka,by omega⟩,hlt,trivial,⟨by omega,by simp; omega⟩,by simp; omega,oo,trivial⟩ (c0F ?_);rintro⟨v11,v12,v13,v14,v15,v16,v17,v18,v19⟩ ⟨-,-,jh5,-,jh6,jh7,jh8,jh9,jh10⟩;refine h0Y (a0b trivial ?_);exact hav s5 v13 (v15,v16,v17) v18 v19 hs5 (jh5.2 (hwf hs5)) jh6.1 jh7.1 jh8.1 jh9 jh10
 split
 ·obtain⟨q5,s5,e5,hs5,qa,qb,-⟩:=a0H (n:=5) hs3 (by omega);have qb:=qb (by omega);have hP:(ws.getD k.toNat (a0a a0j)).1.length<=10000:=by
   have h9:cnt (.pr (.sl (.int .i64)) (.pr (.sl (.int .i64)) (.pr (.sl (.int .i64)) (.sl (.int .i64))))) (ws.getD k.toNat (a0a a0j))<=10000:=hwl;rw[a0M,a0M,a0M] at h9;simp only[b0T] at h9;omega
  simp only[e5,vS,Option.isSome_some];refine a0b ⟨⟨ka,by omega⟩,hlt,⟨ka,by omega⟩,hlt,oo,trivial,oo,oo,trivial⟩ (c0F ?_);rintro⟨v20,v21,v22,v23,v24,v25,v26,v27,v28,v29⟩ ⟨-,-,-,jh5,-,jh6,jh7,jh8,jh9,jh10⟩;refine h0Y (a0b trivial ?_);exact hav s5 v23 (v25,v26,v27) v28 v29 hs5 (jh5.2 (hwf hs5)) jh6.1 jh7.1 jh8.1 jh9 jh10
 split
 ·refine a0b ⟨oo,trivial⟩ (c0F ?_);rintro⟨v30,v31,v32,v33,v34,v35,v36,v37,v38⟩ ⟨-,-,-,jh5,jh6,jh7,jh8,jh9,jh10⟩;refine h0Y (a0b trivial ?_);exact hav s3 v33 (v34,v35,v36) v37 v38 hs3 (jh5.2 (hwf hs3)) jh6.1 jh7.1 jh8.1 jh9 jh10
 ·exact k0j (s:=s3) (d:=d) hs3 (by omega)
theorem K0e:F0o:=L0p fun x hw hp=>y0o (k0l hw.1 hp.1) hp.2.1 hp.2.2
theorem K0f:F0p:=L0q fun x hw hp=>C0H (k0l hw.1 hp.1) hp.2.1 hp.2.2
theorem F0e:D0l:=L0r K0e K0f fun x hw hp=>C0S (k0l hw.1 hp.1) hp.2.1 hp.2.2
theorem K0N:F0q:=L0s F0e fun x hw hp=>C0X (k0l hw.1 hp)
theorem o0S{v:Int}{s:a0s}{b:Bool}(h:Sd s):∃r,q0I (v,s) b=some r/\True:=by
 unfold q0I;dsimp only;split
 ·refine a0b ⟨trivial,D0Q h.1 (by omega) (by omega)⟩ (c0F ?_);rintro⟨b,s1⟩ ⟨⟨t1,t2,t3,t4,t5⟩,-,hz⟩;exact h0Y (a0b trivial (a0b ⟨t1,Nat.le_trans t5 (by decide)⟩ ⟨_,rfl,trivial⟩))
 ·refine a0b ⟨trivial,D0Q h.1 (by omega) (by omega)⟩ (c0F ?_);rintro⟨b,s1⟩ ⟨⟨t1,t2,t3,t4,t5⟩,-,hz⟩;exact h0Y (a0b trivial (a0b ⟨t1,Nat.le_trans t5 (by decide)⟩ ⟨_,rfl,trivial⟩))
theorem z0V{s:a0s}(h:Sd s):u54 s=some ():=by
 refine h0Y ?_;obtain⟨v,s0,e0,hs0,-,-,-⟩:=a0H (n:=12) h (by omega);unfold u54;simp only[e0,vS,Option.isSome_some];refine a0b ⟨trivial,trivial⟩ (b0a ?_);dsimp only;split
 ·refine a0b ⟨trivial,hs0.1⟩ (c0F ?_);rintro⟨b,s1⟩ ⟨⟨t1,t5⟩,-,hz⟩;exact h0Y (a0b trivial (a0b ⟨t1,t5⟩ ⟨_,rfl,trivial⟩))
 ·split
  ·exact o0S hs0
  ·exact o0S hs0
theorem k54:K54:=e54 F0e K0N fun x hw hp=>z0V (k0l hw.1 hp)
end
end Go.Proofs.YtphnknndgfgepaaGreatDoor
end
section
namespace Go.Proofs.Xd
open Go Go.Proofs.Xv Go.Proofs.Xl
abbrev D0n:=List Int×List Int×List Int
abbrev e0M:=Int×Int×Int×Int×List D0n×List D0n
abbrev i0l:=ByteArray×Int×Int×Bool
abbrev b0l:=ByteArray×Int×List Int
abbrev c0L:=ByteArray×Int×Int
abbrev A0d:=List Int×List Int×List Int×List Int
def inB(x l h:Int):Bool:=decide (l<=x)&&decide (x<=h)
theorem a0u{x l h:Int}:inB x l h=true↔l<=x/\x<=h:=by simp[inB]
def o0B(xs:List Int):Bool:=!(List.range xs.length).any fun i=>decide (0<i)&&decide (xs.getD i 0<=xs.getD (i-1) 0)
def c0C(xs:List Int):Bool:=decide (1<=xs.length)&&decide (xs.length<=4)&&xs.all (inB · 0 100000)&&o0B xs
def a0Z(t:D0n):Bool:=c0C t.1&&c0C t.2.1&&decide (t.2.2.length=t.1.length*t.2.1.length)&&t.2.2.all (inB · (-1000000) 1000000)
theorem e0j{xs:List Int}(h:c0C xs=true):1<=xs.length/\xs.length<=4:=by
 simp only[c0C,ba,dq] at h;exact⟨h.1.1.1,h.1.1.2⟩
theorem g0T{t:D0n}(h:a0Z t=true):1<=t.1.length/\t.1.length<=4/\1<=t.2.1.length/\t.2.1.length<=4/\t.2.2.length=t.1.length*t.2.1.length/\1<=t.2.2.length/\t.2.2.length<=16:=by
 simp only[a0Z,ba,dq] at h;obtain⟨⟨⟨h1,h2⟩,h3⟩,_⟩:=h;obtain⟨a1,a2⟩:=e0j h1;obtain⟨b1,b2⟩:=e0j h2;have c1:1*1<=t.1.length*t.2.1.length:=Nat.mul_le_mul a1 b1;have c2:t.1.length*t.2.1.length<=4*4:=Nat.mul_le_mul a2 b2;exact⟨a1,a2,b1,b2,h3,by omega,by omega⟩
def r0Y(xs:List Int):Int:=fN (fun i m=>min m (xs.getD (i+1) 0)) (xs.length-1) (xs.getD 0 0)
def a0m(l:List D0n)(p:Bool):Bool:=decide (l.length=2)&&l.all fun t=>a0Z t&&!(p&&decide (r0Y t.2.2<0))
theorem c0e{α:Type}(l:List α)(p:α->Bool):(!l.any fun x=>!p x)=l.all p:=by
 induction l with
 | nil=>rfl
 | cons a r ih=>simp only[List.any_cons,List.all_cons,Bool.not_or,Bool.not_not,ih]
end Go.Proofs.Xd
end
section
namespace Go.Proofs.Xd
open Go Go.Proofs.Sv Go.Proofs.Xv Go.Proofs.Xl
theorem o0n(s:ByteArray):∀n,q0i s n=!(List.range n).any fun i=>!chB (a0z s i) i
 | 0=>rfl
 | n+1=>by
   rw[q0i,o0n s n,List.range_succ,List.any_append,Bool.not_or];simp
def i0X(f:Nat->ByteArray)(i:Nat):Bool:=(List.range i).any fun k=>decide (f k=f i)
def a0B(n:Nat)(f:Nat->ByteArray):Bool:=!(List.range n).any fun i=>!nmB (f i)||i0X f i
theorem l0n{n:Nat}{f g:Nat->ByteArray}(h:∀i,i<n->f i=g i):a0B n f=a0B n g:=by
 unfold a0B;congr 1;refine d0f fun i hi=>?_;rw[h i hi];congr 1;unfold i0X;refine d0f fun k hk=>?_;rw[h i hi,h k (by omega)]
theorem u0b(l:List ByteArray)(d:ByteArray)(i:Nat)(h:i<l.length):((l.take i).any fun y=>decide (l.getD i d=y))=i0X (fun k=>l.getD k d) i:=by
 have hl:(l.take i).length=i:=by rw[List.length_take]; omega
 rw[<- a0X (l.take i) d (fun y=>decide (l.getD i d=y)),hl];unfold i0X;refine d0f fun k hk=>?_;have:(l.take i).getD k d=l.getD k d:=by
  rw[gq,gq,List.getElem?_take_of_lt hk]
 rw[this,decide_eq_decide];exact eq_comm
theorem s0z{α β:Type}(f:α->β)(l:List α)(i:Nat)(d:α)(e:β)(h:i<l.length):(l.map f).getD i e=f (l.getD i d):=by
 rw[gq,gq,List.getElem?_map,List.getElem?_eq_getElem h]; rfl
theorem r0G{α β:Type}(l:List α)(d:α)(f:α->β):(List.range l.length).map (fun i=>f (l.getD i d))=l.map f:=by
 apply List.ext_getElem?;intro i;rw[List.getElem?_map,List.getElem?_map];by_cases h:i<l.length
 ·rw[List.getElem?_range h,List.getElem?_eq_getElem h];show some (f (l.getD i d))=some (f l[i]);rw[gq,List.getElem?_eq_getElem h]; rfl
 ·rw[List.getElem?_eq_none (by simpa using h),List.getElem?_eq_none (by omega)]; rfl
def q0h(n:Nat)(q:i0l)(i:Nat):Bool:=inB q.2.2.1 0 500&&(if i+1=n then q.2.1==2&&q.2.2.1==0&&!q.2.2.2 else q.2.1==1)
def c0U(n:Nat)(p:Nat->i0l):Bool:=decide (2<=n)&&decide (n<=5)&&a0B n (fun i=>(p i).1)&&!(List.range n).any fun i=>!q0h n (p i) i
def e0N(n:Nat)(p:Nat->i0l):Int:=fN (fun i s=>if(p i).2.2.2=true then s+1 else s) n 0
def y0k(n:Nat)(p:Nat->i0l):Int:=match(List.range n).find? (fun i=>(p i).2.2.2) with | some i=>(i:Int) | none => -1
def A0D(a:Nat->e0M)(i:Nat):Bool:=(List.range i).any fun k=>(a k).1==(a i).1&&(a k).2.1==(a i).2.1&&(a k).2.2.1==(a i).2.2.1
def a0J(n:Nat)(p:Nat->i0l)(a:e0M):Bool :=
 inB a.2.1 0 ((n:Int)-1-1)&&inB a.2.2.1 0 ((n:Int)-1) &&
 if a.1=1 then !(p a.2.1.toNat).2.2.2&&a.2.2.1==(n:Int)-1&&inB a.2.2.2.1 1 3&&a0m a.2.2.2.2.1 true&&a0m a.2.2.2.2.2 true
 else if a.1=2∨a.1=3 then(p a.2.1.toNat).2.2.2&&a.2.2.1==(n:Int)-1&&a.2.2.2.1==0&&a0m a.2.2.2.2.1 true&&a0m a.2.2.2.2.2 true
 else if a.1=4∨a.1=5 then(p a.2.1.toNat).2.2.2&&decide (a.2.2.1 < (n:Int)-1)&&!(p a.2.2.1.toNat).2.2.2&&a.2.2.2.1==0&&a0m a.2.2.2.2.1 false&&(a.2.2.2.2.2.length:Int)==0
 else false
def f0n(n:Nat)(p:Nat->i0l)(a:e0M):Bool :=
 if a.1=4∨a.1=5 then a.2.2.2.1==0&&(a.2.2.2.2.2.length:Int)==0&&a0m a.2.2.2.2.1 false&&a.2.1==y0k n p&&decide (0<=a.2.1)&&inB a.2.2.1 0 ((n:Int)-1-1)&&a.2.2.1 != a.2.1
 else a0m a.2.2.2.2.1 true&&a0m a.2.2.2.2.2 true&&a.2.2.1==(n:Int)-1&&inB a.2.1 0 ((n:Int)-1-1) &&
  if a.1=1 then !(p a.2.1.toNat).2.2.2&&inB a.2.2.2.1 1 3
  else if a.1=2∨a.1=3 then(p a.2.1.toNat).2.2.2&&a.2.2.2.1==0
  else false
theorem s0U(p:Nat->i0l):∀n,0<=e0N n p/\e0N n p<=n
 | 0=>⟨Int.le_refl _,Int.le_refl _⟩
 | n+1=>by
   have:=s0U p n;unfold e0N at *
   rw[fN];split <;> omega
theorem o0O{p:Nat->i0l}:∀{n i:Nat},i<n->(p i).2.2.2=true->1<=e0N n p
 | n+1,i,hi,h=>by
   have h0:=(s0U p n).1;have ih:i<n->1<=e0N n p:=fun h'=>o0O h' h;unfold e0N at *
   rw[fN];rcases Nat.lt_succ_iff_lt_or_eq.1 hi with h' | rfl
   ·have:=ih h';split <;> omega
   ·rw[if_pos h]; omega
theorem k0h{p:Nat->i0l}:∀{n i j:Nat},i<j->j<n->(p i).2.2.2=true->(p j).2.2.2=true->2<=e0N n p
 | n+1,i,j,hij,hj,h,k=>by
   have ih:j<n->2<=e0N n p:=fun h'=>k0h hij h' h k;have h1:i<n->1<=e0N n p:=fun h'=>o0O h' h;unfold e0N at *
   rw[fN];rcases Nat.lt_succ_iff_lt_or_eq.1 hj with h' | rfl
   ·have:=ih h';split <;> omega
   ·have:=h1 hij;rw[if_pos k]; omega
theorem z0P{p:Nat->i0l}{n i:Nat}(hn:e0N n p<=1)(hi:i<n):(p i).2.2.2=decide (y0k n p=(i:Int)):=by
 unfold y0k;cases h:(List.range n).find? (fun i=>(p i).2.2.2) with
 | none =>
   rw[List.find?_eq_none] at h;have:=h i (List.mem_range.2 hi);rw[Bool.not_eq_true] at this;rw[this];exact(decide_eq_false (by show ¬(-1:Int)=i; omega)).symm
 | some j =>
   have h1:=List.find?_some h;have h2:=List.mem_range.1 (List.mem_of_find?_eq_some h);show _=decide ((j:Int)=(i:Int));by_cases e:j=i
   ·subst e;rw[decide_eq_true rfl]; exact h1
   ·rw[decide_eq_false (by omega),<- Bool.not_eq_true];intro hc;rcases Nat.lt_or_gt_of_ne e with h' | h'
    ·have:=k0h (p:=p) h' hi h1 hc; omega
    ·have:=k0h (p:=p) h' h2 hc h1; omega
theorem z0O{p:Nat->i0l}{n:Nat}:y0k n p<n:=by
 unfold y0k;cases h:(List.range n).find? (fun i=>(p i).2.2.2) with
 | none=>show(-1:Int)<n; omega
 | some j =>
   have h2:=List.mem_range.1 (List.mem_of_find?_eq_some h);show(j:Int)<n; omega
theorem c0T{p:Nat->i0l}{n:Nat}(h:c0U n p=true):2<=n/\n<=5/\(p (n-1)).2.2.2=false:=by
 unfold c0U at h;simp only[ba,dq] at h;obtain⟨⟨⟨h1,h2⟩,_⟩,h3⟩:=h;have:=b0C.1 h3 (n-1) (by omega);rw[Bool.not_eq_false'] at this;unfold q0h at this;rw[if_pos (by omega)] at this;simp only[ba,Bool.not_eq_true'] at this;exact⟨h1,h2,this.2.2⟩
theorem t0h{p:Nat->i0l}{n:Nat}(h:c0U n p=true)(hc:e0N n p<=1)(a:e0M):f0n n p a=a0J n p a:=by
 obtain⟨h2,h5,hl⟩:=c0T h;obtain⟨kd,fr,to,se,de,sl⟩:=a;rw[Bool.eq_iff_iff];unfold f0n a0J;dsimp only;have hcl:∀x:Int,0<=x->x<=(n:Int)-1->(p x.toNat).2.2.2=decide (y0k n p=x):=fun x h0 h1=>by
  rw[z0P hc (by omega)];rw[decide_eq_decide]; omega
 have hlast:y0k n p≠(n:Int)-1:=fun e=>by
  have:=hcl ((n:Int)-1) (by omega) (by omega);have e2:((n:Int)-1).toNat=n-1:=by omega
  rw[e2,hl,decide_eq_true e] at this;cases this
 have hlt:=z0O (p:=p) (n:=n);by_cases k45:kd=4∨kd=5
 ·rw[if_pos k45,if_neg (by omega),if_neg (by omega),if_pos k45];simp only[ba,a0u,dq,beq_iff_eq,bne_iff_ne,Bool.not_eq_true'];constructor
  ·rintro⟨⟨⟨⟨⟨⟨a1,a2⟩,a3⟩,a4⟩,a5⟩,a6⟩,a7⟩;have e1:=hcl fr a5 (by omega);have e2:=hcl to a6.1 (by omega);exact⟨⟨⟨a5,by omega⟩,by omega,by omega⟩,⟨⟨⟨⟨⟨by rw[e1]; exact decide_eq_true a4.symm,by omega⟩,by rw[e2]; exact decide_eq_false (by omega)⟩,a1⟩,a3⟩,a2⟩⟩
  ·rintro⟨⟨⟨a5,a6⟩,b1,b2⟩,⟨⟨⟨⟨⟨c1,c2⟩,c3⟩,c4⟩,c5⟩,c6⟩⟩;rw[hcl fr a5 (by omega),dq] at c1;rw[hcl to b1 (by omega),decide_eq_false_iff_not] at c3;exact⟨⟨⟨⟨⟨⟨c4,c6⟩,c5⟩,c1.symm⟩,a5⟩,b1,by omega⟩,by omega⟩
 ·rw[if_neg k45];by_cases k1:kd=1
  ·rw[if_pos k1,if_pos k1];simp only[ba,a0u,beq_iff_eq];constructor
   ·rintro⟨⟨⟨⟨a1,a2⟩,a3⟩,a4⟩,a5,a6⟩;exact⟨⟨a4,by omega,by omega⟩,⟨⟨⟨a5,a3⟩,a6⟩,a1⟩,a2⟩
   ·rintro⟨⟨a4,_⟩,⟨⟨⟨a5,a3⟩,a6⟩,a1⟩,a2⟩;exact⟨⟨⟨⟨a1,a2⟩,a3⟩,a4⟩,a5,a6⟩
  ·rw[if_neg k1,if_neg k1];by_cases k23:kd=2∨kd=3
   ·rw[if_pos k23,if_pos k23];simp only[ba,a0u,beq_iff_eq];constructor
    ·rintro⟨⟨⟨⟨a1,a2⟩,a3⟩,a4⟩,a5,a6⟩;exact⟨⟨a4,by omega,by omega⟩,⟨⟨⟨a5,a3⟩,a6⟩,a1⟩,a2⟩
    ·rintro⟨⟨a4,_⟩,⟨⟨⟨a5,a3⟩,a6⟩,a1⟩,a2⟩;exact⟨⟨⟨⟨a1,a2⟩,a3⟩,a4⟩,a5,a6⟩
   ·rw[if_neg k23,if_neg k23,if_neg k45,Bool.and_false,Bool.and_false]
def b0j(m:Nat)(a:Nat->e0M)(k:Int):Bool:=(List.range m).any fun i=>(a i).1==k
def p0M(k:Int)(n:Nat)(p:Nat->i0l)(m:Nat)(a:Nat->e0M)(tr:List Int):Bool :=
 if k=1 then e0N n p==0&&(tr.length:Int)==1*2 ^ (n-1)&&tr.all (inB · 0 1)
 else if k=2 then e0N n p==1&&(tr.length:Int)==0&&!b0j m a 1&&!(b0j m a 2==b0j m a 3)
 else if k=3 then e0N n p==1&&(tr.length:Int)==0&&b0j m a 1&&b0j m a 2&&!b0j m a 3
 else false
theorem v0b{k:Int}{n:Nat}{p:Nat->i0l}{m:Nat}{a:Nat->e0M}{tr:List Int}(h:p0M k n p m a tr=true):e0N n p<=1:=by
 unfold p0M at h;split at h
 ·simp only[ba,beq_iff_eq] at h; omega
 ·split at h
  ·simp only[ba,beq_iff_eq] at h; omega
  ·split at h
   ·simp only[ba,beq_iff_eq] at h; omega
   ·cases h
def n0e(q:e0M->Bool)(m:Nat)(a:Nat->e0M):Bool:=decide (m<=8)&&!(List.range m).any fun i=>!q (a i)||A0D a i
def d0B(q:Nat->(Nat->i0l)->e0M->Bool)(nm:ByteArray)(k:Int)(n:Nat)(p:Nat->i0l)(m:Nat)(a:Nat->e0M)(tr:List Int)(lk en:Int):Bool :=
 nmB nm&&c0U n p&&n0e (q n p) m a&&inB lk 0 100000&&inB en 0 100000&&p0M k n p m a tr
theorem z0S(nm:ByteArray)(k:Int)(n:Nat)(p:Nat->i0l)(m:Nat)(a:Nat->e0M)(tr:List Int)(lk en:Int):d0B f0n nm k n p m a tr lk en=d0B a0J nm k n p m a tr lk en:=by
 unfold d0B;cases hp:c0U n p with
 | false=>simp
 | true =>
   cases hk:p0M k n p m a tr with
   | false=>simp
   | true =>
     have:f0n n p=a0J n p:=funext fun x=>t0h hp (v0b hk) x;rw[this]
theorem r0m{α:Type}(l:List α)(d:α)(q:α->Bool)(i:Nat)(h:i<=l.length):(l.take i).any q=(List.range i).any fun k=>q (l.getD k d):=by
 have hl:(l.take i).length=i:=by rw[List.length_take]; omega
 rw[<- a0X (l.take i) d q,hl];refine d0f fun k hk=>?_;rw[gq,gq,List.getElem?_take_of_lt hk]
theorem l0U{n:Nat}{p:Nat->i0l}{a:e0M}(h:a0J n p a=true):1<=a.1/\a.1<=5:=by
 unfold a0J at h;rw[ba] at h;obtain⟨_,h⟩:=h;split at h
 ·omega
 ·split at h
  ·omega
  ·split at h
   ·omega
   ·cases h
theorem x0R{n:Nat}(h:n<=5) : -9223372036854775808<=(1:Int)*2 ^ (n-1)/\(1:Int)*2 ^ (n-1)<=9223372036854775807:=by
 have:∀k:Fin 6,-9223372036854775808<=(1:Int)*2 ^ (k.val-1)/\(1:Int)*2 ^ (k.val-1)<=9223372036854775807:=by decide
 exact this ⟨n,by omega⟩
def t0w(a:Nat->e0M)(k:Int)(m:Nat):Int:=fN (fun i s=>if(a i).1=k then s+1 else s) m 0
theorem h0I(a:Nat->e0M)(k:Int):∀m,0<=t0w a k m/\t0w a k m<=m
 | 0=>⟨Int.le_refl _,Int.le_refl _⟩
 | m+1=>by
   have:=h0I a k m;unfold t0w at *
   rw[fN];split <;> omega
theorem e0h(a:Nat->e0M)(k:Int):∀m,b0j m a k=decide (0<t0w a k m)
 | 0=>rfl
 | m+1=>by
   have ih:=e0h a k m;have h0:=(h0I a k m).1;unfold b0j t0w at *
   rw[List.range_succ,List.any_append,ih,fN];simp only[List.any_cons,List.any_nil,Bool.or_false];by_cases h:(a m).1=k
   ·rw[if_pos h,beq_iff_eq.2 h,Bool.or_true];exact(decide_eq_true (by omega)).symm
   ·rw[if_neg h,beq_eq_false_iff_ne.2 h,Bool.or_false]
def h0o(a:Nat->e0M)(i:Nat)(v:List Int):List Int:=v.set (a i).1.toNat (v.getD (a i).1.toNat 0+1)
theorem f0R(a:Nat->e0M):∀m,(∀i,i<m->1<=(a i).1/\(a i).1<=5)->(fN (h0o a) m (List.replicate 6 0)).length=6/\∀k:Nat,k<6->(fN (h0o a) m (List.replicate 6 0)).getD k 0=t0w a k m
 | 0,_=>⟨by simp[fN],fun k hk=>by
   have:∀k:Fin 6,(List.replicate 6 (0:Int)).getD k.val 0=0:=by decide
   exact this ⟨k,hk⟩⟩
 | m+1,h=>by
   obtain⟨h1,h2⟩:=f0R a m (fun i hi=>h i (by omega));obtain⟨h3,h4⟩:=h m (by omega);rw[fN];unfold h0o at *
   refine⟨by rw[List.length_set]; exact h1,fun k hk=>?_⟩;have e:t0w a k (m+1)=if(a m).1=k then t0w a k m+1 else t0w a k m:=by unfold t0w; rw[fN]
   rw[e,gq,List.getElem?_set];by_cases hk':(a m).1.toNat=k
   ·rw[if_pos hk',if_pos (by rw[h1]; omega),if_pos (by omega)];rw[Option.getD_some,hk',h2 k hk]
   ·rw[if_neg hk',if_neg (by omega),<- gq,h2 k hk]
def h0w(v:List Int)(x:Int):List Int:=v.set x.toNat (v.getD x.toNat 0+1)
def f0k(v:List Int)(n b:Nat):Prop:=v.length=n/\∀k:Nat,0<=v.getD k 0/\v.getD k 0<=(b:Int)
theorem f0j(n b:Nat):f0k (List.replicate n 0) n b:=by
 refine⟨List.length_replicate,fun k=>?_⟩;rw[gq,List.getElem?_replicate];split <;> (show(0:Int)<=0/\(0:Int)<=b; omega)
theorem c0W{v:List Int}{n b:Nat}(h:f0k v n b)(x:Int):f0k (h0w v x) n (b+1):=by
 refine⟨by unfold h0w; rw[List.length_set]; exact h.1,fun k=>?_⟩;have hx:=h.2 x.toNat;have hk:=h.2 k;unfold h0w;rw[gq,List.getElem?_set];by_cases e:x.toNat=k
 ·rw[if_pos e];split
  ·rw[Option.getD_some]; omega
  ·show(0:Int)<=0/\(0:Int)<=_; omega
 ·rw[if_neg e,<- gq]; omega
theorem j0K{v:List Int}{n b b':Nat}(h:f0k v n b)(hb:b<=b'):f0k v n b':=⟨h.1,fun k=>by have:=h.2 k; omega⟩
theorem u0W{v:List Int}{n b:Nat}(h:f0k v n b){x:Int}(hx:inB x 0 ((n:Int)-1)=true):ix x v.length/\x.toNat<v.length:=by
 rw[a0u] at hx;rw[ix,h.1];omega
def t0u(n:Nat)(ok:Nat->Bool)(nm:Nat->ByteArray):Bool:=!((List.range n).any fun i=>!ok i||i0X nm i)&&decide (n<=8)
theorem C0x{n:Nat}{ok:Nat->Bool}{nm:Nat->ByteArray}(h:∀i,i<n->ok i=true->nmB (nm i)=true):(if((List.range n).any fun i=>!ok i)=true then false else decide (n<=8)&&a0B n nm)=t0u n ok nm:=by
 unfold t0u a0B;have e:((List.range n).any fun i=>!ok i||i0X nm i)=(((List.range n).any fun i=>!ok i)||(List.range n).any fun i=>i0X nm i):=o0Y _ _;rw[e];cases ha:(List.range n).any fun i=>!ok i with
 | true=>rfl
 | false =>
   have hall:=(b0C (n:=n) (c:=fun i=>!ok i)).1 (by rw[ha]; rfl);have:((List.range n).any fun i=>!nmB (nm i)||i0X nm i)=(List.range n).any fun i=>i0X nm i:=d0f fun i hi=>by
    have:=hall i hi;rw[Bool.not_eq_false'] at this;rw[h i hi this]; rfl
   rw[this,if_neg (by simp),Bool.false_or,Bool.and_comm]
def c0Y(nc:Nat)(pins:Int->Nat)(nn:Nat)(x:b0l):Bool:=inB x.2.1 0 ((nc:Int)-1)&&(x.2.2.length:Int)==(pins x.2.1:Int)&&x.2.2.all fun y=>inB y 0 ((nn:Int)-1)
def d0i(nn:Nat)(x:c0L):Bool:=inB x.2.1 1 2&&inB x.2.2 0 ((nn:Int)-1)
def d0N(x:Nat->b0l)(i:Nat)(v:List Int):List Int:=h0w v ((x i).2.2.getD ((x i).2.2.length-1) 0)
def c0x(x:Nat->c0L)(i:Nat)(v:List Int):List Int:=if(x i).2.1=1 then h0w v (x i).2.2 else v
def g0n(ni np nn:Nat)(x:Nat->b0l)(y:Nat->c0L):List Int:=fN (c0x y) np (fN (d0N x) ni (List.replicate nn 0))
theorem h0v(x:Nat->b0l)(nn:Nat):∀i,f0k (fN (d0N x) i (List.replicate nn 0)) nn i
 | 0=>f0j nn 0
 | i+1=>c0W (h0v x nn i) _
def c0I(lib:Bool)(nc:Nat)(pins:Int->Nat)(ni np nn:Nat)(x:Nat->b0l)(y:Nat->c0L)(nets:Nat->ByteArray):Bool :=
 lib&&decide (ni<=14)&&decide (nn<=30)&&decide (np<=8)&&a0B ni (fun i=>(x i).1)&&a0B nn nets&&a0B np (fun i=>(y i).1) &&
  !((List.range ni).any fun i=>!c0Y nc pins nn (x i))&&!((List.range np).any fun i=>!d0i nn (y i))&&(g0n ni np nn x y).all (·==1)
def e0R(w:A0d)(n:Int):Bool :=
 decide (1<=w.1.length)&&decide (w.1.length<=8)&&decide (w.2.1.length=w.1.length)&&decide (w.2.2.1.length=w.1.length)&&(w.2.2.2.length:Int)==n &&
  w.2.1.all (inB · 0 1000)&&w.2.2.1.all (inB · 0 500)&&w.2.2.2.all (inB · 0 ((w.1.length:Int)-1)) &&
  !(List.range w.1.length).any fun i=>(i==0&&(w.1.getD i 0 != -1||w.2.1.getD 0 0 != 0))||(decide (0<i)&&!inB (w.1.getD i 0) 0 ((i:Int)-1))
abbrev a0q:=Int×Int×Int×Bool
def c0s(x:b0l)(i:Int)(k:Nat)(s:List a0q):List a0q:=s++[(i,(k:Int),x.2.2.getD k 0,(k:Int)==(x.2.2.length:Int)-1)]
def c0d(y:Nat->c0L)(i:Nat)(s:List a0q):List a0q:=s++[(-1,(i:Int),(y i).2.2,(y i).2.1==1)]
def b0c(x:Nat->b0l)(i:Nat)(s:List a0q):List a0q:=fN (c0s (x i) i) (x i).2.2.length s
def a0S(ni np:Nat)(x:Nat->b0l)(y:Nat->c0L):List a0q:=fN (c0d y) np (fN (b0c x) ni [])
theorem c0r(x:b0l)(i:Int)(s:List a0q):∀k,(fN (c0s x i) k s).length=s.length+k
 | 0=>rfl
 | k+1=>by
   rw[fN,c0s,List.length_append,c0r x i s k]; rfl
theorem d0K(y:Nat->c0L)(s:List a0q):∀k,(fN (c0d y) k s).length=s.length+k
 | 0=>rfl
 | k+1=>by
   rw[fN,c0d,List.length_append,d0K y s k]; rfl
def j0r(pl:Nat->a0q)(i:Nat)(v:List Int):List Int:=if(pl i).2.2.2=false then h0w v (pl i).2.2.1 else v
def l0O(pl:Nat->a0q)(t:Int)(m:Nat):Int:=fN (fun i s=>if((pl i).2.2.1==t&&!(pl i).2.2.2)=true then s+1 else s) m 0
theorem s0R(pl:Nat->a0q)(t:Int):∀m,0<=l0O pl t m/\l0O pl t m<=m
 | 0=>⟨Int.le_refl _,Int.le_refl _⟩
 | m+1=>by
   have:=s0R pl t m;unfold l0O at *
   rw[fN];split <;> omega
theorem k0Q(pl:Nat->a0q)(n:Nat):∀m,(∀i,i<m->inB (pl i).2.2.1 0 ((n:Int)-1)=true)->(fN (j0r pl) m (List.replicate n 0)).length=n/\∀k:Nat,k<n->(fN (j0r pl) m (List.replicate n 0)).getD k 0=l0O pl k m
 | 0,_=>⟨by simp[fN],fun k hk=>by
   show(List.replicate n (0:Int)).getD k 0=0;rw[gq,List.getElem?_replicate,if_pos hk]; rfl⟩
 | m+1,h=>by
   obtain⟨h1,h2⟩:=k0Q pl n m (fun i hi=>h i (by omega));have h3:=a0u.1 (h m (by omega));rw[fN];generalize fN (j0r pl) m (List.replicate n 0)=v at *
   unfold j0r;have e:∀k:Nat,l0O pl k (m+1)=if((pl m).2.2.1==(k:Int)&&!(pl m).2.2.2)=true then l0O pl k m+1 else l0O pl k m:=fun k=>by unfold l0O; rw[fN]
   cases hd:(pl m).2.2.2 with
   | true =>
     refine⟨by rw[if_neg (by simp)]; exact h1,fun k hk=>?_⟩;rw[if_neg (by simp),h2 k hk,e,hd,if_neg (by simp)]
   | false =>
     rw[if_pos rfl];unfold h0w;refine⟨by rw[List.length_set]; exact h1,fun k hk=>?_⟩;rw[e,hd,gq,List.getElem?_set];by_cases hk':(pl m).2.2.1.toNat=k
     ·rw[if_pos hk',if_pos (by rw[h1]; omega),if_pos (by simp; omega),Option.getD_some,hk',h2 k hk]
     ·rw[if_neg hk',if_neg (by simp; omega),<- gq,h2 k hk]
def c0G(pl:Nat->a0q)(t:Int)(i:Nat)(s:List Int):List Int:=if((pl i).2.2.1==t&&!(pl i).2.2.2)=true then s++[(i:Int)] else s
theorem d0I(pl:Nat->a0q)(t:Int):∀m,((fN (c0G pl t) m []).length:Int)=l0O pl t m
 | 0=>rfl
 | m+1=>by
   have:=d0I pl t m;rw[fN];unfold l0O at *
   rw[fN];unfold c0G at *
   split
   ·rw[List.length_append];show((_+1:Nat):Int)=_;omega
   ·exact this
def i0R(n:Nat)(s:List a0q):Prop:=∀p∈s,inB p.2.2.1 0 ((n:Int)-1)=true
theorem o0A{n:Nat}{x:b0l}{i:Int}(hx:∀k,k<x.2.2.length->inB (x.2.2.getD k 0) 0 ((n:Int)-1)=true){s:List a0q}(hs:i0R n s):∀k,k<=x.2.2.length->i0R n (fN (c0s x i) k s)
 | 0,_=>hs
 | k+1,hk=>by
   rw[fN,c0s];intro p hp;rcases List.mem_append.1 hp with h | h
   ·exact o0A hx hs k (by omega) p h
   ·cases List.mem_singleton.1 h;exact hx k (by omega)
theorem i0N{n:Nat}{x:Nat->b0l}{ni:Nat}(hx:∀i,i<ni->∀k,k < (x i).2.2.length->inB ((x i).2.2.getD k 0) 0 ((n:Int)-1)=true):∀i,i<=ni->i0R n (fN (b0c x) i [])
 | 0,_=>fun p hp=>by cases hp
 | i+1,hi=>by
   rw[fN,b0c];exact o0A (hx i (by omega)) (i0N hx i (by omega)) _ (Nat.le_refl _)
theorem o0b{n:Nat}{y:Nat->c0L}{np:Nat}(hy:∀i,i<np->inB (y i).2.2 0 ((n:Int)-1)=true){s:List a0q}(hs:i0R n s):∀k,k<=np->i0R n (fN (c0d y) k s)
 | 0,_=>hs
 | k+1,hk=>by
   rw[fN,c0d];intro p hp;rcases List.mem_append.1 hp with h | h
   ·exact o0b hy hs k (by omega) p h
   ·cases List.mem_singleton.1 h;exact hy k (by omega)
theorem d0j{x:Nat->b0l}{ni:Nat}(hx:∀i,i<ni->(x i).2.2.length<=5):∀i,i<=ni->(fN (b0c x) i []).length<=5*i
 | 0,_=>Nat.le_refl _
 | i+1,hi=>by
   rw[fN,b0c,c0r];have:=d0j hx i (by omega);have:=hx i (by omega);omega
theorem a0V{α:Type}{l:List α}{i:Nat}{d:α}(h:i<l.length):l.getD i d∈l:=by
 rw[gq,List.getElem?_eq_getElem h];exact List.getElem_mem h
theorem d0r{l:List Int}{p:Int->Bool}(h:l.all p=true){i:Nat}(hi:i<l.length):p (l.getD i 0)=true:=List.all_eq_true.1 h _ (a0V hi)
structure DesignFacts(nc:Nat)(pins:Int->Nat)(ni np nn:Nat)(x:Nat->b0l)(y:Nat->c0L):Prop where
 ni14:ni<=14
 np8:np<=8
 nn30:nn<=30
 inst:∀i,i<ni->c0Y nc pins nn (x i)=true
 port:∀i,i<np->d0i nn (y i)=true
theorem l0K{lib:Bool}{nc:Nat}{pins:Int->Nat}{ni np nn:Nat}{x:Nat->b0l}{y:Nat->c0L}{nets:Nat->ByteArray}(h:c0I lib nc pins ni np nn x y nets=true):lib=true/\DesignFacts nc pins ni np nn x y:=by
 unfold c0I at h;simp only[ba,dq] at h;obtain⟨⟨⟨⟨⟨⟨⟨⟨⟨c1,c2⟩,c3⟩,c4⟩,_⟩,_⟩,_⟩,c5⟩,c6⟩,_⟩:=h;refine⟨c1,c2,c4,c3,fun i hi=>?_,fun i hi=>?_⟩
 ·have:=b0C.1 c5 i hi
  rwa [Bool.not_eq_false'] at this
 ·have:=b0C.1 c6 i hi
  rwa [Bool.not_eq_false'] at this
theorem DesignFacts.net{nc:Nat}{pins:Int->Nat}{ni np nn:Nat}{x:Nat->b0l}{y:Nat->c0L}(h:DesignFacts nc pins ni np nn x y):(∀i,i<ni->∀k,k < (x i).2.2.length->inB ((x i).2.2.getD k 0) 0 ((nn:Int)-1)=true)/\∀i,i<np->inB (y i).2.2 0 ((nn:Int)-1)=true:=by
 refine⟨fun i hi k hk=>?_,fun i hi=>?_⟩
 ·have:=h.inst i hi;unfold c0Y at this;rw[ba] at this;exact d0r (p:=fun y=>inB y 0 ((nn:Int)-1)) this.2 hk
 ·have:=h.port i hi;unfold d0i at this;rw[ba] at this;exact this.2
end Go.Proofs.Xd
end
section
namespace Go.Proofs.Xd
open Go Go.Proofs Go.Proofs.Xl
def l0Z(v:List Int)(i:Nat)(x:Int):List Int:=v.set i (v.getD i 0+x)
theorem l0Y{v:List Int}{i:Nat}{x:Int}:(l0Z v i x).length=v.length:=by unfold l0Z; simp
theorem f0v{v:List Int}{i j:Nat}{x:Int}(hi:i<v.length):(l0Z v i x).getD j 0=if j=i then v.getD i 0+x else v.getD j 0:=by
 unfold l0Z;by_cases h:j=i
 ·subst h; simp[hi]
 ·rw[if_neg h]; simp[List.getElem?_set_ne (Ne.symm h)]
def f0a(v:List Int)(k:Nat):Int:=fN (fun i s=>s+v.getD i 0) k 0
theorem c0n(v:List Int)(k:Nat):f0a v (k+1)=f0a v k+v.getD k 0:=rfl
theorem e0s{v:List Int}{i:Nat}{x:Int}(hi:i<v.length):∀k,f0a (l0Z v i x) k=f0a v k+if i<k then x else 0
 | 0=>by simp[f0a,fN]
 | k+1=>by
   rw[c0n,c0n,e0s hi k,f0v hi];by_cases h:k=i
   ·subst h; simp; omega
   ·rw[if_neg h];by_cases h2:i<k
    ·rw[if_pos h2,if_pos (by omega)]; omega
    ·rw[if_neg h2,if_neg (by omega)]; omega
theorem k0I{v:List Int}(hp:∀j,0<=v.getD j 0):∀k,0<=f0a v k
 | 0=>by simp[f0a,fN]
 | k+1=>by have:=k0I hp k; have:=hp k; rw[c0n]; omega
theorem j0P{v:List Int}(hp:∀j,0<=v.getD j 0):∀{k j:Nat},j<k->v.getD j 0<=f0a v k
 | k+1,j,h=>by
   rw[c0n];have h1:=k0I hp k;have h2:=hp k;by_cases e:j=k
   ·subst e; omega
   ·have:=j0P hp (k:=k) (j:=j) (by omega); omega
structure Low(v:List Int)(n:Nat)(S:Int):Prop where
 len:v.length=n
 pos:∀j,0<=v.getD j 0
 sum:f0a v n<=S
theorem n0P{v:List Int}{c:Int}(hp:∀j,v.getD j 0<=c):∀k:Nat,f0a v k<=c*(k:Int)
 | 0=>by simp[f0a,fN]
 | k+1=>by
   have:=n0P hp k;have:=hp k;rw[c0n,Int.natCast_add,Int.mul_add];omega
theorem z0t{v:List Int}{n:Nat}(hn:v.length=n)(h:v.all (inB · 0 500)=true):Low v n (500*(n:Int)):=by
 have hj:∀j,0<=v.getD j 0/\v.getD j 0<=500:=fun j=>by
  rcases Nat.lt_or_ge j v.length with hj | hj
  ·have:=a0u.1 (d0r (p:=fun x=>inB x 0 500) h hj); exact this
  ·rw[gq,List.getElem?_eq_none hj]; exact⟨by decide,by decide⟩
 exact⟨hn,fun j=>(hj j).1,n0P (fun j=>(hj j).2) n⟩
theorem Low.bd{v:List Int}{n:Nat}{S:Int}(h:Low v n S)(hS:0<=S)(j:Nat):0<=v.getD j 0/\v.getD j 0<=S:=by
 refine⟨h.pos j,?_⟩;rcases Nat.lt_or_ge j n with hj | hj
 ·exact Int.le_trans (j0P h.pos hj) h.sum
 ·rw[gq,List.getElem?_eq_none (by rw[h.len]; exact hj)]; exact hS
theorem Low.add{v:List Int}{n:Nat}{S:Int}(h:Low v n S){i:Nat}(hi:i<n){x:Int}(hx:0<=x):Low (l0Z v i x) n (S+x):=by
 have hi':i<v.length:=by rw[h.len]; exact hi
 refine⟨by rw[l0Y]; exact h.len,fun j=>?_,?_⟩
 ·rw[f0v hi'];have:=h.pos i;have:=h.pos j;split <;> omega
 ·rw[e0s hi',if_pos hi]; have:=h.sum; omega
def y0l(s c:Nat->Int)(i:Nat)(v:List Int):List Int:=l0Z v (s i).toNat (c i)
theorem o0Q{s c:Nat->Int}{v:List Int}{n:Nat}{S:Int}(h:Low v n S):∀m,(∀i,i<m->0<=s i/\(s i).toNat<n/\0<=c i/\c i<=500)->Low (fN (y0l s c) m v) n (S+500*(m:Int))
 | 0,_=>⟨h.len,h.pos,by have:=h.sum; show f0a v n<=_; omega⟩
 | m+1,hm=>by
   have ih:=o0Q h m (fun i hi=>hm i (by omega));obtain⟨h1,h2,h3,h4⟩:=hm m (by omega);have:=ih.add h2 h3;refine⟨this.len,this.pos,?_⟩;have:=this.sum;rw[Int.natCast_add,Int.mul_add];refine Int.le_trans this ?_;simp only[Int.natCast_one];omega
def f0I(P:Nat->Int)(n k:Nat)(v:List Int):List Int:=l0Z v (P (n-1-k)).toNat (v.getD (n-1-k) 0)
structure D0g(v:List Int)(n k:Nat)(S:Int):Prop where
 len:v.length=n
 pos:∀j,0<=v.getD j 0
 bd:∀j,v.getD j 0<=S
 sum:f0a v (n-k)<=S
theorem k0W{P:Nat->Int}{v:List Int}{n k:Nat}{S:Int}(h:D0g v n k S)(hk:k<n-1)(hP:0<=P (n-1-k)/\(P (n-1-k)).toNat<n-1-k):D0g (f0I P n k v) n (k+1) S:=by
 have hp:(P (n-1-k)).toNat<v.length:=by rw[h.len]; omega
 have hpos:∀j,0<=(f0I P n k v).getD j 0:=fun j=>by
  unfold f0I;rw[f0v hp];have:=h.pos (P (n-1-k)).toNat;have:=h.pos (n-1-k);have:=h.pos j;split <;> omega
 have hs:f0a (f0I P n k v) (n-(k+1))<=S:=by
  unfold f0I;have e:n-(k+1)=n-1-k:=by omega
  rw[e0s hp,e,if_pos hP.2];have:=h.sum;rw[show n-k=(n-1-k)+1 by omega,c0n] at this;exact this
 refine⟨by unfold f0I; rw[l0Y]; exact h.len,hpos,fun j=>?_,hs⟩;by_cases e:j=(P (n-1-k)).toNat
 ·have hlt:j<n-(k+1):=by omega
  exact Int.le_trans (j0P hpos hlt) hs
 ·unfold f0I;rw[f0v hp,if_neg e];exact h.bd j
theorem k0X{P:Nat->Int}{v:List Int}{n:Nat}{S:Int}(h:Low v n S)(hS:0<=S)(hP:∀i,0<i->i<n->0<=P i/\(P i).toNat<i):∀k,k<=n-1->D0g (fN (f0I P n) k v) n k S
 | 0,_=>⟨h.len,h.pos,fun j=>(h.bd hS j).2,h.sum⟩
 | k+1,hk=>k0W (k0X h hS hP k (by omega)) (by omega) (hP _ (by omega) (by omega))
def C0v(cap:List Int)(n m:Nat)(s c P:Nat->Int):List Int:=fN (f0I P n) (n-1) (fN (y0l s c) m cap)
theorem b0Z{α:Type}{l r:List α}{d:α}{i:Nat}(h:i<l.length):(l++r).getD i d=l.getD i d:=by
 simp only[gq,List.getElem?_append_left h]
theorem c0Z{α:Type}{l r:List α}{d:α}{i:Nat}(h:l.length<=i):(l++r).getD i d=r.getD (i-l.length) d:=by
 simp only[gq,List.getElem?_append_right h]
def m0g(P R L:Nat->Int)(k:Nat)(s:List Int):List Int:=s++[s.getD (P (k+1)).toNat 0+R (k+1)*L (k+1)]
def z0J(n:Nat)(P R L:Nat->Int):List Int:=fN (m0g P R L) (n-1) [0]
theorem r0X{a b A B:Int}(a0:0<=a)(a1:a<=A)(b0:0<=b)(b1:b<=B):0<=a*b/\a*b<=A*B :=
 ⟨Int.mul_nonneg a0 b0,Int.mul_le_mul a1 b1 b0 (Int.le_trans a0 a1)⟩
theorem s0N{P R L:Nat->Int}{n:Nat}{S:Int}(hR:∀i,i<n->0<=R i/\R i<=1000)(hL:∀i,i<n->0<=L i/\L i<=S)(hS:0<=S):∀k,k<=n-1->(fN (m0g P R L) k [0]).length=k+1/\∀j,0<=(fN (m0g P R L) k [0]).getD j 0/\(fN (m0g P R L) k [0]).getD j 0<=1000*S*(k:Int)
 | 0,_=>⟨rfl,fun j=>by
   cases j with
   | zero=>exact⟨by simp[fN],by simp[fN]⟩
   | succ j=>exact⟨by simp[fN],by simp[fN]⟩⟩
 | k+1,hk=>by
   obtain⟨h1,h2⟩:=s0N hR hL hS k (by omega);have hx:=r0X (hR (k+1) (by omega)).1 (hR (k+1) (by omega)).2 (hL (k+1) (by omega)).1 (hL (k+1) (by omega)).2;have hk1:0<=1000*S*(k:Int):=Int.mul_nonneg (by omega) (by omega);have e:1000*S*((k+1:Nat):Int)=1000*S*(k:Int)+1000*S:=by rw[Int.natCast_add,Int.mul_add]; simp
   have e2:fN (m0g P R L) (k+1) [0]=m0g P R L k (fN (m0g P R L) k [0]):=rfl;rw[e2];generalize fN (m0g P R L) k [0]=s at h1 h2;unfold m0g;refine⟨by rw[List.length_append,h1]; rfl,fun j=>?_⟩;rw[e];rcases Nat.lt_or_ge j s.length with hj | hj
   ·have:=h2 j;rw[b0Z hj]; omega
   ·have h3:=h2 (P (k+1)).toNat;rw[c0Z hj];cases hjs:j-s.length with
    | zero=>simp only[List.getD_cons_zero]; omega
    | succ q=>simp only[List.getD_cons_succ,List.getD_nil]; omega
theorem v0B{s:List Int}{k n:Nat}{x:Int}(hs:s.length=k+1)(hk:k+1<n):(s++List.replicate (n-1-k) 0).set (k+1) x=(s++[x])++List.replicate (n-1-(k+1)) 0:=by
 have e:n-1-k=(n-1-(k+1))+1:=by omega
 rw[e,List.replicate_succ,List.set_append_right _ _ (by omega),hs,Nat.sub_self,List.set_cons_zero,List.append_assoc];rfl
theorem v0C{s:List Int}{k n p:Nat}(hs:s.length=k+1)(hp:p<k+1):(s++List.replicate (n-1-k) 0).getD p 0=s.getD p 0:=b0Z (by omega)
def exF(D:List Int)(S:Nat->Int)(i:Nat)(s:List Int):List Int:=s++[D.getD (S i).toNat 0]
def p0B(ni np:Nat)(x:Nat->b0l)(p:a0q):Prop:=(p.1 = -1/\0<=p.2.1/\p.2.1.toNat<np)∨(0<=p.1/\p.1.toNat<ni/\0<=p.2.1/\p.2.1.toNat < (x p.1.toNat).2.2.length)
theorem i0S{ni np:Nat}{x:Nat->b0l}{i:Nat}(hi:i<ni){s:List a0q}(hs:∀p∈s,p0B ni np x p):∀k,k<=(x i).2.2.length->∀p∈fN (c0s (x i) i) k s,p0B ni np x p
 | 0,_=>hs
 | k+1,hk=>fun p hp=>by
   have hp:p∈c0s (x i) i k (fN (c0s (x i) i) k s):=hp;unfold c0s at hp;rcases List.mem_append.1 hp with hp | hp
   ·exact i0S hi hs k (by omega) p hp
   ·cases List.mem_singleton.1 hp;exact .inr ⟨Int.natCast_nonneg _,by simpa using hi,Int.natCast_nonneg _,by simp; omega⟩
theorem g0g{ni np:Nat}{x:Nat->b0l}:∀i,i<=ni->∀p∈fN (b0c x) i [],p0B ni np x p
 | 0,_=>fun p hp=>by cases hp
 | i+1,hi=>i0S (by omega) (g0g i (by omega)) _ (Nat.le_refl _)
theorem i0M{ni np:Nat}{x:Nat->b0l}{y:Nat->c0L}{s:List a0q}(hs:∀p∈s,p0B ni np x p):∀k,k<=np->∀p∈fN (c0d y) k s,p0B ni np x p
 | 0,_=>hs
 | k+1,hk=>fun p hp=>by
   have hp:p∈c0d y k (fN (c0d y) k s):=hp;unfold c0d at hp;rcases List.mem_append.1 hp with hp | hp
   ·exact i0M hs k (by omega) p hp
   ·cases List.mem_singleton.1 hp;exact .inl ⟨rfl,Int.natCast_nonneg _,by simp; omega⟩
theorem m0B(ni np:Nat)(x:Nat->b0l)(y:Nat->c0L):∀p∈a0S ni np x y,p0B ni np x p:=i0M (g0g ni (Nat.le_refl _)) np (Nat.le_refl _)
theorem g0F(pl:Nat->a0q)(t:Int):∀m,∀x∈fN (c0G pl t) m [],∃j:Nat,x=(j:Int)/\j<m/\(pl j).2.2.1=t/\(pl j).2.2.2=false
 | 0,x,h=>by cases h
 | m+1,x,h=>by
   have ih:=g0F pl t m x;have h:x∈c0G pl t m (fN (c0G pl t) m []):=h;generalize fN (c0G pl t) m []=s at ih h;unfold c0G at h;split at h
   ·rename_i hc;rw[ba,beq_iff_eq,Bool.not_eq_true'] at hc;rcases List.mem_append.1 h with h | h
    ·obtain⟨j,h1,h2,h3⟩:=ih h;exact⟨j,h1,by omega,h3⟩
    ·cases List.mem_singleton.1 h;exact⟨m,rfl,by omega,hc⟩
   ·obtain⟨j,h1,h2,h3⟩:=ih h;exact⟨j,h1,by omega,h3⟩
structure m0a(w:A0d)(n:Int):Prop where
 n1:1<=w.1.length
 n8:w.1.length<=8
 res:w.2.1.length=w.1.length
 cap:w.2.2.1.length=w.1.length
 snk:(w.2.2.2.length:Int)=n
 resIn:∀i,i<w.1.length->0<=w.2.1.getD i 0/\w.2.1.getD i 0<=1000
 capOk:w.2.2.1.all (inB · 0 500)=true
 snkIn:∀i,i<w.2.2.2.length->0<=w.2.2.2.getD i 0/\(w.2.2.2.getD i 0).toNat<w.1.length
 par:∀i,0<i->i<w.1.length->0<=w.1.getD i 0/\(w.1.getD i 0).toNat<i
theorem p0e{w:A0d}{n:Int}(h:e0R w n=true):m0a w n:=by
 unfold e0R at h;simp only[ba,dq,beq_iff_eq] at h;obtain⟨⟨⟨⟨⟨⟨⟨⟨c1,c2⟩,c3⟩,c4⟩,c5⟩,c6⟩,c7⟩,c8⟩,c9⟩:=h;refine⟨c1,c2,c3,c4,c5,fun i hi=>?_,c7,fun i hi=>?_,fun i h0 hi=>?_⟩
 ·exact a0u.1 (d0r (p:=fun x=>inB x 0 1000) c6 (by omega))
 ·have:=a0u.1 (d0r (p:=fun x=>inB x 0 ((w.1.length:Int)-1)) c8 hi);omega
 ·have:=b0C.1 c9 i hi;rw[Bool.or_eq_false_iff] at this;have h2:=this.2;rw[Bool.and_eq_false_iff,decide_eq_false_iff_not,Bool.not_eq_false',a0u] at h2;rcases h2 with h | h
  ·omega
  ·omega
end Go.Proofs.Xd
end

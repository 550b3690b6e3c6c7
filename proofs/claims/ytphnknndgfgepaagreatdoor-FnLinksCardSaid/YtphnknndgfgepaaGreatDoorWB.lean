/- The drawn blocks: there are some, and they are small. -/
import Derived.Test.YtphnknndgfgepaaGreatDoorWA
import Derived.Test.YtphnknndgfgepaaGreatDoorXF
section
namespace Go.Proofs.YtphnknndgfgepaaGreatDoor
open Go Go.Proofs Go.Proofs.Sv Go.Proofs.Xv Go.Proofs.Xl Go.Proofs.Xd
theorem p172{s:Y152}{k:Int}(h:sd s)(a:0<=k)(b:k<=40):P172 (s,k,()):=⟨h,a,b⟩
theorem p112{s:Y152}{k:Int}{b:Bool}(h:sd s)(a:2<=k)(e:k<=6):P112 (s,k,b,()):=⟨h,a,e⟩
theorem sum_set{α:Type}{f:α->Nat}{y d:α}:∀{xs:List α} {i:Nat},i<xs.length->((xs.set i y).map f).sum+f (xs.getD i d)=(xs.map f).sum+f y
 | x :: r,0,_=>by simp; omega
 | x :: r,i+1,h=>by
   have:=sum_set (f:=f) (y:=y) (d:=d) (xs:=r) (i:=i) (by simpa using h);simp only[List.set_cons_succ,List.map_cons,List.sum_cons,List.getD_cons_succ];omega
theorem des_cnt{d d':Y31}(h1:shp (.sl y165) d.1 d'.1)(h2:shp (.sl .str) d.2.1 d'.2.1)(h3:shp (.sl y175) d.2.2 d'.2.2):cnt y31 d'=cnt y31 d :=
 shp_cnt (.pr (.sl y165) (.pr (.sl .str) (.sl y175))) d d' ⟨h1,h2,h3⟩
theorem from_ok{c:List Int}(hw:wf (.sl (.int .u8)) c):∃s,u53 c=some s/\Sd s:=by
 unfold u53;refine lp_ex (fun x=>(65-x.1).toNat) (fun x=>0<=x.1/\x.1<=64/\0<=x.2/\x.2<2147483647) ?_ ⟨by simp only; omega,by simp only; omega,by simp only; omega,by simp only; omega⟩ (by simp only; omega);rintro g ⟨i,x⟩ ⟨i1,i2,i3,i4⟩ ih;simp only at i1 i2 i3 i4;unfold u53L1;dsimp only;split
 ·rename_i hc;simp only[ba,dq] at hc;have hlt:i.toNat<c.length:=by omega
  have hb:0<=c.getD i.toNat 0/\c.getD i.toNat 0<=255:=by
   rw[gq,List.getElem?_eq_getElem hlt];exact hw.2 _ (List.getElem_mem hlt)
  refine gd_ex ⟨oo,⟨i1,hc.1⟩,trivial,oo,by omega,trivial⟩ (gd_ex ⟨oo,trivial⟩ ?_);exact ih _ ⟨by simp only; omega,by simp only; omega,Int.tmod_nonneg _ (by omega),Int.tmod_lt_of_pos _ (by omega)⟩ (by simp only; omega)
 ·exact⟨_,rfl,⟨⟨by simp only; omega,i3,i4⟩,hw.1,fun b hb=>hw.2 b hb⟩⟩
section
variable [Alw]
def wirS(w:Y110):Prop:=(1<=w.1.length/\1<=w.2.1.length/\1<=w.2.2.1.length)/\cnt y110 w<=60
theorem blk_ok{s:Y152}{most:Int}{wild:Bool}(h:Sd s)(h0:2<=most)(h1:most<=6):u112 s most wild=some ():=by
 refine u_of ?_;obtain⟨⟨l,s0⟩,e0,hs0,hl⟩:=lib_ok h;simp only at hs0 hl e0;unfold u112;simp only[e0,vS,Option.isSome_some];refine gd_ex ⟨trivial,trivial⟩ (lt_ex ?_);refine gd_ex ⟨trivial,hs0.1,h0,h1⟩ (alp_ex ?_);rintro⟨d,s1⟩ ⟨⟨t1,⟨t2,t3⟩,⟨t4,t5⟩,⟨t6,t7⟩,t8⟩,-,hz⟩;have hs1:Sd s1:=Sd_of hz t1;have hd:desS d:=⟨⟨t2,t3⟩,t7⟩;refine u_of (gd_ex trivial ?_);refine lp_ex (fun x=>(21-x.1).toNat) (fun x=>Sd (x.2.2.1,x.2.2.2.1,x.2.2.2.2)/\0<=x.1/\x.1<=20/\(x.2.1.length:Int)=x.1/\∀w∈x.2.1,wirS w) ?_ ⟨hs1,by simp only; omega,by simp only; omega,by simp,by simp⟩ (by simp only; omega);rintro g ⟨i,ws,c,at0,sd0⟩ ⟨i1,i2,i3,i4,i5⟩ ih;simp only at i1 i2 i3 i4 i5 t4 t5 t6 t8;unfold u112L1;dsimp only;by_cases cm:i < (d.2.1.length:Int)
 ·rw[if_pos (decide_eq_true cm)];obtain⟨k,e1,hk⟩:=snk_ok (t:=i) hd;simp only[e1,vS,Option.isSome_some];refine gd_ex ⟨⟨trivial,trivial⟩,p172 i1.1 (by omega) (by omega)⟩ (alp_ex ?_);rintro⟨w,s2⟩ ⟨⟨w1,w2,w3,w4,w5⟩,-,hz2⟩;refine u_of (gd_ex ⟨⟨by simp; omega,by simp; omega⟩,trivial⟩ (gd_ex ⟨oo,trivial⟩ (lt_ex ?_)));refine ih _ ⟨Sd_of hz2 w1,by simp only; omega,by simp only; omega,by simp; omega,fun x hx=>?_⟩ (by simp only; omega);rcases List.mem_append.1 hx with hx | hx
  ·exact i5 x hx
  ·rw[List.mem_singleton.1 hx];exact⟨⟨w2,w3,w4⟩,w5⟩
 ·rw[if_neg (by simpa using cm)];unfold u112J0;have hw:=cnt_row (e:=y110) (m:=20) (k:=60) (xs:=ws) (by omega) (fun x hx=>(i5 x hx).2);refine gd_ex ⟨i1.1,by simp only; omega,fun x hx=>(i5 x hx).1,t6,?_⟩ ⟨_,rfl,trivial⟩;show cnt (.pr (.sl y163) (.pr y31 (.sl y110))) (l,d,ws)<=10000;rw[cnt_pr,cnt_pr];simp only;omega
theorem anyJ_ok{s:Y152}{ws:List Y110}{d:Y31}{l:List Y163}(h:Sd s)(hc:cnt (.sl y163) l+(cnt y31 d+cnt (.sl y110) ws)<=20000) :
  ∃r,u111J0 (s.1,s.2.1,s.2.2,ws,d.1,d.2.1,d.2.2,l)=some r/\True:=by
 unfold u111J0;refine gd_ex ⟨h.1,?_⟩ ⟨_,rfl,trivial⟩;show cnt (.pr (.sl y163) (.pr y31 (.sl y110))) (l,d,ws)<=20000;rw[cnt_pr,cnt_pr];exact hc
theorem any_ok{s:Y152}(h:Sd s):u111 s=some ():=by
 refine u_of ?_;obtain⟨v,s0,e0,hs0,-,-,-⟩:=nxt_ok (n:=3) h (by omega);unfold u111;simp only[e0,vS,Option.isSome_some];refine gd_ex ⟨⟨trivial,trivial⟩,p112 hs0.1 (by omega) (by omega)⟩ (alp_ex ?_);rintro⟨⟨l,d,ws⟩,s1⟩ ⟨⟨t1,t2,t3,t4,t5⟩,-,hz⟩;have hs1:Sd s1:=Sd_of hz t1;simp only at t2 t3 t4 t5;refine u_of (gd_ex trivial ?_);have hws:ws.length<=9223372036854775807:=by
  have h9:cnt (.pr (.sl y163) (.pr y31 (.sl y110))) (l,d,ws)<=10000:=t5;rw[cnt_pr,cnt_pr,cnt_sl (e:=y110)] at h9;simp only at h9;omega
 have hc:cnt (.sl y163) l+(cnt y31 d+cnt (.sl y110) ws)<=10000:=by
  have h9:cnt (.pr (.sl y163) (.pr y31 (.sl y110))) (l,d,ws)<=10000:=t5;rw[cnt_pr,cnt_pr] at h9;exact h9
 obtain⟨k,s2,e2,hs2,ka,kb,-⟩:=nxt_ok (n:=(ws.length:Int)) hs1 (by omega);have kb:=kb (by omega);obtain⟨q,s3,e3,hs3,-,-,-⟩:=nxt_ok (n:=20) hs2 (by omega);have e2':u88 (Z112 ((l,d,ws),s1)) (ws.length:Int)=some (k,s2):=e2;dsimp only;simp only[e2',vS,Option.isSome_some];refine gd_ex ⟨trivial,trivial⟩ (lt_ex ?_);dsimp only;simp only[e3,vS,Option.isSome_some];refine gd_ex ⟨trivial,trivial⟩ (lt_ex ?_);dsimp only;have hlt:k.toNat<ws.length:=by omega
 have hwk:1<=(ws.getD k.toNat (dflt y110)).1.length/\1<=(ws.getD k.toNat (dflt y110)).2.1.length/\1<=(ws.getD k.toNat (dflt y110)).2.2.1.length:=by
  rw[gq,List.getElem?_eq_getElem hlt];exact t3 _ (List.getElem_mem hlt)
 have hwl:cnt y110 (ws.getD k.toNat (dflt y110))<=10000:=by
  have:=cnt_at (t:=y110) (d:=dflt y110) hlt;rw[cnt_sl (e:=y110)] at hc;omega
 -- a number deep in the data has turned
 have hav:∀(s4:Y152) (c4:List Int) (d4:Y31) (w4:List Y110) (l4:List Y163),Sd s4->wf (.sl (.int .u8)) c4->shp (.sl y165) d.1 d4.1->shp (.sl .str) d.2.1 d4.2.1->shp (.sl y175) d.2.2 d4.2.2->shp (.sl y110) ws w4->shp (.sl y163) l l4 ->
   ∃r,u111J0 (c4,s4.2.1,s4.2.2,w4,d4.1,d4.2.1,d4.2.2,l4)=some r/\True:=fun s4 c4 d4 w4 l4 q1 q2 q3 q4 q5 q6 q7 =>
  anyJ_ok (s:=(c4,s4.2.1,s4.2.2)) ⟨q1.1,q2.1,fun b hb=>q2.2 b hb⟩ (by rw[shp_cnt _ _ _ q7,des_cnt q3 q4 q5,shp_cnt _ _ _ q6]; omega)
 have hwf:∀{s4:Y152},Sd s4->wf (.sl (.int .u8)) s4.1:=fun q=>⟨q.2.1,fun b hb=>q.2.2 b hb⟩;split
 ·refine gd_ex ⟨⟨by omega,by omega,by omega⟩,trivial⟩ ?_;refine anyJ_ok (s:=s3) (d:=d) hs3 ?_;have:cnt (.sl y110) (List.drop (Int.toNat (1:Int)) ws)<=cnt (.sl y110) ws:=by
   cases ws with
   | nil=>simp
   | cons x r =>
     rw[cnt_sl,cnt_sl];simp only[show Int.toNat (1:Int)=1 from rfl,List.drop_succ_cons,List.drop_zero,List.map_cons,List.sum_cons,List.length_cons];omega
  omega
 split
 ·have hsk:(ws.getD k.toNat (dflt y110)).2.2.2.length<=10000:=by
   have h9:cnt (.pr (.sl (.int .i64)) (.pr (.sl (.int .i64)) (.pr (.sl (.int .i64)) (.sl (.int .i64))))) (ws.getD k.toNat (dflt y110))<=10000:=hwl;rw[cnt_pr,cnt_pr,cnt_pr] at h9;simp only[cnt_ints] at h9;omega
  have hik:u169 (ws.getD k.toNat (dflt y110)).2.2.2=some (ws.getD k.toNat (dflt y110)).2.2.2:=by
   unfold u169;rw[gP ⟨oo,trivial⟩];rfl
  simp only[hik,vS,Option.isSome_some];refine gd_ex ⟨⟨⟨ka,by omega⟩,hlt,trivial,⟨by rw[List.length_singleton]; omega,by rw[List.length_singleton]; omega⟩,⟨ka,by omega⟩,trivial⟩,hlt,trivial⟩ ?_;refine anyJ_ok (s:=s3) (d:=d) hs3 ?_;have hset:=sum_set (f:=cnt y110) (d:=dflt y110) (y:=((ws.getD k.toNat (dflt y110)).1,(ws.getD k.toNat (dflt y110)).2.1,(ws.getD k.toNat (dflt y110)).2.2.1,(ws.getD k.toNat (dflt y110)).2.2.2++[0])) hlt;have hone:cnt y110 ((ws.getD k.toNat (dflt y110)).1,(ws.getD k.toNat (dflt y110)).2.1,(ws.getD k.toNat (dflt y110)).2.2.1,(ws.getD k.toNat (dflt y110)).2.2.2++[0])=cnt y110 (ws.getD k.toNat (dflt y110))+1:=by
   generalize ws.getD k.toNat (dflt y110)=w;show cnt (.pr (.sl (.int .i64)) (.pr (.sl (.int .i64)) (.pr (.sl (.int .i64)) (.sl (.int .i64))))) _=cnt (.pr (.sl (.int .i64)) (.pr (.sl (.int .i64)) (.pr (.sl (.int .i64)) (.sl (.int .i64))))) w+1;simp only[cnt_pr,cnt_ints,List.length_append,List.length_singleton];omega
  rw[hone] at hset;rw[cnt_sl (e:=y110),List.length_set];rw[cnt_sl (e:=y110)] at hc;omega
 split
 ·refine gd_ex ⟨⟨ka,by omega⟩,hlt,oo,trivial⟩ (alp_ex ?_);rintro⟨v3,v4,v5,v6,v7,v8,v9,v10⟩ ⟨-,-,jh5,jh6,jh7,jh8,jh9,jh10⟩;refine u_of (gd_ex trivial ?_);exact hav s3 v5 (v6,v7,v8) v9 v10 hs3 (jh5.2 (hwf hs3)) jh6.1 jh7.1 jh8.1 jh9 jh10
 split
 ·obtain⟨q5,s5,e5,hs5,qa,qb,-⟩:=nxt_ok (n:=3) hs3 (by omega);have qb:=qb (by omega);simp only[e5,vS,Option.isSome_some];refine gd_ex ⟨⟨ka,by omega⟩,hlt,trivial,⟨by omega,by simp; omega⟩,by simp; omega,oo,trivial⟩ (alp_ex ?_);rintro⟨v11,v12,v13,v14,v15,v16,v17,v18,v19⟩ ⟨-,-,jh5,-,jh6,jh7,jh8,jh9,jh10⟩;refine u_of (gd_ex trivial ?_);exact hav s5 v13 (v15,v16,v17) v18 v19 hs5 (jh5.2 (hwf hs5)) jh6.1 jh7.1 jh8.1 jh9 jh10
 split
 ·obtain⟨q5,s5,e5,hs5,qa,qb,-⟩:=nxt_ok (n:=5) hs3 (by omega);have qb:=qb (by omega);have hP:(ws.getD k.toNat (dflt y110)).1.length<=10000:=by
   have h9:cnt (.pr (.sl (.int .i64)) (.pr (.sl (.int .i64)) (.pr (.sl (.int .i64)) (.sl (.int .i64))))) (ws.getD k.toNat (dflt y110))<=10000:=hwl;rw[cnt_pr,cnt_pr,cnt_pr] at h9;simp only[cnt_ints] at h9;omega
  simp only[e5,vS,Option.isSome_some];refine gd_ex ⟨⟨ka,by omega⟩,hlt,⟨ka,by omega⟩,hlt,oo,trivial,oo,oo,trivial⟩ (alp_ex ?_);rintro⟨v20,v21,v22,v23,v24,v25,v26,v27,v28,v29⟩ ⟨-,-,-,jh5,-,jh6,jh7,jh8,jh9,jh10⟩;refine u_of (gd_ex trivial ?_);exact hav s5 v23 (v25,v26,v27) v28 v29 hs5 (jh5.2 (hwf hs5)) jh6.1 jh7.1 jh8.1 jh9 jh10
 split
 ·refine gd_ex ⟨oo,trivial⟩ (alp_ex ?_);rintro⟨v30,v31,v32,v33,v34,v35,v36,v37,v38⟩ ⟨-,-,-,jh5,jh6,jh7,jh8,jh9,jh10⟩;refine u_of (gd_ex trivial ?_);exact hav s3 v33 (v34,v35,v36) v37 v38 hs3 (jh5.2 (hwf hs3)) jh6.1 jh7.1 jh8.1 jh9 jh10
 ·exact anyJ_ok (s:=s3) (d:=d) hs3 (by omega)
theorem k172:K172:=e172 fun x hw hp=>wire_ok (Sd_of hw.1 hp.1) hp.2.1 hp.2.2
theorem k171:K171:=e171 fun x hw hp=>des_ok (Sd_of hw.1 hp.1) hp.2.1 hp.2.2
theorem k112:K112:=e112 k172 k171 fun x hw hp=>blk_ok (Sd_of hw.1 hp.1) hp.2.1 hp.2.2
theorem k111:K111:=e111 k112 fun x hw hp=>any_ok (Sd_of hw.1 hp)
theorem blk9J_ok{v:Int}{s:Y152}{b:Bool}(h:Sd s):∃r,u54J0 (v,s) b=some r/\True:=by
 unfold u54J0;dsimp only;split
 ·refine gd_ex ⟨trivial,p112 h.1 (by omega) (by omega)⟩ (alp_ex ?_);rintro⟨b,s1⟩ ⟨⟨t1,t2,t3,t4,t5⟩,-,hz⟩;exact u_of (gd_ex trivial (gd_ex ⟨t1,Nat.le_trans t5 (by decide)⟩ ⟨_,rfl,trivial⟩))
 ·refine gd_ex ⟨trivial,p112 h.1 (by omega) (by omega)⟩ (alp_ex ?_);rintro⟨b,s1⟩ ⟨⟨t1,t2,t3,t4,t5⟩,-,hz⟩;exact u_of (gd_ex trivial (gd_ex ⟨t1,Nat.le_trans t5 (by decide)⟩ ⟨_,rfl,trivial⟩))
theorem blk9_ok{s:Y152}(h:Sd s):u54 s=some ():=by
 refine u_of ?_;obtain⟨v,s0,e0,hs0,-,-,-⟩:=nxt_ok (n:=12) h (by omega);unfold u54;simp only[e0,vS,Option.isSome_some];refine gd_ex ⟨trivial,trivial⟩ (lt_ex ?_);dsimp only;split
 ·refine gd_ex ⟨trivial,hs0.1⟩ (alp_ex ?_);rintro⟨b,s1⟩ ⟨⟨t1,t5⟩,-,hz⟩;exact u_of (gd_ex trivial (gd_ex ⟨t1,t5⟩ ⟨_,rfl,trivial⟩))
 ·split
  ·exact blk9J_ok hs0
  ·exact blk9J_ok hs0
theorem k54:K54:=e54 k112 k111 fun x hw hp=>blk9_ok (Sd_of hw.1 hp)
end
end Go.Proofs.YtphnknndgfgepaaGreatDoor
end
section
namespace Go.Proofs.Xd
open Go Go.Proofs.Xv Go.Proofs.Xl
abbrev DTbl:=List Int×List Int×List Int
abbrev DArc:=Int×Int×Int×Int×List DTbl×List DTbl
abbrev DPin:=ByteArray×Int×Int×Bool
abbrev DInst:=ByteArray×Int×List Int
abbrev DPort:=ByteArray×Int×Int
abbrev DWire:=List Int×List Int×List Int×List Int
def inB(x l h:Int):Bool:=decide (l<=x)&&decide (x<=h)
theorem inB_iff{x l h:Int}:inB x l h=true↔l<=x/\x<=h:=by simp[inB]
def incB(xs:List Int):Bool:=!(List.range xs.length).any fun i=>decide (0<i)&&decide (xs.getD i 0<=xs.getD (i-1) 0)
def isAxis(xs:List Int):Bool:=decide (1<=xs.length)&&decide (xs.length<=4)&&xs.all (inB · 0 100000)&&incB xs
def isTable(t:DTbl):Bool:=isAxis t.1&&isAxis t.2.1&&decide (t.2.2.length=t.1.length*t.2.1.length)&&t.2.2.all (inB · (-1000000) 1000000)
theorem axis_len{xs:List Int}(h:isAxis xs=true):1<=xs.length/\xs.length<=4:=by
 simp only[isAxis,ba,dq] at h;exact⟨h.1.1.1,h.1.1.2⟩
theorem table_len{t:DTbl}(h:isTable t=true):1<=t.1.length/\t.1.length<=4/\1<=t.2.1.length/\t.2.1.length<=4/\t.2.2.length=t.1.length*t.2.1.length/\1<=t.2.2.length/\t.2.2.length<=16:=by
 simp only[isTable,ba,dq] at h;obtain⟨⟨⟨h1,h2⟩,h3⟩,_⟩:=h;obtain⟨a1,a2⟩:=axis_len h1;obtain⟨b1,b2⟩:=axis_len h2;have c1:1*1<=t.1.length*t.2.1.length:=Nat.mul_le_mul a1 b1;have c2:t.1.length*t.2.1.length<=4*4:=Nat.mul_le_mul a2 b2;exact⟨a1,a2,b1,b2,h3,by omega,by omega⟩
def minN(xs:List Int):Int:=fN (fun i m=>min m (xs.getD (i+1) 0)) (xs.length-1) (xs.getD 0 0)
def areTables(l:List DTbl)(p:Bool):Bool:=decide (l.length=2)&&l.all fun t=>isTable t&&!(p&&decide (minN t.2.2<0))
theorem all_any{α:Type}(l:List α)(p:α->Bool):(!l.any fun x=>!p x)=l.all p:=by
 induction l with
 | nil=>rfl
 | cons a r ih=>simp only[List.any_cons,List.all_cons,Bool.not_or,Bool.not_not,ih]
end Go.Proofs.Xd
end
section
namespace Go.Proofs.Xd
open Go Go.Proofs.Sv Go.Proofs.Xv Go.Proofs.Xl
theorem nmTo_any(s:ByteArray):∀n,nmTo s n=!(List.range n).any fun i=>!chB (byteAt s i) i
 | 0=>rfl
 | n+1=>by
   rw[nmTo,nmTo_any s n,List.range_succ,List.any_append,Bool.not_or];simp
def dupB(f:Nat->ByteArray)(i:Nat):Bool:=(List.range i).any fun k=>decide (f k=f i)
def namesB(n:Nat)(f:Nat->ByteArray):Bool:=!(List.range n).any fun i=>!nmB (f i)||dupB f i
theorem namesB_congr{n:Nat}{f g:Nat->ByteArray}(h:∀i,i<n->f i=g i):namesB n f=namesB n g:=by
 unfold namesB;congr 1;refine any_congr' fun i hi=>?_;rw[h i hi];congr 1;unfold dupB;refine any_congr' fun k hk=>?_;rw[h i hi,h k (by omega)]
theorem take_any(l:List ByteArray)(d:ByteArray)(i:Nat)(h:i<l.length):((l.take i).any fun y=>decide (l.getD i d=y))=dupB (fun k=>l.getD k d) i:=by
 have hl:(l.take i).length=i:=by rw[List.length_take]; omega
 rw[<- any_getD (l.take i) d (fun y=>decide (l.getD i d=y)),hl];unfold dupB;refine any_congr' fun k hk=>?_;have:(l.take i).getD k d=l.getD k d:=by
  rw[gq,gq,List.getElem?_take_of_lt hk]
 rw[this,decide_eq_decide];exact eq_comm
theorem getD_map'{α β:Type}(f:α->β)(l:List α)(i:Nat)(d:α)(e:β)(h:i<l.length):(l.map f).getD i e=f (l.getD i d):=by
 rw[gq,gq,List.getElem?_map,List.getElem?_eq_getElem h]; rfl
theorem range_map{α β:Type}(l:List α)(d:α)(f:α->β):(List.range l.length).map (fun i=>f (l.getD i d))=l.map f:=by
 apply List.ext_getElem?;intro i;rw[List.getElem?_map,List.getElem?_map];by_cases h:i<l.length
 ·rw[List.getElem?_range h,List.getElem?_eq_getElem h];show some (f (l.getD i d))=some (f l[i]);rw[gq,List.getElem?_eq_getElem h]; rfl
 ·rw[List.getElem?_eq_none (by simpa using h),List.getElem?_eq_none (by omega)]; rfl
def pinB(n:Nat)(q:DPin)(i:Nat):Bool:=inB q.2.2.1 0 500&&(if i+1=n then q.2.1==2&&q.2.2.1==0&&!q.2.2.2 else q.2.1==1)
def pinsOk(n:Nat)(p:Nat->DPin):Bool:=decide (2<=n)&&decide (n<=5)&&namesB n (fun i=>(p i).1)&&!(List.range n).any fun i=>!pinB n (p i) i
def clkN(n:Nat)(p:Nat->DPin):Int:=fN (fun i s=>if(p i).2.2.2=true then s+1 else s) n 0
def clkI(n:Nat)(p:Nat->DPin):Int:=match(List.range n).find? (fun i=>(p i).2.2.2) with | some i=>(i:Int) | none => -1
def dupA(a:Nat->DArc)(i:Nat):Bool:=(List.range i).any fun k=>(a k).1==(a i).1&&(a k).2.1==(a i).2.1&&(a k).2.2.1==(a i).2.2.1
def isArcS(n:Nat)(p:Nat->DPin)(a:DArc):Bool :=
 inB a.2.1 0 ((n:Int)-1-1)&&inB a.2.2.1 0 ((n:Int)-1) &&
 if a.1=1 then !(p a.2.1.toNat).2.2.2&&a.2.2.1==(n:Int)-1&&inB a.2.2.2.1 1 3&&areTables a.2.2.2.2.1 true&&areTables a.2.2.2.2.2 true
 else if a.1=2∨a.1=3 then(p a.2.1.toNat).2.2.2&&a.2.2.1==(n:Int)-1&&a.2.2.2.1==0&&areTables a.2.2.2.2.1 true&&areTables a.2.2.2.2.2 true
 else if a.1=4∨a.1=5 then(p a.2.1.toNat).2.2.2&&decide (a.2.2.1 < (n:Int)-1)&&!(p a.2.2.1.toNat).2.2.2&&a.2.2.2.1==0&&areTables a.2.2.2.2.1 false&&(a.2.2.2.2.2.length:Int)==0
 else false
def isArcI(n:Nat)(p:Nat->DPin)(a:DArc):Bool :=
 if a.1=4∨a.1=5 then a.2.2.2.1==0&&(a.2.2.2.2.2.length:Int)==0&&areTables a.2.2.2.2.1 false&&a.2.1==clkI n p&&decide (0<=a.2.1)&&inB a.2.2.1 0 ((n:Int)-1-1)&&a.2.2.1 != a.2.1
 else areTables a.2.2.2.2.1 true&&areTables a.2.2.2.2.2 true&&a.2.2.1==(n:Int)-1&&inB a.2.1 0 ((n:Int)-1-1) &&
  if a.1=1 then !(p a.2.1.toNat).2.2.2&&inB a.2.2.2.1 1 3
  else if a.1=2∨a.1=3 then(p a.2.1.toNat).2.2.2&&a.2.2.2.1==0
  else false
theorem clkN_le(p:Nat->DPin):∀n,0<=clkN n p/\clkN n p<=n
 | 0=>⟨Int.le_refl _,Int.le_refl _⟩
 | n+1=>by
   have:=clkN_le p n;unfold clkN at *
   rw[fN];split <;> omega
theorem clkN_one{p:Nat->DPin}:∀{n i:Nat},i<n->(p i).2.2.2=true->1<=clkN n p
 | n+1,i,hi,h=>by
   have h0:=(clkN_le p n).1;have ih:i<n->1<=clkN n p:=fun h'=>clkN_one h' h;unfold clkN at *
   rw[fN];rcases Nat.lt_succ_iff_lt_or_eq.1 hi with h' | rfl
   ·have:=ih h';split <;> omega
   ·rw[if_pos h]; omega
theorem clkN_two{p:Nat->DPin}:∀{n i j:Nat},i<j->j<n->(p i).2.2.2=true->(p j).2.2.2=true->2<=clkN n p
 | n+1,i,j,hij,hj,h,k=>by
   have ih:j<n->2<=clkN n p:=fun h'=>clkN_two hij h' h k;have h1:i<n->1<=clkN n p:=fun h'=>clkN_one h' h;unfold clkN at *
   rw[fN];rcases Nat.lt_succ_iff_lt_or_eq.1 hj with h' | rfl
   ·have:=ih h';split <;> omega
   ·have:=h1 hij;rw[if_pos k]; omega
theorem clkI_eq{p:Nat->DPin}{n i:Nat}(hn:clkN n p<=1)(hi:i<n):(p i).2.2.2=decide (clkI n p=(i:Int)):=by
 unfold clkI;cases h:(List.range n).find? (fun i=>(p i).2.2.2) with
 | none =>
   rw[List.find?_eq_none] at h;have:=h i (List.mem_range.2 hi);rw[Bool.not_eq_true] at this;rw[this];exact(decide_eq_false (by show ¬(-1:Int)=i; omega)).symm
 | some j =>
   have h1:=List.find?_some h;have h2:=List.mem_range.1 (List.mem_of_find?_eq_some h);show _=decide ((j:Int)=(i:Int));by_cases e:j=i
   ·subst e;rw[decide_eq_true rfl]; exact h1
   ·rw[decide_eq_false (by omega),<- Bool.not_eq_true];intro hc;rcases Nat.lt_or_gt_of_ne e with h' | h'
    ·have:=clkN_two (p:=p) h' hi h1 hc; omega
    ·have:=clkN_two (p:=p) h' h2 hc h1; omega
theorem clkI_lt{p:Nat->DPin}{n:Nat}:clkI n p<n:=by
 unfold clkI;cases h:(List.range n).find? (fun i=>(p i).2.2.2) with
 | none=>show(-1:Int)<n; omega
 | some j =>
   have h2:=List.mem_range.1 (List.mem_of_find?_eq_some h);show(j:Int)<n; omega
theorem pins_last{p:Nat->DPin}{n:Nat}(h:pinsOk n p=true):2<=n/\n<=5/\(p (n-1)).2.2.2=false:=by
 unfold pinsOk at h;simp only[ba,dq] at h;obtain⟨⟨⟨h1,h2⟩,_⟩,h3⟩:=h;have:=not_any.1 h3 (n-1) (by omega);rw[Bool.not_eq_false'] at this;unfold pinB at this;rw[if_pos (by omega)] at this;simp only[ba,Bool.not_eq_true'] at this;exact⟨h1,h2,this.2.2⟩
theorem arc_eq{p:Nat->DPin}{n:Nat}(h:pinsOk n p=true)(hc:clkN n p<=1)(a:DArc):isArcI n p a=isArcS n p a:=by
 obtain⟨h2,h5,hl⟩:=pins_last h;obtain⟨kd,fr,to,se,de,sl⟩:=a;rw[Bool.eq_iff_iff];unfold isArcI isArcS;dsimp only;have hcl:∀x:Int,0<=x->x<=(n:Int)-1->(p x.toNat).2.2.2=decide (clkI n p=x):=fun x h0 h1=>by
  rw[clkI_eq hc (by omega)];rw[decide_eq_decide]; omega
 have hlast:clkI n p≠(n:Int)-1:=fun e=>by
  have:=hcl ((n:Int)-1) (by omega) (by omega);have e2:((n:Int)-1).toNat=n-1:=by omega
  rw[e2,hl,decide_eq_true e] at this;cases this
 have hlt:=clkI_lt (p:=p) (n:=n);by_cases k45:kd=4∨kd=5
 ·rw[if_pos k45,if_neg (by omega),if_neg (by omega),if_pos k45];simp only[ba,inB_iff,dq,beq_iff_eq,bne_iff_ne,Bool.not_eq_true'];constructor
  ·rintro⟨⟨⟨⟨⟨⟨a1,a2⟩,a3⟩,a4⟩,a5⟩,a6⟩,a7⟩;have e1:=hcl fr a5 (by omega);have e2:=hcl to a6.1 (by omega);exact⟨⟨⟨a5,by omega⟩,by omega,by omega⟩,⟨⟨⟨⟨⟨by rw[e1]; exact decide_eq_true a4.symm,by omega⟩,by rw[e2]; exact decide_eq_false (by omega)⟩,a1⟩,a3⟩,a2⟩⟩
  ·rintro⟨⟨⟨a5,a6⟩,b1,b2⟩,⟨⟨⟨⟨⟨c1,c2⟩,c3⟩,c4⟩,c5⟩,c6⟩⟩;rw[hcl fr a5 (by omega),dq] at c1;rw[hcl to b1 (by omega),decide_eq_false_iff_not] at c3;exact⟨⟨⟨⟨⟨⟨c4,c6⟩,c5⟩,c1.symm⟩,a5⟩,b1,by omega⟩,by omega⟩
 ·rw[if_neg k45];by_cases k1:kd=1
  ·rw[if_pos k1,if_pos k1];simp only[ba,inB_iff,beq_iff_eq];constructor
   ·rintro⟨⟨⟨⟨a1,a2⟩,a3⟩,a4⟩,a5,a6⟩;exact⟨⟨a4,by omega,by omega⟩,⟨⟨⟨a5,a3⟩,a6⟩,a1⟩,a2⟩
   ·rintro⟨⟨a4,_⟩,⟨⟨⟨a5,a3⟩,a6⟩,a1⟩,a2⟩;exact⟨⟨⟨⟨a1,a2⟩,a3⟩,a4⟩,a5,a6⟩
  ·rw[if_neg k1,if_neg k1];by_cases k23:kd=2∨kd=3
   ·rw[if_pos k23,if_pos k23];simp only[ba,inB_iff,beq_iff_eq];constructor
    ·rintro⟨⟨⟨⟨a1,a2⟩,a3⟩,a4⟩,a5,a6⟩;exact⟨⟨a4,by omega,by omega⟩,⟨⟨⟨a5,a3⟩,a6⟩,a1⟩,a2⟩
    ·rintro⟨⟨a4,_⟩,⟨⟨⟨a5,a3⟩,a6⟩,a1⟩,a2⟩;exact⟨⟨⟨⟨a1,a2⟩,a3⟩,a4⟩,a5,a6⟩
   ·rw[if_neg k23,if_neg k23,if_neg k45,Bool.and_false,Bool.and_false]
def hasB(m:Nat)(a:Nat->DArc)(k:Int):Bool:=(List.range m).any fun i=>(a i).1==k
def kindB(k:Int)(n:Nat)(p:Nat->DPin)(m:Nat)(a:Nat->DArc)(tr:List Int):Bool :=
 if k=1 then clkN n p==0&&(tr.length:Int)==1*2 ^ (n-1)&&tr.all (inB · 0 1)
 else if k=2 then clkN n p==1&&(tr.length:Int)==0&&!hasB m a 1&&!(hasB m a 2==hasB m a 3)
 else if k=3 then clkN n p==1&&(tr.length:Int)==0&&hasB m a 1&&hasB m a 2&&!hasB m a 3
 else false
theorem kind_clk{k:Int}{n:Nat}{p:Nat->DPin}{m:Nat}{a:Nat->DArc}{tr:List Int}(h:kindB k n p m a tr=true):clkN n p<=1:=by
 unfold kindB at h;split at h
 ·simp only[ba,beq_iff_eq] at h; omega
 ·split at h
  ·simp only[ba,beq_iff_eq] at h; omega
  ·split at h
   ·simp only[ba,beq_iff_eq] at h; omega
   ·cases h
def arcsB(q:DArc->Bool)(m:Nat)(a:Nat->DArc):Bool:=decide (m<=8)&&!(List.range m).any fun i=>!q (a i)||dupA a i
def cellB(q:Nat->(Nat->DPin)->DArc->Bool)(nm:ByteArray)(k:Int)(n:Nat)(p:Nat->DPin)(m:Nat)(a:Nat->DArc)(tr:List Int)(lk en:Int):Bool :=
 nmB nm&&pinsOk n p&&arcsB (q n p) m a&&inB lk 0 100000&&inB en 0 100000&&kindB k n p m a tr
theorem cell_eq(nm:ByteArray)(k:Int)(n:Nat)(p:Nat->DPin)(m:Nat)(a:Nat->DArc)(tr:List Int)(lk en:Int):cellB isArcI nm k n p m a tr lk en=cellB isArcS nm k n p m a tr lk en:=by
 unfold cellB;cases hp:pinsOk n p with
 | false=>simp
 | true =>
   cases hk:kindB k n p m a tr with
   | false=>simp
   | true =>
     have:isArcI n p=isArcS n p:=funext fun x=>arc_eq hp (kind_clk hk) x;rw[this]
theorem take_anyG{α:Type}(l:List α)(d:α)(q:α->Bool)(i:Nat)(h:i<=l.length):(l.take i).any q=(List.range i).any fun k=>q (l.getD k d):=by
 have hl:(l.take i).length=i:=by rw[List.length_take]; omega
 rw[<- any_getD (l.take i) d q,hl];refine any_congr' fun k hk=>?_;rw[gq,gq,List.getElem?_take_of_lt hk]
theorem arcS_kind{n:Nat}{p:Nat->DPin}{a:DArc}(h:isArcS n p a=true):1<=a.1/\a.1<=5:=by
 unfold isArcS at h;rw[ba] at h;obtain⟨_,h⟩:=h;split at h
 ·omega
 ·split at h
  ·omega
  ·split at h
   ·omega
   ·cases h
theorem pow_in{n:Nat}(h:n<=5) : -9223372036854775808<=(1:Int)*2 ^ (n-1)/\(1:Int)*2 ^ (n-1)<=9223372036854775807:=by
 have:∀k:Fin 6,-9223372036854775808<=(1:Int)*2 ^ (k.val-1)/\(1:Int)*2 ^ (k.val-1)<=9223372036854775807:=by decide
 exact this ⟨n,by omega⟩
def cntK(a:Nat->DArc)(k:Int)(m:Nat):Int:=fN (fun i s=>if(a i).1=k then s+1 else s) m 0
theorem cntK_le(a:Nat->DArc)(k:Int):∀m,0<=cntK a k m/\cntK a k m<=m
 | 0=>⟨Int.le_refl _,Int.le_refl _⟩
 | m+1=>by
   have:=cntK_le a k m;unfold cntK at *
   rw[fN];split <;> omega
theorem cntK_has(a:Nat->DArc)(k:Int):∀m,hasB m a k=decide (0<cntK a k m)
 | 0=>rfl
 | m+1=>by
   have ih:=cntK_has a k m;have h0:=(cntK_le a k m).1;unfold hasB cntK at *
   rw[List.range_succ,List.any_append,ih,fN];simp only[List.any_cons,List.any_nil,Bool.or_false];by_cases h:(a m).1=k
   ·rw[if_pos h,beq_iff_eq.2 h,Bool.or_true];exact(decide_eq_true (by omega)).symm
   ·rw[if_neg h,beq_eq_false_iff_ne.2 h,Bool.or_false]
def kindsF(a:Nat->DArc)(i:Nat)(v:List Int):List Int:=v.set (a i).1.toNat (v.getD (a i).1.toNat 0+1)
theorem kinds_fold(a:Nat->DArc):∀m,(∀i,i<m->1<=(a i).1/\(a i).1<=5)->(fN (kindsF a) m (List.replicate 6 0)).length=6/\∀k:Nat,k<6->(fN (kindsF a) m (List.replicate 6 0)).getD k 0=cntK a k m
 | 0,_=>⟨by simp[fN],fun k hk=>by
   have:∀k:Fin 6,(List.replicate 6 (0:Int)).getD k.val 0=0:=by decide
   exact this ⟨k,hk⟩⟩
 | m+1,h=>by
   obtain⟨h1,h2⟩:=kinds_fold a m (fun i hi=>h i (by omega));obtain⟨h3,h4⟩:=h m (by omega);rw[fN];unfold kindsF at *
   refine⟨by rw[List.length_set]; exact h1,fun k hk=>?_⟩;have e:cntK a k (m+1)=if(a m).1=k then cntK a k m+1 else cntK a k m:=by unfold cntK; rw[fN]
   rw[e,gq,List.getElem?_set];by_cases hk':(a m).1.toNat=k
   ·rw[if_pos hk',if_pos (by rw[h1]; omega),if_pos (by omega)];rw[Option.getD_some,hk',h2 k hk]
   ·rw[if_neg hk',if_neg (by omega),<- gq,h2 k hk]
def incAt(v:List Int)(x:Int):List Int:=v.set x.toNat (v.getD x.toNat 0+1)
def lowAt(v:List Int)(n b:Nat):Prop:=v.length=n/\∀k:Nat,0<=v.getD k 0/\v.getD k 0<=(b:Int)
theorem lowAt_rep(n b:Nat):lowAt (List.replicate n 0) n b:=by
 refine⟨List.length_replicate,fun k=>?_⟩;rw[gq,List.getElem?_replicate];split <;> (show(0:Int)<=0/\(0:Int)<=b; omega)
theorem lowAt_inc{v:List Int}{n b:Nat}(h:lowAt v n b)(x:Int):lowAt (incAt v x) n (b+1):=by
 refine⟨by unfold incAt; rw[List.length_set]; exact h.1,fun k=>?_⟩;have hx:=h.2 x.toNat;have hk:=h.2 k;unfold incAt;rw[gq,List.getElem?_set];by_cases e:x.toNat=k
 ·rw[if_pos e];split
  ·rw[Option.getD_some]; omega
  ·show(0:Int)<=0/\(0:Int)<=_; omega
 ·rw[if_neg e,<- gq]; omega
theorem lowAt_up{v:List Int}{n b b':Nat}(h:lowAt v n b)(hb:b<=b'):lowAt v n b':=⟨h.1,fun k=>by have:=h.2 k; omega⟩
theorem lowAt_ix{v:List Int}{n b:Nat}(h:lowAt v n b){x:Int}(hx:inB x 0 ((n:Int)-1)=true):ix x v.length/\x.toNat<v.length:=by
 rw[inB_iff] at hx;rw[ix,h.1];omega
def libB(n:Nat)(ok:Nat->Bool)(nm:Nat->ByteArray):Bool:=!((List.range n).any fun i=>!ok i||dupB nm i)&&decide (n<=8)
theorem lib_eq{n:Nat}{ok:Nat->Bool}{nm:Nat->ByteArray}(h:∀i,i<n->ok i=true->nmB (nm i)=true):(if((List.range n).any fun i=>!ok i)=true then false else decide (n<=8)&&namesB n nm)=libB n ok nm:=by
 unfold libB namesB;have e:((List.range n).any fun i=>!ok i||dupB nm i)=(((List.range n).any fun i=>!ok i)||(List.range n).any fun i=>dupB nm i):=any_or _ _;rw[e];cases ha:(List.range n).any fun i=>!ok i with
 | true=>rfl
 | false =>
   have hall:=(not_any (n:=n) (c:=fun i=>!ok i)).1 (by rw[ha]; rfl);have:((List.range n).any fun i=>!nmB (nm i)||dupB nm i)=(List.range n).any fun i=>dupB nm i:=any_congr' fun i hi=>by
    have:=hall i hi;rw[Bool.not_eq_false'] at this;rw[h i hi this]; rfl
   rw[this,if_neg (by simp),Bool.false_or,Bool.and_comm]
def instB(nc:Nat)(pins:Int->Nat)(nn:Nat)(x:DInst):Bool:=inB x.2.1 0 ((nc:Int)-1)&&(x.2.2.length:Int)==(pins x.2.1:Int)&&x.2.2.all fun y=>inB y 0 ((nn:Int)-1)
def portB(nn:Nat)(x:DPort):Bool:=inB x.2.1 1 2&&inB x.2.2 0 ((nn:Int)-1)
def instF(x:Nat->DInst)(i:Nat)(v:List Int):List Int:=incAt v ((x i).2.2.getD ((x i).2.2.length-1) 0)
def portF(x:Nat->DPort)(i:Nat)(v:List Int):List Int:=if(x i).2.1=1 then incAt v (x i).2.2 else v
def driveN(ni np nn:Nat)(x:Nat->DInst)(y:Nat->DPort):List Int:=fN (portF y) np (fN (instF x) ni (List.replicate nn 0))
theorem instF_low(x:Nat->DInst)(nn:Nat):∀i,lowAt (fN (instF x) i (List.replicate nn 0)) nn i
 | 0=>lowAt_rep nn 0
 | i+1=>lowAt_inc (instF_low x nn i) _
def designB(lib:Bool)(nc:Nat)(pins:Int->Nat)(ni np nn:Nat)(x:Nat->DInst)(y:Nat->DPort)(nets:Nat->ByteArray):Bool :=
 lib&&decide (ni<=14)&&decide (nn<=30)&&decide (np<=8)&&namesB ni (fun i=>(x i).1)&&namesB nn nets&&namesB np (fun i=>(y i).1) &&
  !((List.range ni).any fun i=>!instB nc pins nn (x i))&&!((List.range np).any fun i=>!portB nn (y i))&&(driveN ni np nn x y).all (·==1)
def wireB(w:DWire)(n:Int):Bool :=
 decide (1<=w.1.length)&&decide (w.1.length<=8)&&decide (w.2.1.length=w.1.length)&&decide (w.2.2.1.length=w.1.length)&&(w.2.2.2.length:Int)==n &&
  w.2.1.all (inB · 0 1000)&&w.2.2.1.all (inB · 0 500)&&w.2.2.2.all (inB · 0 ((w.1.length:Int)-1)) &&
  !(List.range w.1.length).any fun i=>(i==0&&(w.1.getD i 0 != -1||w.2.1.getD 0 0 != 0))||(decide (0<i)&&!inB (w.1.getD i 0) 0 ((i:Int)-1))
abbrev DPlace:=Int×Int×Int×Bool
def instP(x:DInst)(i:Int)(k:Nat)(s:List DPlace):List DPlace:=s++[(i,(k:Int),x.2.2.getD k 0,(k:Int)==(x.2.2.length:Int)-1)]
def portP(y:Nat->DPort)(i:Nat)(s:List DPlace):List DPlace:=s++[(-1,(i:Int),(y i).2.2,(y i).2.1==1)]
def placesF(x:Nat->DInst)(i:Nat)(s:List DPlace):List DPlace:=fN (instP (x i) i) (x i).2.2.length s
def placesN(ni np:Nat)(x:Nat->DInst)(y:Nat->DPort):List DPlace:=fN (portP y) np (fN (placesF x) ni [])
theorem instP_len(x:DInst)(i:Int)(s:List DPlace):∀k,(fN (instP x i) k s).length=s.length+k
 | 0=>rfl
 | k+1=>by
   rw[fN,instP,List.length_append,instP_len x i s k]; rfl
theorem portP_len(y:Nat->DPort)(s:List DPlace):∀k,(fN (portP y) k s).length=s.length+k
 | 0=>rfl
 | k+1=>by
   rw[fN,portP,List.length_append,portP_len y s k]; rfl
def sinkF(pl:Nat->DPlace)(i:Nat)(v:List Int):List Int:=if(pl i).2.2.2=false then incAt v (pl i).2.2.1 else v
def cntP(pl:Nat->DPlace)(t:Int)(m:Nat):Int:=fN (fun i s=>if((pl i).2.2.1==t&&!(pl i).2.2.2)=true then s+1 else s) m 0
theorem cntP_le(pl:Nat->DPlace)(t:Int):∀m,0<=cntP pl t m/\cntP pl t m<=m
 | 0=>⟨Int.le_refl _,Int.le_refl _⟩
 | m+1=>by
   have:=cntP_le pl t m;unfold cntP at *
   rw[fN];split <;> omega
theorem sink_fold(pl:Nat->DPlace)(n:Nat):∀m,(∀i,i<m->inB (pl i).2.2.1 0 ((n:Int)-1)=true)->(fN (sinkF pl) m (List.replicate n 0)).length=n/\∀k:Nat,k<n->(fN (sinkF pl) m (List.replicate n 0)).getD k 0=cntP pl k m
 | 0,_=>⟨by simp[fN],fun k hk=>by
   show(List.replicate n (0:Int)).getD k 0=0;rw[gq,List.getElem?_replicate,if_pos hk]; rfl⟩
 | m+1,h=>by
   obtain⟨h1,h2⟩:=sink_fold pl n m (fun i hi=>h i (by omega));have h3:=inB_iff.1 (h m (by omega));rw[fN];generalize fN (sinkF pl) m (List.replicate n 0)=v at *
   unfold sinkF;have e:∀k:Nat,cntP pl k (m+1)=if((pl m).2.2.1==(k:Int)&&!(pl m).2.2.2)=true then cntP pl k m+1 else cntP pl k m:=fun k=>by unfold cntP; rw[fN]
   cases hd:(pl m).2.2.2 with
   | true =>
     refine⟨by rw[if_neg (by simp)]; exact h1,fun k hk=>?_⟩;rw[if_neg (by simp),h2 k hk,e,hd,if_neg (by simp)]
   | false =>
     rw[if_pos rfl];unfold incAt;refine⟨by rw[List.length_set]; exact h1,fun k hk=>?_⟩;rw[e,hd,gq,List.getElem?_set];by_cases hk':(pl m).2.2.1.toNat=k
     ·rw[if_pos hk',if_pos (by rw[h1]; omega),if_pos (by simp; omega),Option.getD_some,hk',h2 k hk]
     ·rw[if_neg hk',if_neg (by simp; omega),<- gq,h2 k hk]
def sinkL(pl:Nat->DPlace)(t:Int)(i:Nat)(s:List Int):List Int:=if((pl i).2.2.1==t&&!(pl i).2.2.2)=true then s++[(i:Int)] else s
theorem sinkL_len(pl:Nat->DPlace)(t:Int):∀m,((fN (sinkL pl t) m []).length:Int)=cntP pl t m
 | 0=>rfl
 | m+1=>by
   have:=sinkL_len pl t m;rw[fN];unfold cntP at *
   rw[fN];unfold sinkL at *
   split
   ·rw[List.length_append];show((_+1:Nat):Int)=_;omega
   ·exact this
def netsIn(n:Nat)(s:List DPlace):Prop:=∀p∈s,inB p.2.2.1 0 ((n:Int)-1)=true
theorem instP_in{n:Nat}{x:DInst}{i:Int}(hx:∀k,k<x.2.2.length->inB (x.2.2.getD k 0) 0 ((n:Int)-1)=true){s:List DPlace}(hs:netsIn n s):∀k,k<=x.2.2.length->netsIn n (fN (instP x i) k s)
 | 0,_=>hs
 | k+1,hk=>by
   rw[fN,instP];intro p hp;rcases List.mem_append.1 hp with h | h
   ·exact instP_in hx hs k (by omega) p h
   ·cases List.mem_singleton.1 h;exact hx k (by omega)
theorem placesF_in{n:Nat}{x:Nat->DInst}{ni:Nat}(hx:∀i,i<ni->∀k,k < (x i).2.2.length->inB ((x i).2.2.getD k 0) 0 ((n:Int)-1)=true):∀i,i<=ni->netsIn n (fN (placesF x) i [])
 | 0,_=>fun p hp=>by cases hp
 | i+1,hi=>by
   rw[fN,placesF];exact instP_in (hx i (by omega)) (placesF_in hx i (by omega)) _ (Nat.le_refl _)
theorem portP_in{n:Nat}{y:Nat->DPort}{np:Nat}(hy:∀i,i<np->inB (y i).2.2 0 ((n:Int)-1)=true){s:List DPlace}(hs:netsIn n s):∀k,k<=np->netsIn n (fN (portP y) k s)
 | 0,_=>hs
 | k+1,hk=>by
   rw[fN,portP];intro p hp;rcases List.mem_append.1 hp with h | h
   ·exact portP_in hy hs k (by omega) p h
   ·cases List.mem_singleton.1 h;exact hy k (by omega)
theorem placesF_len{x:Nat->DInst}{ni:Nat}(hx:∀i,i<ni->(x i).2.2.length<=5):∀i,i<=ni->(fN (placesF x) i []).length<=5*i
 | 0,_=>Nat.le_refl _
 | i+1,hi=>by
   rw[fN,placesF,instP_len];have:=placesF_len hx i (by omega);have:=hx i (by omega);omega
theorem getD_mem{α:Type}{l:List α}{i:Nat}{d:α}(h:i<l.length):l.getD i d∈l:=by
 rw[gq,List.getElem?_eq_getElem h];exact List.getElem_mem h
theorem all_getD{l:List Int}{p:Int->Bool}(h:l.all p=true){i:Nat}(hi:i<l.length):p (l.getD i 0)=true:=List.all_eq_true.1 h _ (getD_mem hi)
structure DesignFacts(nc:Nat)(pins:Int->Nat)(ni np nn:Nat)(x:Nat->DInst)(y:Nat->DPort):Prop where
 ni14:ni<=14
 np8:np<=8
 nn30:nn<=30
 inst:∀i,i<ni->instB nc pins nn (x i)=true
 port:∀i,i<np->portB nn (y i)=true
theorem design_facts{lib:Bool}{nc:Nat}{pins:Int->Nat}{ni np nn:Nat}{x:Nat->DInst}{y:Nat->DPort}{nets:Nat->ByteArray}(h:designB lib nc pins ni np nn x y nets=true):lib=true/\DesignFacts nc pins ni np nn x y:=by
 unfold designB at h;simp only[ba,dq] at h;obtain⟨⟨⟨⟨⟨⟨⟨⟨⟨c1,c2⟩,c3⟩,c4⟩,_⟩,_⟩,_⟩,c5⟩,c6⟩,_⟩:=h;refine⟨c1,c2,c4,c3,fun i hi=>?_,fun i hi=>?_⟩
 ·have:=not_any.1 c5 i hi
  rwa [Bool.not_eq_false'] at this
 ·have:=not_any.1 c6 i hi
  rwa [Bool.not_eq_false'] at this
theorem DesignFacts.net{nc:Nat}{pins:Int->Nat}{ni np nn:Nat}{x:Nat->DInst}{y:Nat->DPort}(h:DesignFacts nc pins ni np nn x y):(∀i,i<ni->∀k,k < (x i).2.2.length->inB ((x i).2.2.getD k 0) 0 ((nn:Int)-1)=true)/\∀i,i<np->inB (y i).2.2 0 ((nn:Int)-1)=true:=by
 refine⟨fun i hi k hk=>?_,fun i hi=>?_⟩
 ·have:=h.inst i hi;unfold instB at this;rw[ba] at this;exact all_getD (p:=fun y=>inB y 0 ((nn:Int)-1)) this.2 hk
 ·have:=h.port i hi;unfold portB at this;rw[ba] at this;exact this.2
end Go.Proofs.Xd
end
section
namespace Go.Proofs.Xd
open Go Go.Proofs Go.Proofs.Xl
def addAt(v:List Int)(i:Nat)(x:Int):List Int:=v.set i (v.getD i 0+x)
theorem addAt_len{v:List Int}{i:Nat}{x:Int}:(addAt v i x).length=v.length:=by unfold addAt; simp
theorem addAt_get{v:List Int}{i j:Nat}{x:Int}(hi:i<v.length):(addAt v i x).getD j 0=if j=i then v.getD i 0+x else v.getD j 0:=by
 unfold addAt;by_cases h:j=i
 ·subst h; simp[hi]
 ·rw[if_neg h]; simp[List.getElem?_set_ne (Ne.symm h)]
def sumTo(v:List Int)(k:Nat):Int:=fN (fun i s=>s+v.getD i 0) k 0
theorem sumTo_succ(v:List Int)(k:Nat):sumTo v (k+1)=sumTo v k+v.getD k 0:=rfl
theorem sumTo_addAt{v:List Int}{i:Nat}{x:Int}(hi:i<v.length):∀k,sumTo (addAt v i x) k=sumTo v k+if i<k then x else 0
 | 0=>by simp[sumTo,fN]
 | k+1=>by
   rw[sumTo_succ,sumTo_succ,sumTo_addAt hi k,addAt_get hi];by_cases h:k=i
   ·subst h; simp; omega
   ·rw[if_neg h];by_cases h2:i<k
    ·rw[if_pos h2,if_pos (by omega)]; omega
    ·rw[if_neg h2,if_neg (by omega)]; omega
theorem sumTo_pos{v:List Int}(hp:∀j,0<=v.getD j 0):∀k,0<=sumTo v k
 | 0=>by simp[sumTo,fN]
 | k+1=>by have:=sumTo_pos hp k; have:=hp k; rw[sumTo_succ]; omega
theorem le_sumTo{v:List Int}(hp:∀j,0<=v.getD j 0):∀{k j:Nat},j<k->v.getD j 0<=sumTo v k
 | k+1,j,h=>by
   rw[sumTo_succ];have h1:=sumTo_pos hp k;have h2:=hp k;by_cases e:j=k
   ·subst e; omega
   ·have:=le_sumTo hp (k:=k) (j:=j) (by omega); omega
structure Low(v:List Int)(n:Nat)(S:Int):Prop where
 len:v.length=n
 pos:∀j,0<=v.getD j 0
 sum:sumTo v n<=S
theorem sumTo_bd{v:List Int}{c:Int}(hp:∀j,v.getD j 0<=c):∀k:Nat,sumTo v k<=c*(k:Int)
 | 0=>by simp[sumTo,fN]
 | k+1=>by
   have:=sumTo_bd hp k;have:=hp k;rw[sumTo_succ,Int.natCast_add,Int.mul_add];omega
theorem low_all{v:List Int}{n:Nat}(hn:v.length=n)(h:v.all (inB · 0 500)=true):Low v n (500*(n:Int)):=by
 have hj:∀j,0<=v.getD j 0/\v.getD j 0<=500:=fun j=>by
  rcases Nat.lt_or_ge j v.length with hj | hj
  ·have:=inB_iff.1 (all_getD (p:=fun x=>inB x 0 500) h hj); exact this
  ·rw[gq,List.getElem?_eq_none hj]; exact⟨by decide,by decide⟩
 exact⟨hn,fun j=>(hj j).1,sumTo_bd (fun j=>(hj j).2) n⟩
theorem Low.bd{v:List Int}{n:Nat}{S:Int}(h:Low v n S)(hS:0<=S)(j:Nat):0<=v.getD j 0/\v.getD j 0<=S:=by
 refine⟨h.pos j,?_⟩;rcases Nat.lt_or_ge j n with hj | hj
 ·exact Int.le_trans (le_sumTo h.pos hj) h.sum
 ·rw[gq,List.getElem?_eq_none (by rw[h.len]; exact hj)]; exact hS
theorem Low.add{v:List Int}{n:Nat}{S:Int}(h:Low v n S){i:Nat}(hi:i<n){x:Int}(hx:0<=x):Low (addAt v i x) n (S+x):=by
 have hi':i<v.length:=by rw[h.len]; exact hi
 refine⟨by rw[addAt_len]; exact h.len,fun j=>?_,?_⟩
 ·rw[addAt_get hi'];have:=h.pos i;have:=h.pos j;split <;> omega
 ·rw[sumTo_addAt hi',if_pos hi]; have:=h.sum; omega
def capF(s c:Nat->Int)(i:Nat)(v:List Int):List Int:=addAt v (s i).toNat (c i)
theorem capF_low{s c:Nat->Int}{v:List Int}{n:Nat}{S:Int}(h:Low v n S):∀m,(∀i,i<m->0<=s i/\(s i).toNat<n/\0<=c i/\c i<=500)->Low (fN (capF s c) m v) n (S+500*(m:Int))
 | 0,_=>⟨h.len,h.pos,by have:=h.sum; show sumTo v n<=_; omega⟩
 | m+1,hm=>by
   have ih:=capF_low h m (fun i hi=>hm i (by omega));obtain⟨h1,h2,h3,h4⟩:=hm m (by omega);have:=ih.add h2 h3;refine⟨this.len,this.pos,?_⟩;have:=this.sum;rw[Int.natCast_add,Int.mul_add];refine Int.le_trans this ?_;simp only[Int.natCast_one];omega
def pullF(P:Nat->Int)(n k:Nat)(v:List Int):List Int:=addAt v (P (n-1-k)).toNat (v.getD (n-1-k) 0)
structure Pull(v:List Int)(n k:Nat)(S:Int):Prop where
 len:v.length=n
 pos:∀j,0<=v.getD j 0
 bd:∀j,v.getD j 0<=S
 sum:sumTo v (n-k)<=S
theorem pull_step{P:Nat->Int}{v:List Int}{n k:Nat}{S:Int}(h:Pull v n k S)(hk:k<n-1)(hP:0<=P (n-1-k)/\(P (n-1-k)).toNat<n-1-k):Pull (pullF P n k v) n (k+1) S:=by
 have hp:(P (n-1-k)).toNat<v.length:=by rw[h.len]; omega
 have hpos:∀j,0<=(pullF P n k v).getD j 0:=fun j=>by
  unfold pullF;rw[addAt_get hp];have:=h.pos (P (n-1-k)).toNat;have:=h.pos (n-1-k);have:=h.pos j;split <;> omega
 have hs:sumTo (pullF P n k v) (n-(k+1))<=S:=by
  unfold pullF;have e:n-(k+1)=n-1-k:=by omega
  rw[sumTo_addAt hp,e,if_pos hP.2];have:=h.sum;rw[show n-k=(n-1-k)+1 by omega,sumTo_succ] at this;exact this
 refine⟨by unfold pullF; rw[addAt_len]; exact h.len,hpos,fun j=>?_,hs⟩;by_cases e:j=(P (n-1-k)).toNat
 ·have hlt:j<n-(k+1):=by omega
  exact Int.le_trans (le_sumTo hpos hlt) hs
 ·unfold pullF;rw[addAt_get hp,if_neg e];exact h.bd j
theorem pull_fold{P:Nat->Int}{v:List Int}{n:Nat}{S:Int}(h:Low v n S)(hS:0<=S)(hP:∀i,0<i->i<n->0<=P i/\(P i).toNat<i):∀k,k<=n-1->Pull (fN (pullF P n) k v) n k S
 | 0,_=>⟨h.len,h.pos,fun j=>(h.bd hS j).2,h.sum⟩
 | k+1,hk=>pull_step (pull_fold h hS hP k (by omega)) (by omega) (hP _ (by omega) (by omega))
def loadsD(cap:List Int)(n m:Nat)(s c P:Nat->Int):List Int:=fN (pullF P n) (n-1) (fN (capF s c) m cap)
theorem getD_left{α:Type}{l r:List α}{d:α}{i:Nat}(h:i<l.length):(l++r).getD i d=l.getD i d:=by
 simp only[gq,List.getElem?_append_left h]
theorem getD_right{α:Type}{l r:List α}{d:α}{i:Nat}(h:l.length<=i):(l++r).getD i d=r.getD (i-l.length) d:=by
 simp only[gq,List.getElem?_append_right h]
def delF(P R L:Nat->Int)(k:Nat)(s:List Int):List Int:=s++[s.getD (P (k+1)).toNat 0+R (k+1)*L (k+1)]
def delaysD(n:Nat)(P R L:Nat->Int):List Int:=fN (delF P R L) (n-1) [0]
theorem mul_le{a b A B:Int}(a0:0<=a)(a1:a<=A)(b0:0<=b)(b1:b<=B):0<=a*b/\a*b<=A*B :=
 ⟨Int.mul_nonneg a0 b0,Int.mul_le_mul a1 b1 b0 (Int.le_trans a0 a1)⟩
theorem delF_in{P R L:Nat->Int}{n:Nat}{S:Int}(hR:∀i,i<n->0<=R i/\R i<=1000)(hL:∀i,i<n->0<=L i/\L i<=S)(hS:0<=S):∀k,k<=n-1->(fN (delF P R L) k [0]).length=k+1/\∀j,0<=(fN (delF P R L) k [0]).getD j 0/\(fN (delF P R L) k [0]).getD j 0<=1000*S*(k:Int)
 | 0,_=>⟨rfl,fun j=>by
   cases j with
   | zero=>exact⟨by simp[fN],by simp[fN]⟩
   | succ j=>exact⟨by simp[fN],by simp[fN]⟩⟩
 | k+1,hk=>by
   obtain⟨h1,h2⟩:=delF_in hR hL hS k (by omega);have hx:=mul_le (hR (k+1) (by omega)).1 (hR (k+1) (by omega)).2 (hL (k+1) (by omega)).1 (hL (k+1) (by omega)).2;have hk1:0<=1000*S*(k:Int):=Int.mul_nonneg (by omega) (by omega);have e:1000*S*((k+1:Nat):Int)=1000*S*(k:Int)+1000*S:=by rw[Int.natCast_add,Int.mul_add]; simp
   have e2:fN (delF P R L) (k+1) [0]=delF P R L k (fN (delF P R L) k [0]):=rfl;rw[e2];generalize fN (delF P R L) k [0]=s at h1 h2;unfold delF;refine⟨by rw[List.length_append,h1]; rfl,fun j=>?_⟩;rw[e];rcases Nat.lt_or_ge j s.length with hj | hj
   ·have:=h2 j;rw[getD_left hj]; omega
   ·have h3:=h2 (P (k+1)).toNat;rw[getD_right hj];cases hjs:j-s.length with
    | zero=>simp only[List.getD_cons_zero]; omega
    | succ q=>simp only[List.getD_cons_succ,List.getD_nil]; omega
theorem fill_one{s:List Int}{k n:Nat}{x:Int}(hs:s.length=k+1)(hk:k+1<n):(s++List.replicate (n-1-k) 0).set (k+1) x=(s++[x])++List.replicate (n-1-(k+1)) 0:=by
 have e:n-1-k=(n-1-(k+1))+1:=by omega
 rw[e,List.replicate_succ,List.set_append_right _ _ (by omega),hs,Nat.sub_self,List.set_cons_zero,List.append_assoc];rfl
theorem fill_get{s:List Int}{k n p:Nat}(hs:s.length=k+1)(hp:p<k+1):(s++List.replicate (n-1-k) 0).getD p 0=s.getD p 0:=getD_left (by omega)
def exF(D:List Int)(S:Nat->Int)(i:Nat)(s:List Int):List Int:=s++[D.getD (S i).toNat 0]
def plcIn(ni np:Nat)(x:Nat->DInst)(p:DPlace):Prop:=(p.1 = -1/\0<=p.2.1/\p.2.1.toNat<np)∨(0<=p.1/\p.1.toNat<ni/\0<=p.2.1/\p.2.1.toNat < (x p.1.toNat).2.2.length)
theorem instP_kind{ni np:Nat}{x:Nat->DInst}{i:Nat}(hi:i<ni){s:List DPlace}(hs:∀p∈s,plcIn ni np x p):∀k,k<=(x i).2.2.length->∀p∈fN (instP (x i) i) k s,plcIn ni np x p
 | 0,_=>hs
 | k+1,hk=>fun p hp=>by
   have hp:p∈instP (x i) i k (fN (instP (x i) i) k s):=hp;unfold instP at hp;rcases List.mem_append.1 hp with hp | hp
   ·exact instP_kind hi hs k (by omega) p hp
   ·cases List.mem_singleton.1 hp;exact .inr ⟨Int.natCast_nonneg _,by simpa using hi,Int.natCast_nonneg _,by simp; omega⟩
theorem placesF_kind{ni np:Nat}{x:Nat->DInst}:∀i,i<=ni->∀p∈fN (placesF x) i [],plcIn ni np x p
 | 0,_=>fun p hp=>by cases hp
 | i+1,hi=>instP_kind (by omega) (placesF_kind i (by omega)) _ (Nat.le_refl _)
theorem portP_kind{ni np:Nat}{x:Nat->DInst}{y:Nat->DPort}{s:List DPlace}(hs:∀p∈s,plcIn ni np x p):∀k,k<=np->∀p∈fN (portP y) k s,plcIn ni np x p
 | 0,_=>hs
 | k+1,hk=>fun p hp=>by
   have hp:p∈portP y k (fN (portP y) k s):=hp;unfold portP at hp;rcases List.mem_append.1 hp with hp | hp
   ·exact portP_kind hs k (by omega) p hp
   ·cases List.mem_singleton.1 hp;exact .inl ⟨rfl,Int.natCast_nonneg _,by simp; omega⟩
theorem places_kind(ni np:Nat)(x:Nat->DInst)(y:Nat->DPort):∀p∈placesN ni np x y,plcIn ni np x p:=portP_kind (placesF_kind ni (Nat.le_refl _)) np (Nat.le_refl _)
theorem sinkL_in(pl:Nat->DPlace)(t:Int):∀m,∀x∈fN (sinkL pl t) m [],∃j:Nat,x=(j:Int)/\j<m/\(pl j).2.2.1=t/\(pl j).2.2.2=false
 | 0,x,h=>by cases h
 | m+1,x,h=>by
   have ih:=sinkL_in pl t m x;have h:x∈sinkL pl t m (fN (sinkL pl t) m []):=h;generalize fN (sinkL pl t) m []=s at ih h;unfold sinkL at h;split at h
   ·rename_i hc;rw[ba,beq_iff_eq,Bool.not_eq_true'] at hc;rcases List.mem_append.1 h with h | h
    ·obtain⟨j,h1,h2,h3⟩:=ih h;exact⟨j,h1,by omega,h3⟩
    ·cases List.mem_singleton.1 h;exact⟨m,rfl,by omega,hc⟩
   ·obtain⟨j,h1,h2,h3⟩:=ih h;exact⟨j,h1,by omega,h3⟩
structure WireFacts(w:DWire)(n:Int):Prop where
 n1:1<=w.1.length
 n8:w.1.length<=8
 res:w.2.1.length=w.1.length
 cap:w.2.2.1.length=w.1.length
 snk:(w.2.2.2.length:Int)=n
 resIn:∀i,i<w.1.length->0<=w.2.1.getD i 0/\w.2.1.getD i 0<=1000
 capOk:w.2.2.1.all (inB · 0 500)=true
 snkIn:∀i,i<w.2.2.2.length->0<=w.2.2.2.getD i 0/\(w.2.2.2.getD i 0).toNat<w.1.length
 par:∀i,0<i->i<w.1.length->0<=w.1.getD i 0/\(w.1.getD i 0).toNat<i
theorem wire_facts{w:DWire}{n:Int}(h:wireB w n=true):WireFacts w n:=by
 unfold wireB at h;simp only[ba,dq,beq_iff_eq] at h;obtain⟨⟨⟨⟨⟨⟨⟨⟨c1,c2⟩,c3⟩,c4⟩,c5⟩,c6⟩,c7⟩,c8⟩,c9⟩:=h;refine⟨c1,c2,c3,c4,c5,fun i hi=>?_,c7,fun i hi=>?_,fun i h0 hi=>?_⟩
 ·exact inB_iff.1 (all_getD (p:=fun x=>inB x 0 1000) c6 (by omega))
 ·have:=inB_iff.1 (all_getD (p:=fun x=>inB x 0 ((w.1.length:Int)-1)) c8 hi);omega
 ·have:=not_any.1 c9 i hi;rw[Bool.or_eq_false_iff] at this;have h2:=this.2;rw[Bool.and_eq_false_iff,decide_eq_false_iff_not,Bool.not_eq_false',inB_iff] at h2;rcases h2 with h | h
  ·omega
  ·omega
end Go.Proofs.Xd
end

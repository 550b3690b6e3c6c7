/- Plain words on names: no program in sight. -/
import Derived.Test.YtdjgagoledoaaaaGreatDoorXA
import Derived.Lib.SlTrimSet
import Derived.Lib.Bytealg
import Derived.Test.YtdjgagoledoaaaaGreatDoorXF
import Derived.Test.YtdjgagoledoaaaaGreatDoorF85c
import Derived.Test.YtdjgagoledoaaaaGreatDoorG85
set_option maxHeartbeats 0
section
namespace Go.Proofs.Sv
open Go
def Bd(c:Int):Bool:=decide (c≥97)&&decide (c<=122)
def IZ(c:Int):Bool:=decide (c≥48)&&decide (c<=57)
def Fv(c:Int)(i:Nat):Bool:=Bd c||(IZ c&&decide (0<i))
def Be(s:ByteArray):Nat->Bool
 | 0=>true
 | k+1=>Be s k&&Fv (F3 s k) k
def I4(s:ByteArray):Bool:=Be s s.size&&decide ((s.size:Int)≥1)&&decide ((s.size:Int)<=8)
theorem v0m(s:ByteArray)(k:Nat):∀j,k<=j->Be s j=true->Be s k=true:=by
 intro j c h
 induction j with
 | zero=>have:k=0:=by omega
         subst this; rfl
 | succ j a =>
   by_cases b:k=j+1
   ·subst b; exact h
   ·simp only[Be,ba] at h;exact a (by omega) h.1
def low26:List UInt8:=[97,98,99,100,101,102,103,104,105,106,107,108,109,110,111,112,113,114,115,116,117,118,119,120,121,122]
def low36:List UInt8:=[97,98,99,100,101,102,103,104,105,106,107,108,109,110,111,112,113,114,115,116,117,118,119,120,121,122,48,49,50,51,52,53,54,55,56,57]
theorem v0y:∀n:Fin 256,low26.contains (UInt8.ofNat n.val)=Bd (n.val:Int):=by decide +kernel
theorem v0w:∀n:Fin 256,low36.contains (UInt8.ofNat n.val)=(Bd (n.val:Int)||IZ (n.val:Int)):=by decide +kernel
theorem v0x(b:UInt8):low26.contains b=Bd (b.toNat:Int):=by
 have:=v0y ⟨b.toNat,b.toNat_lt⟩;simpa using this
theorem m0X(b:UInt8):low36.contains b=(Bd (b.toNat:Int)||IZ (b.toNat:Int)):=by
 have:=v0w ⟨b.toNat,b.toNat_lt⟩;simpa using this
theorem f0T(c:UInt8):∀l:List UInt8,decide (0<=Lib.indexByte l c)=l.contains c
 | []=>by simp[Lib.indexByte]
 | b :: l=>by
   have g:=f0T c l;have i:=Lib.indexByte_ge l c;unfold Lib.indexByte;by_cases d:b=c
   ·subst d; simp
   ·have a:¬c=b:=fun h=>d h.symm;have f:(b==c)=false:=by simpa using d
    rw[f,List.contains_cons,show(c==b)=false by simpa using a,<- g];by_cases e:Lib.indexByte l c = -1
    ·simp[e]
    ·have:(Lib.indexByte l c == -1)=false:=by simpa using e
     rw[this];simp only[Bool.false_eq_true,if_false,Bool.false_or];rw[Bool.eq_iff_iff]; simp only[dq]; omega
theorem f0Y{a:Type}(p:a->Bool):∀l:List a,l.dropWhile p=[]↔∀x∈l,p x=true
 | []=>by simp
 | x :: r=>by
   rw[List.dropWhile_cons];by_cases h:p x=true
   ·simp[h,f0Y p r]
   ·simp[h]
theorem f0K{b:Type}(p:b->Bool)(x:b):∀l:List b,x∈l.takeWhile p->p x=true
 | [],h=>by cases h
 | y :: r,h=>by
   rw[List.takeWhile_cons] at h;by_cases a:p y=true
   ·rw[if_pos a] at h;rcases List.mem_cons.1 h with rfl | h
    ·exact a
    ·exact f0K p x r h
   ·rw[if_neg a] at h; cases h
theorem u0h(l cs:List UInt8):Lib.trimS l cs=[]↔∀b∈l,cs.contains b=true:=by
 unfold Lib.trimS Lib.trimLeftS Lib.trimRightS;rw[f0Y];constructor
 ·intro h b a;have e:l=(l.reverse.dropWhile (cs.contains ·)).reverse++(l.reverse.takeWhile (cs.contains ·)).reverse:=by
   rw[<- List.reverse_append,List.takeWhile_append_dropWhile,List.reverse_reverse]
  rw[e] at a;rcases List.mem_append.1 a with a | a
  ·exact h b a
  ·have:=List.mem_reverse.1 a;exact f0K (cs.contains ·) b _ this
 ·intro h b a;exact h b (by have:=(List.dropWhile_sublist _).mem (List.mem_reverse.1 a); exact List.mem_reverse.1 this)
theorem q0x(s:ByteArray)(d:Bd (F3 s 0)=true):∀k,k<=s.size->(Be s k=true↔∀i,i<k->(Bd (F3 s i)||IZ (F3 s i))=true)
 | 0,_=>by simp[Be]
 | k+1,hk=>by
   have e:=q0x s d k (by omega);simp only[Be,ba,e];constructor
   ·rintro⟨g,a⟩ i hi;by_cases b:i=k
    ·subst b;unfold Fv at a;cases hl:Bd (F3 s i) with
     | true=>simp
     | false=>rw[hl] at a; simp only[Bool.false_or,ba] at a; simp[a.1]
    ·exact g i (by omega)
   ·intro h;refine⟨fun i hi=>h i (by omega),?_⟩;have:=h k (by omega);unfold Fv;by_cases c:k=0
    ·subst c; simp[d]
    ·have f:decide (0<k)=true:=by simp; omega
     rw[f]; simpa using this
theorem x0I(s:ByteArray):Lib.trimS s.data.toList low36=[]↔∀i,i<s.size->(Bd (F3 s i)||IZ (F3 s i))=true:=by
 rw[u0h];have c:s.data.toList.length=s.size:=by simp
 constructor
 ·intro h i hi;have a:i<s.data.toList.length:=by rw[c]; exact hi
  have:=h s.data.toList[i] (List.getElem_mem a);rw[m0X] at this;unfold F3;rw[gq,List.getElem?_eq_getElem a];exact this
 ·intro h b d;obtain⟨i,hi,rfl⟩:=List.getElem_of_mem d;have:=h i (by rw[<- c]; exact hi);unfold F3 at this;rw[gq,List.getElem?_eq_getElem hi] at this;rw[m0X]; exact this
theorem y0I(s:ByteArray)(d:1<=s.size)(e:s.size<=8):I4 s=((Lib.trimS s.data.toList low36==[])&&decide (0<=Lib.indexByte low26 (F3 s 0).toNat.toUInt8)):=by
 have b:(F3 s 0).toNat.toUInt8=s.data.toList.getD 0 0:=by unfold F3; simp
 rw[b,f0T,v0x];show I4 s=(_&&Bd (F3 s 0));have a:decide ((s.size:Int)≥1)=true:=by simp; omega
 have c:decide ((s.size:Int)<=8)=true:=by simp; omega
 unfold I4;rw[a,c,Bool.and_true,Bool.and_true];cases h0:Bd (F3 s 0) with
 | false =>
   rw[Bool.and_false];cases hn:Be s s.size with
   | false=>rfl
   | true =>
     have:=v0m s 1 s.size d hn;simp[Be,Fv,h0] at this
 | true =>
   rw[Bool.and_true,Bool.eq_iff_iff,q0x s h0 s.size (Nat.le_refl _),beq_iff_eq,x0I]
end Go.Proofs.Sv
end
section
namespace Go.Proofs.Xd
open Go Go.Proofs.Xv Go.Proofs.Xl
abbrev Dq:=List Int×List Int×List Int
abbrev D8:=Int×Int×Int×Int×List Dq×List Dq
abbrev N5:=ByteArray×Int×Int×Bool
abbrev D9:=ByteArray×Int×List Int
abbrev N6:=ByteArray×Int×Int
abbrev Vv:=List Int×List Int×List Int×List Int
def m0(x l h:Int):Bool:=decide (l<=x)&&decide (x<=h)
theorem y9{x l h:Int}:m0 x l h=true↔l<=x/\x<=h:=by simp[m0]
def Dr(xs:List Int):Bool:=!(List.range xs.length).any fun i=>decide (0<i)&&decide (xs.getD i 0<=xs.getD (i-1) 0)
def F7(xs:List Int):Bool:=decide (1<=xs.length)&&decide (xs.length<=4)&&xs.all (m0 · 0 100000)&&Dr xs
def C3(t:Dq):Bool:=F7 t.1&&F7 t.2.1&&decide (t.2.2.length=t.1.length*t.2.1.length)&&t.2.2.all (m0 · (-1000000) 1000000)
theorem CA{xs:List Int}(h:F7 xs=true):1<=xs.length/\xs.length<=4:=by
 simp only[F7,ba,dq] at h;exact⟨h.1.1.1,h.1.1.2⟩
theorem Ds{t:Dq}(h:C3 t=true):1<=t.1.length/\t.1.length<=4/\1<=t.2.1.length/\t.2.1.length<=4/\t.2.2.length=t.1.length*t.2.1.length/\1<=t.2.2.length/\t.2.2.length<=16:=by
 simp only[C3,ba,dq] at h;obtain⟨⟨⟨g,e⟩,f⟩,_⟩:=h;obtain⟨a,b⟩:=CA g;obtain⟨c,d⟩:=CA e;have i:1*1<=t.1.length*t.2.1.length:=Nat.mul_le_mul a c;have j:t.1.length*t.2.1.length<=4*4:=Nat.mul_le_mul b d;exact⟨a,b,c,d,f,by omega,by omega⟩
def Ax(xs:List Int):Int:=fN (fun i m=>min m (xs.getD (i+1) 0)) (xs.length-1) (xs.getD 0 0)
def C0(l:List Dq)(p:Bool):Bool:=decide (l.length=2)&&l.all fun t=>C3 t&&!(p&&decide (Ax t.2.2<0))
theorem Bf{b:Type}(l:List b)(p:b->Bool):(!l.any fun x=>!p x)=l.all p:=by
 induction l with
 | nil=>rfl
 | cons a r c=>simp only[List.any_cons,List.all_cons,Bool.not_or,Bool.not_not,c]
end Go.Proofs.Xd
end
section
namespace Go.Proofs.Xd
open Go Go.Proofs.Sv Go.Proofs.Xv Go.Proofs.Xl
theorem q0w(s:ByteArray):∀n,Be s n=!(List.range n).any fun i=>!Fv (F3 s i) i
 | 0=>rfl
 | n+1=>by
   rw[Be,q0w s n,List.range_succ,List.any_append,Bool.not_or];simp
def O7(f:Nat->ByteArray)(i:Nat):Bool:=(List.range i).any fun k=>decide (f k=f i)
def C8(n:Nat)(f:Nat->ByteArray):Bool:=!(List.range n).any fun i=>!I4 (f i)||O7 f i
theorem m0S{n:Nat}{f g:Nat->ByteArray}(h:∀i,i<n->f i=g i):C8 n f=C8 n g:=by
 unfold C8;congr 1;refine Mw fun i hi=>?_;rw[h i hi];congr 1;unfold O7;refine Mw fun k a=>?_;rw[h i hi,h k (by omega)]
theorem x0M(l:List ByteArray)(d:ByteArray)(i:Nat)(h:i<l.length):((l.take i).any fun y=>decide (l.getD i d=y))=O7 (fun k=>l.getD k d) i:=by
 have a:(l.take i).length=i:=by rw[List.length_take]; omega
 rw[<- T6 (l.take i) d (fun y=>decide (l.getD i d=y)),a];unfold O7;refine Mw fun k b=>?_;have:(l.take i).getD k d=l.getD k d:=by
  rw[gq,gq,List.getElem?_take_of_lt b]
 rw[this,decide_eq_decide];exact eq_comm
theorem v0O{a b:Type}(f:a->b)(l:List a)(i:Nat)(d:a)(e:b)(h:i<l.length):(l.map f).getD i e=f (l.getD i d):=by
 rw[gq,gq,List.getElem?_map,List.getElem?_eq_getElem h]; rfl
theorem u0R{a b:Type}(l:List a)(d:a)(f:a->b):(List.range l.length).map (fun i=>f (l.getD i d))=l.map f:=by
 apply List.ext_getElem?;intro i;rw[List.getElem?_map,List.getElem?_map];by_cases h:i<l.length
 ·rw[List.getElem?_range h,List.getElem?_eq_getElem h];show some (f (l.getD i d))=some (f l[i]);rw[gq,List.getElem?_eq_getElem h]; rfl
 ·rw[List.getElem?_eq_none (by simpa using h),List.getElem?_eq_none (by omega)]; rfl
def Bg(n:Nat)(q:N5)(i:Nat):Bool:=m0 q.2.2.1 0 500&&(if i+1=n then q.2.1==2&&q.2.2.1==0&&!q.2.2.2 else q.2.1==1)
def Ay(n:Nat)(p:Nat->N5):Bool:=decide (2<=n)&&decide (n<=5)&&C8 n (fun i=>(p i).1)&&!(List.range n).any fun i=>!Bg n (p i) i
def I5(n:Nat)(p:Nat->N5):Int:=fN (fun i s=>if(p i).2.2.2=true then s+1 else s) n 0
def Fw(n:Nat)(p:Nat->N5):Int:=match(List.range n).find? (fun i=>(p i).2.2.2) with | some i=>(i:Int) | none => -1
def Ja(a:Nat->D8)(i:Nat):Bool:=(List.range i).any fun k=>(a k).1==(a i).1&&(a k).2.1==(a i).2.1&&(a k).2.2.1==(a i).2.2.1
def F2(n:Nat)(p:Nat->N5)(a:D8):Bool :=
 m0 a.2.1 0 ((n:Int)-1-1)&&m0 a.2.2.1 0 ((n:Int)-1) &&
 if a.1=1 then !(p a.2.1.toNat).2.2.2&&a.2.2.1==(n:Int)-1&&m0 a.2.2.2.1 1 3&&C0 a.2.2.2.2.1 true&&C0 a.2.2.2.2.2 true
 else if a.1=2∨a.1=3 then(p a.2.1.toNat).2.2.2&&a.2.2.1==(n:Int)-1&&a.2.2.2.1==0&&C0 a.2.2.2.2.1 true&&C0 a.2.2.2.2.2 true
 else if a.1=4∨a.1=5 then(p a.2.1.toNat).2.2.2&&decide (a.2.2.1 < (n:Int)-1)&&!(p a.2.2.1.toNat).2.2.2&&a.2.2.2.1==0&&C0 a.2.2.2.2.1 false&&(a.2.2.2.2.2.length:Int)==0
 else false
def Dt(n:Nat)(p:Nat->N5)(a:D8):Bool :=
 if a.1=4∨a.1=5 then a.2.2.2.1==0&&(a.2.2.2.2.2.length:Int)==0&&C0 a.2.2.2.2.1 false&&a.2.1==Fw n p&&decide (0<=a.2.1)&&m0 a.2.2.1 0 ((n:Int)-1-1)&&a.2.2.1 != a.2.1
 else C0 a.2.2.2.2.1 true&&C0 a.2.2.2.2.2 true&&a.2.2.1==(n:Int)-1&&m0 a.2.1 0 ((n:Int)-1-1) &&
  if a.1=1 then !(p a.2.1.toNat).2.2.2&&m0 a.2.2.2.1 1 3
  else if a.1=2∨a.1=3 then(p a.2.1.toNat).2.2.2&&a.2.2.2.1==0
  else false
theorem w0o(p:Nat->N5):∀n,0<=I5 n p/\I5 n p<=n
 | 0=>⟨Int.le_refl _,Int.le_refl _⟩
 | n+1=>by
   have:=w0o p n
   grind[I5,fN]
theorem r0c{p:Nat->N5}:∀{n i:Nat},i<n->(p i).2.2.2=true->1<=I5 n p
 | n+1,i,hi,h=>by
   have b:=(w0o p n).1;have c:i<n->1<=I5 n p:=fun a=>r0c a h;unfold I5 at *
   rw[fN]
   grind
theorem r0b{p:Nat->N5}:∀{n i j:Nat},i<j->j<n->(p i).2.2.2=true->(p j).2.2.2=true->2<=I5 n p
 | n+1,i,j,hij,hj,h,k=>by
   have b:j<n->2<=I5 n p:=fun a=>r0b hij a h k;have c:i<n->1<=I5 n p:=fun a=>r0c a h;unfold I5 at *
   rw[fN]
   grind
theorem E0E{p:Nat->N5}{n i:Nat}(d:I5 n p<=1)(hi:i<n):(p i).2.2.2=decide (Fw n p=(i:Int)):=by
 unfold Fw;cases h:(List.range n).find? (fun i=>(p i).2.2.2) with
 | none =>
   grind
 | some j =>
   have c:=List.find?_some h;have f:=List.mem_range.1 (List.mem_of_find?_eq_some h);show _=decide ((j:Int)=(i:Int));by_cases e:j=i
   ·grind
   ·rw[decide_eq_false (by omega),<- Bool.not_eq_true];intro b;rcases Nat.lt_or_gt_of_ne e with a | a
    ·have:=r0b (p:=p) a hi c b; omega
    simp_all
theorem E0D{p:Nat->N5}{n:Nat}:Fw n p<n:=by
 grind[Fw,List.range,List.mem_of_find?_eq_some]
theorem Jb{p:Nat->N5}{n:Nat}(h:Ay n p=true):2<=n/\n<=5/\(p (n-1)).2.2.2=false:=by
 grind[Ay,Bg]
theorem Vw{p:Nat->N5}{n:Nat}(h:Ay n p=true)(k:I5 n p<=1)(a:D8):Dt n p a=F2 n p a:=by
 obtain⟨t,s,l⟩:=Jb h;obtain⟨c,o,v,q,de,r⟩:=a;rw[Bool.eq_iff_iff];unfold Dt F2;dsimp only;have g:∀x:Int,0<=x->x<=(n:Int)-1->(p x.toNat).2.2.2=decide (Fw n p=x):=fun x m u=>by
  rw[E0E k (by omega)];rw[decide_eq_decide]; omega
 have f:Fw n p≠(n:Int)-1:=fun e=>by
  have:=g ((n:Int)-1) (by omega) (by omega);have j:((n:Int)-1).toNat=n-1:=by omega
  rw[j,l,decide_eq_true e] at this;cases this
 have i:=E0D (p:=p) (n:=n);by_cases Cq:c=4∨c=5
 ·rw[if_pos Cq,if_neg (by omega),if_neg (by omega),if_pos Cq];simp only[ba,y9,dq,beq_iff_eq,bne_iff_ne,Bool.not_eq_true']
  grind
 ·rw[if_neg Cq];by_cases d:c=1
  ·rw[if_pos d,if_pos d];simp only[ba,y9,beq_iff_eq]
   grind
  ·rw[if_neg d,if_neg d];by_cases b:c=2∨c=3
   ·rw[if_pos b,if_pos b];simp only[ba,y9,beq_iff_eq]
    grind
   grind
def C9(m:Nat)(a:Nat->D8)(k:Int):Bool:=(List.range m).any fun i=>(a i).1==k
def Jc(k:Int)(n:Nat)(p:Nat->N5)(m:Nat)(a:Nat->D8)(tr:List Int):Bool :=
 if k=1 then I5 n p==0&&(tr.length:Int)==1*2 ^ (n-1)&&tr.all (m0 · 0 1)
 else if k=2 then I5 n p==1&&(tr.length:Int)==0&&!C9 m a 1&&!(C9 m a 2==C9 m a 3)
 else if k=3 then I5 n p==1&&(tr.length:Int)==0&&C9 m a 1&&C9 m a 2&&!C9 m a 3
 else false
theorem y0U{k:Int}{n:Nat}{p:Nat->N5}{m:Nat}{a:Nat->D8}{tr:List Int}(h:Jc k n p m a tr=true):I5 n p<=1:=by
 grind[Jc]
def GZ(q:D8->Bool)(m:Nat)(a:Nat->D8):Bool:=decide (m<=8)&&!(List.range m).any fun i=>!q (a i)||Ja a i
def T7(q:Nat->(Nat->N5)->D8->Bool)(nm:ByteArray)(k:Int)(n:Nat)(p:Nat->N5)(m:Nat)(a:Nat->D8)(tr:List Int)(lk en:Int):Bool :=
 I4 nm&&Ay n p&&GZ (q n p) m a&&m0 lk 0 100000&&m0 en 0 100000&&Jc k n p m a tr
theorem E0G(nm:ByteArray)(k:Int)(n:Nat)(p:Nat->N5)(m:Nat)(a:Nat->D8)(tr:List Int)(lk b:Int):T7 Dt nm k n p m a tr lk b=T7 F2 nm k n p m a tr lk b:=by
 unfold T7;cases hp:Ay n p with
 | false=>simp
 | true =>
   cases hk:Jc k n p m a tr with
   | false=>simp
   | true =>
     have:Dt n p=F2 n p:=funext fun x=>Vw hp (y0U hk) x;rw[this]
theorem u0j{a:Type}(l:List a)(d:a)(q:a->Bool)(i:Nat)(h:i<=l.length):(l.take i).any q=(List.range i).any fun k=>q (l.getD k d):=by
 have c:(l.take i).length=i:=by rw[List.length_take]; omega
 rw[<- T6 (l.take i) d q,c];refine Mw fun k b=>?_;rw[gq,gq,List.getElem?_take_of_lt b]
theorem n0I{n:Nat}{p:Nat->N5}{a:D8}(h:F2 n p a=true):1<=a.1/\a.1<=5:=by
 grind[F2]
theorem B0H{n:Nat}(h:n<=5) : -9223372036854775808<=(1:Int)*2 ^ (n-1)/\(1:Int)*2 ^ (n-1)<=9223372036854775807:=by
 have:∀k:Fin 6,-9223372036854775808<=(1:Int)*2 ^ (k.val-1)/\(1:Int)*2 ^ (k.val-1)<=9223372036854775807:=by decide
 exact this ⟨n,by omega⟩
def Ha(a:Nat->D8)(k:Int)(m:Nat):Int:=fN (fun i s=>if(a i).1=k then s+1 else s) m 0
theorem Mx(a:Nat->D8)(k:Int):∀m,0<=Ha a k m/\Ha a k m<=m
 | 0=>⟨Int.le_refl _,Int.le_refl _⟩
 | m+1=>by
   have:=Mx a k m
   grind[Ha,fN]
theorem Jd(a:Nat->D8)(k:Int):∀m,C9 m a k=decide (0<Ha a k m)
 | 0=>rfl
 | m+1=>by
   have c:=Jd a k m;have b:=(Mx a k m).1
   grind[C9,Ha,fN]
def Hb(a:Nat->D8)(i:Nat)(v:List Int):List Int:=v.set (a i).1.toNat (v.getD (a i).1.toNat 0+1)
theorem Vx(a:Nat->D8):∀m,(∀i,i<m->1<=(a i).1/\(a i).1<=5)->(fN (Hb a) m (List.replicate 6 0)).length=6/\∀k:Nat,k<6->(fN (Hb a) m (List.replicate 6 0)).getD k 0=Ha a k m
 | 0,_=>⟨by simp[fN],fun k b=>by
   have:∀k:Fin 6,(List.replicate 6 (0:Int)).getD k.val 0=0:=by decide
   exact this ⟨k,b⟩⟩
 | m+1,h=>by
   obtain⟨c,d⟩:=Vx a m (fun i hi=>h i (by omega))
   grind[fN,Hb,Ha]
def BK(v:List Int)(x:Int):List Int:=v.set x.toNat (v.getD x.toNat 0+1)
def Ad(v:List Int)(n b:Nat):Prop:=v.length=n/\∀k:Nat,0<=v.getD k 0/\v.getD k 0<=(b:Int)
theorem Qs(n b:Nat):Ad (List.replicate n 0) n b:=by
 refine⟨List.length_replicate,fun k=>?_⟩;rw[gq,List.getElem?_replicate];split <;> (show(0:Int)<=0/\(0:Int)<=b; omega)
theorem Je{v:List Int}{n b:Nat}(h:Ad v n b)(x:Int):Ad (BK v x) n (b+1):=by
 refine⟨by unfold BK; rw[List.length_set]; exact h.1,fun k=>?_⟩;have a:=h.2 x.toNat;have c:=h.2 k;unfold BK;rw[gq,List.getElem?_set];by_cases e:x.toNat=k
 ·rw[if_pos e];split
  ·rw[Option.getD_some]; omega
  ·show(0:Int)<=0/\(0:Int)<=_; omega
 ·rw[if_neg e,<- gq]; omega
theorem Vy{v:List Int}{n b a:Nat}(h:Ad v n b)(c:b<=a):Ad v n a:=⟨h.1,fun k=>by have:=h.2 k; omega⟩
theorem y0M{v:List Int}{n b:Nat}(h:Ad v n b){x:Int}(a:m0 x 0 ((n:Int)-1)=true):ix x v.length/\x.toNat<v.length:=by
 rw[y9] at a;rw[ix,h.1];omega
def CB(n:Nat)(ok:Nat->Bool)(nm:Nat->ByteArray):Bool:=!((List.range n).any fun i=>!ok i||O7 nm i)&&decide (n<=8)
theorem I0j{n:Nat}{a:Nat->Bool}{nm:Nat->ByteArray}(h:∀i,i<n->a i=true->I4 (nm i)=true):(if((List.range n).any fun i=>!a i)=true then false else decide (n<=8)&&C8 n nm)=CB n a nm:=by
 unfold CB C8;have e:((List.range n).any fun i=>!a i||O7 nm i)=(((List.range n).any fun i=>!a i)||(List.range n).any fun i=>O7 nm i):=Qt _ _;rw[e];cases ha:(List.range n).any fun i=>!a i with
 | true=>rfl
 | false =>
   have b:=(BL (n:=n) (c:=fun i=>!a i)).1 (by rw[ha]; rfl);have:((List.range n).any fun i=>!I4 (nm i)||O7 nm i)=(List.range n).any fun i=>O7 nm i:=Mw fun i hi=>by
    have:=b i hi;rw[Bool.not_eq_false'] at this;rw[h i hi this]; rfl
   rw[this,if_neg (by simp),Bool.false_or,Bool.and_comm]
def R3(nc:Nat)(pins:Int->Nat)(nn:Nat)(x:D9):Bool:=m0 x.2.1 0 ((nc:Int)-1)&&(x.2.2.length:Int)==(pins x.2.1:Int)&&x.2.2.all fun y=>m0 y 0 ((nn:Int)-1)
def R4(nn:Nat)(x:N6):Bool:=m0 x.2.1 1 2&&m0 x.2.2 0 ((nn:Int)-1)
def T9(x:Nat->D9)(i:Nat)(v:List Int):List Int:=BK v ((x i).2.2.getD ((x i).2.2.length-1) 0)
def M5(x:Nat->N6)(i:Nat)(v:List Int):List Int:=if(x i).2.1=1 then BK v (x i).2.2 else v
def Fx(ni np nn:Nat)(x:Nat->D9)(y:Nat->N6):List Int:=fN (M5 y) np (fN (T9 x) ni (List.replicate nn 0))
theorem Vz(x:Nat->D9)(a:Nat):∀i,Ad (fN (T9 x) i (List.replicate a 0)) a i
 | 0=>Qs a 0
 | i+1=>Je (Vz x a i) _
def CC(lib:Bool)(nc:Nat)(pins:Int->Nat)(ni np nn:Nat)(x:Nat->D9)(y:Nat->N6)(nets:Nat->ByteArray):Bool :=
 lib&&decide (ni<=14)&&decide (nn<=30)&&decide (np<=8)&&C8 ni (fun i=>(x i).1)&&C8 nn nets&&C8 np (fun i=>(y i).1) &&
  !((List.range ni).any fun i=>!R3 nc pins nn (x i))&&!((List.range np).any fun i=>!R4 nn (y i))&&(Fx ni np nn x y).all (·==1)
def Ae(w:Vv)(n:Int):Bool :=
 decide (1<=w.1.length)&&decide (w.1.length<=8)&&decide (w.2.1.length=w.1.length)&&decide (w.2.2.1.length=w.1.length)&&(w.2.2.2.length:Int)==n &&
  w.2.1.all (m0 · 0 1000)&&w.2.2.1.all (m0 · 0 500)&&w.2.2.2.all (m0 · 0 ((w.1.length:Int)-1)) &&
  !(List.range w.1.length).any fun i=>(i==0&&(w.1.getD i 0 != -1||w.2.1.getD 0 0 != 0))||(decide (0<i)&&!m0 (w.1.getD i 0) 0 ((i:Int)-1))
abbrev A9:=Int×Int×Int×Bool
def U0(x:D9)(i:Int)(k:Nat)(s:List A9):List A9:=s++[(i,(k:Int),x.2.2.getD k 0,(k:Int)==(x.2.2.length:Int)-1)]
def P4(y:Nat->N6)(i:Nat)(s:List A9):List A9:=s++[(-1,(i:Int),(y i).2.2,(y i).2.1==1)]
def O8(x:Nat->D9)(i:Nat)(s:List A9):List A9:=fN (U0 (x i) i) (x i).2.2.length s
def L9(ni np:Nat)(x:Nat->D9)(y:Nat->N6):List A9:=fN (P4 y) np (fN (O8 x) ni [])
theorem Hc(x:D9)(i:Int)(s:List A9):∀k,(fN (U0 x i) k s).length=s.length+k
 | 0=>rfl
 | k+1=>by
   rw[fN,U0,List.length_append,Hc x i s k]; rfl
theorem My(y:Nat->N6)(s:List A9):∀k,(fN (P4 y) k s).length=s.length+k
 | 0=>rfl
 | k+1=>by
   rw[fN,P4,List.length_append,My y s k]; rfl
def Du(pl:Nat->A9)(i:Nat)(v:List Int):List Int:=if(pl i).2.2.2=false then BK v (pl i).2.2.1 else v
def U3(pl:Nat->A9)(t:Int)(m:Nat):Int:=fN (fun i s=>if((pl i).2.2.1==t&&!(pl i).2.2.2)=true then s+1 else s) m 0
theorem w0l(pl:Nat->A9)(t:Int):∀m,0<=U3 pl t m/\U3 pl t m<=m
 | 0=>⟨Int.le_refl _,Int.le_refl _⟩
 | m+1=>by
   have:=w0l pl t m;unfold U3 at *
   rw[fN];split <;> omega
theorem m0u(pl:Nat->A9)(n:Nat):∀m,(∀i,i<m->m0 (pl i).2.2.1 0 ((n:Int)-1)=true)->(fN (Du pl) m (List.replicate n 0)).length=n/\∀k:Nat,k<n->(fN (Du pl) m (List.replicate n 0)).getD k 0=U3 pl k m
 | 0,_=>⟨by simp[fN],fun k b=>by
   show(List.replicate n (0:Int)).getD k 0=0;rw[gq,List.getElem?_replicate,if_pos b]; rfl⟩
 | m+1,h=>by
   obtain⟨d,c⟩:=m0u pl n m (fun i hi=>h i (by omega));have f:=y9.1 (h m (by omega));rw[fN];generalize fN (Du pl) m (List.replicate n 0)=v at *
   unfold Du;have e:∀k:Nat,U3 pl k (m+1)=if((pl m).2.2.1==(k:Int)&&!(pl m).2.2.2)=true then U3 pl k m+1 else U3 pl k m:=fun k=>by unfold U3; rw[fN]
   cases hd:(pl m).2.2.2 with
   | true =>
     refine⟨by rw[if_neg (by simp)]; exact d,fun k b=>?_⟩;rw[if_neg (by simp),c k b,e,hd,if_neg (by simp)]
   | false =>
     rw[if_pos rfl];unfold BK;refine⟨by rw[List.length_set]; exact d,fun k b=>?_⟩;rw[e,hd,gq,List.getElem?_set];by_cases a:(pl m).2.2.1.toNat=k
     ·rw[if_pos a,if_pos (by rw[d]; omega),if_pos (by simp; omega),Option.getD_some,a,c k b]
     ·rw[if_neg a,if_neg (by simp; omega),<- gq,c k b]
def N7(pl:Nat->A9)(t:Int)(i:Nat)(s:List Int):List Int:=if((pl i).2.2.1==t&&!(pl i).2.2.2)=true then s++[(i:Int)] else s
theorem Mz(pl:Nat->A9)(t:Int):∀m,((fN (N7 pl t) m []).length:Int)=U3 pl t m
 | 0=>rfl
 | m+1=>by
   have:=Mz pl t m;rw[fN];unfold U3 at *
   rw[fN];unfold N7 at *
   split
   ·rw[List.length_append];show((_+1:Nat):Int)=_;omega
   ·exact this
def Jf(n:Nat)(s:List A9):Prop:=∀p∈s,m0 p.2.2.1 0 ((n:Int)-1)=true
theorem q0I{n:Nat}{x:D9}{i:Int}(b:∀k,k<x.2.2.length->m0 (x.2.2.getD k 0) 0 ((n:Int)-1)=true){s:List A9}(a:Jf n s):∀k,k<=x.2.2.length->Jf n (fN (U0 x i) k s)
 | 0,_=>a
 | k+1,hk=>by
   rw[fN,U0];intro p c;rcases List.mem_append.1 c with h | h
   ·exact q0I b a k (by omega) p h
   ·cases List.mem_singleton.1 h;exact b k (by omega)
theorem k0f{n:Nat}{x:Nat->D9}{ni:Nat}(a:∀i,i<ni->∀k,k < (x i).2.2.length->m0 ((x i).2.2.getD k 0) 0 ((n:Int)-1)=true):∀i,i<=ni->Jf n (fN (O8 x) i [])
 | 0,_=>fun p b=>by cases b
 | i+1,hi=>by
   rw[fN,O8];exact q0I (a i (by omega)) (k0f a i (by omega)) _ (Nat.le_refl _)
theorem q0g{n:Nat}{y:Nat->N6}{np:Nat}(b:∀i,i<np->m0 (y i).2.2 0 ((n:Int)-1)=true){s:List A9}(a:Jf n s):∀k,k<=np->Jf n (fN (P4 y) k s)
 | 0,_=>a
 | k+1,hk=>by
   rw[fN,P4];intro p c;rcases List.mem_append.1 c with h | h
   ·exact q0g b a k (by omega) p h
   ·cases List.mem_singleton.1 h;exact b k (by omega)
theorem Qu{x:Nat->D9}{ni:Nat}(a:∀i,i<ni->(x i).2.2.length<=5):∀i,i<=ni->(fN (O8 x) i []).length<=5*i
 | 0,_=>Nat.le_refl _
 | i+1,hi=>by
   rw[fN,O8,Hc];have:=Qu a i (by omega);have:=a i (by omega);omega
theorem F0{a:Type}{l:List a}{i:Nat}{d:a}(h:i<l.length):l.getD i d∈l:=by
 rw[gq,List.getElem?_eq_getElem h];exact List.getElem_mem h
theorem Jg{l:List Int}{p:Int->Bool}(h:l.all p=true){i:Nat}(hi:i<l.length):p (l.getD i 0)=true:=List.all_eq_true.1 h _ (F0 hi)
structure DesignFacts(nc:Nat)(pins:Int->Nat)(ni np nn:Nat)(x:Nat->D9)(y:Nat->N6):Prop where
 ni14:ni<=14
 np8:np<=8
 nn30:nn<=30
 inst:∀i,i<ni->R3 nc pins nn (x i)=true
 port:∀i,i<np->R4 nn (y i)=true
theorem n0w{b:Bool}{c:Nat}{pins:Int->Nat}{ni np d:Nat}{x:Nat->D9}{y:Nat->N6}{a:Nat->ByteArray}(h:CC b c pins ni np d x y a=true):b=true/\DesignFacts c pins ni np d x y:=by
 unfold CC at h;simp only[ba,dq] at h;obtain⟨⟨⟨⟨⟨⟨⟨⟨⟨e,g⟩,l⟩,k⟩,_⟩,_⟩,_⟩,f⟩,j⟩,_⟩:=h;refine⟨e,g,k,l,fun i hi=>?_,fun i hi=>?_⟩
 ·have:=BL.1 f i hi
  rwa [Bool.not_eq_false'] at this
 ·have:=BL.1 j i hi
  rwa [Bool.not_eq_false'] at this
theorem DesignFacts.net{b:Nat}{pins:Int->Nat}{ni np a:Nat}{x:Nat->D9}{y:Nat->N6}(h:DesignFacts b pins ni np a x y):(∀i,i<ni->∀k,k < (x i).2.2.length->m0 ((x i).2.2.getD k 0) 0 ((a:Int)-1)=true)/\∀i,i<np->m0 (y i).2.2 0 ((a:Int)-1)=true:=by
 refine⟨fun i hi k c=>?_,fun i hi=>?_⟩
 ·have:=h.inst i hi;unfold R3 at this;rw[ba] at this;exact Jg (p:=fun y=>m0 y 0 ((a:Int)-1)) this.2 c
 ·have:=h.port i hi;unfold R4 at this;rw[ba] at this;exact this.2
end Go.Proofs.Xd
end
section
namespace Go.Proofs.Xd
open Go Go.Proofs Go.Proofs.Xl
def Fy(v:List Int)(i:Nat)(x:Int):List Int:=v.set i (v.getD i 0+x)
theorem n0N{v:List Int}{i:Nat}{x:Int}:(Fy v i x).length=v.length:=by grind[Fy]
theorem Qv{v:List Int}{i j:Nat}{x:Int}(hi:i<v.length):(Fy v i x).getD j 0=if j=i then v.getD i 0+x else v.getD j 0:=by
 grind[Fy]
def Af(v:List Int)(k:Nat):Int:=fN (fun i s=>s+v.getD i 0) k 0
theorem Jh(v:List Int)(k:Nat):Af v (k+1)=Af v k+v.getD k 0:=rfl
theorem VA{v:List Int}{i:Nat}{x:Int}(hi:i<v.length):∀k,Af (Fy v i x) k=Af v k+if i<k then x else 0
 | 0=>by simp[Af,fN]
 | k+1=>by
   rw[Jh,Jh,VA hi k,Qv hi];by_cases h:k=i
   ·subst h; simp; omega
   ·rw[if_neg h];by_cases a:i<k
    ·rw[if_pos a,if_pos (by omega)]; omega
    ·rw[if_neg a,if_neg (by omega)]; omega
theorem m0m{v:List Int}(a:∀j,0<=v.getD j 0):∀k,0<=Af v k
 | 0=>by simp[Af,fN]
 | k+1=>by have:=m0m a k; grind[Jh]
theorem VB{v:List Int}(a:∀j,0<=v.getD j 0):∀{k j:Nat},j<k->v.getD j 0<=Af v k
 | k+1,j,h=>by
   rw[Jh];have b:=m0m a k;have c:=a k;by_cases e:j=k
   ·grind
   ·have:=VB a (k:=k) (j:=j) (by omega); omega
structure Low(v:List Int)(n:Nat)(S:Int):Prop where
 len:v.length=n
 pos:∀j,0<=v.getD j 0
 sum:Af v n<=S
theorem p0L{v:List Int}{c:Int}(a:∀j,v.getD j 0<=c):∀k:Nat,Af v k<=c*(k:Int)
 | 0=>by simp[Af,fN]
 | k+1=>by
   have:=p0L a k
   grind[Jh,Int.natCast_add,Int.mul_add]
theorem D0U{v:List Int}{n:Nat}(b:v.length=n)(h:v.all (m0 · 0 500)=true):Low v n (500*(n:Int)):=by
 have a:∀j,0<=v.getD j 0/\v.getD j 0<=500:=fun j=>by
  grind[Nat.lt_or_ge,y9,Jg,m0,List.getElem?_eq_none]
 exact⟨b,fun j=>(a j).1,p0L (fun j=>(a j).2) n⟩
theorem Low.bd{v:List Int}{n:Nat}{S:Int}(h:Low v n S)(b:0<=S)(j:Nat):0<=v.getD j 0/\v.getD j 0<=S:=by
 refine⟨h.pos j,?_⟩;rcases Nat.lt_or_ge j n with a | a
 ·exact Int.le_trans (VB h.pos a) h.sum
 ·rw[gq,List.getElem?_eq_none (by rw[h.len]; exact a)]; exact b
theorem Low.add{v:List Int}{n:Nat}{S:Int}(h:Low v n S){i:Nat}(hi:i<n){x:Int}(b:0<=x):Low (Fy v i x) n (S+x):=by
 have a:i<v.length:=by rw[h.len]; exact hi
 refine⟨by rw[n0N]; exact h.len,fun j=>?_,?_⟩
 ·rw[Qv a];have:=h.pos i;have:=h.pos j;omega
 ·rw[VA a,if_pos hi]; have:=h.sum; omega
def BM(s c:Nat->Int)(i:Nat)(v:List Int):List Int:=Fy v (s i).toNat (c i)
theorem r0f{s c:Nat->Int}{v:List Int}{n:Nat}{S:Int}(h:Low v n S):∀m,(∀i,i<m->0<=s i/\(s i).toNat<n/\0<=c i/\c i<=500)->Low (fN (BM s c) m v) n (S+500*(m:Int))
 | 0,_=>⟨h.len,h.pos,by have:=h.sum; show Af v n<=_; omega⟩
 | m+1,hm=>by
   have a:=r0f h m (fun i hi=>hm i (by omega));obtain⟨f,b,d,e⟩:=hm m (by omega);have:=a.add b d;refine⟨this.len,this.pos,?_⟩;have:=this.sum;rw[Int.natCast_add,Int.mul_add];refine Int.le_trans this ?_;omega
def V8(P:Nat->Int)(n k:Nat)(v:List Int):List Int:=Fy v (P (n-1-k)).toNat (v.getD (n-1-k) 0)
structure Ji(v:List Int)(n k:Nat)(S:Int):Prop where
 len:v.length=n
 pos:∀j,0<=v.getD j 0
 bd:∀j,v.getD j 0<=S
 sum:Af v (n-k)<=S
theorem VC{P:Nat->Int}{v:List Int}{n k:Nat}{S:Int}(h:Ji v n k S)(_:k<n-1)(f:0<=P (n-1-k)/\(P (n-1-k)).toNat<n-1-k):Ji (V8 P n k v) n (k+1) S:=by
 have b:(P (n-1-k)).toNat<v.length:=by rw[h.len]; omega
 have a:∀j,0<=(V8 P n k v).getD j 0:=fun j=>by
  unfold V8;rw[Qv b];have:=h.pos (P (n-1-k)).toNat;have:=h.pos (n-1-k);have:=h.pos j;omega
 have d:Af (V8 P n k v) (n-(k+1))<=S:=by
  unfold V8;have e:n-(k+1)=n-1-k:=by omega
  rw[VA b,e,if_pos f.2];have:=h.sum;rw[show n-k=(n-1-k)+1 by omega,Jh] at this;exact this
 refine⟨by unfold V8; rw[n0N]; exact h.len,a,fun j=>?_,d⟩;by_cases e:j=(P (n-1-k)).toNat
 ·have c:j<n-(k+1):=by omega
  exact Int.le_trans (VB a c) d
 ·unfold V8;rw[Qv b,if_neg e];exact h.bd j
theorem m0D{P:Nat->Int}{v:List Int}{n:Nat}{S:Int}(h:Low v n S)(a:0<=S)(b:∀i,0<i->i<n->0<=P i/\(P i).toNat<i):∀k,k<=n-1->Ji (fN (V8 P n) k v) n k S
 | 0,_=>⟨h.len,h.pos,fun j=>(h.bd a j).2,h.sum⟩
 | k+1,hk=>VC (m0D h a b k (by omega)) (by omega) (b _ (by omega) (by omega))
def I0h(cap:List Int)(n m:Nat)(s c P:Nat->Int):List Int:=fN (V8 P n) (n-1) (fN (BM s c) m cap)
theorem Jj{a:Type}{l r:List a}{d:a}{i:Nat}(h:i<l.length):(l++r).getD i d=l.getD i d:=by
 grind
theorem VD{a:Type}{l r:List a}{d:a}{i:Nat}(h:l.length<=i):(l++r).getD i d=r.getD (i-l.length) d:=by
 grind
def R5(P R L:Nat->Int)(k:Nat)(s:List Int):List Int:=s++[s.getD (P (k+1)).toNat 0+R (k+1)*L (k+1)]
def E0w(n:Nat)(P R L:Nat->Int):List Int:=fN (R5 P R L) (n-1) [0]
theorem MA{a b A B:Int}(d:0<=a)(e:a<=A)(c:0<=b)(f:b<=B):0<=a*b/\a*b<=A*B :=
 ⟨Int.mul_nonneg d c,Int.mul_le_mul e f c (Int.le_trans d e)⟩
theorem w0f{P R L:Nat->Int}{n:Nat}{S:Int}(b:∀i,i<n->0<=R i/\R i<=1000)(a:∀i,i<n->0<=L i/\L i<=S)(g:0<=S):∀k,k<=n-1->(fN (R5 P R L) k [0]).length=k+1/\∀j,0<=(fN (R5 P R L) k [0]).getD j 0/\(fN (R5 P R L) k [0]).getD j 0<=1000*S*(k:Int)
 | 0,_=>⟨rfl,fun j=>by
   grind[fN]⟩
 | k+1,hk=>by
   obtain⟨h,d⟩:=w0f b a g k (by omega);have l:=MA (b (k+1) (by omega)).1 (b (k+1) (by omega)).2 (a (k+1) (by omega)).1 (a (k+1) (by omega)).2;have c:0<=1000*S*(k:Int):=Int.mul_nonneg (by omega) (by omega);have e:1000*S*((k+1:Nat):Int)=1000*S*(k:Int)+1000*S:=by rw[Int.natCast_add,Int.mul_add]; simp
   have f:fN (R5 P R L) (k+1) [0]=R5 P R L k (fN (R5 P R L) k [0]):=rfl;rw[f];generalize fN (R5 P R L) k [0]=s at h d
   grind[R5,List.length_append,Nat.lt_or_ge,Jj,VD,List.getD_cons_zero,List.getD_cons_succ,List.getD_nil]
theorem z0y{s:List Int}{k n:Nat}{x:Int}(a:s.length=k+1)(b:k+1<n):(s++List.replicate (n-1-k) 0).set (k+1) x=(s++[x])++List.replicate (n-1-(k+1)) 0:=by
 have e:n-1-k=(n-1-(k+1))+1:=by omega
 rw[e,List.replicate_succ,List.set_append_right _ _ (by omega),a,Nat.sub_self,List.set_cons_zero,List.append_assoc];rfl
theorem z0z{s:List Int}{k n p:Nat}(a:s.length=k+1)(b:p<k+1):(s++List.replicate (n-1-k) 0).getD p 0=s.getD p 0:=Jj (by omega)
def Hd(D:List Int)(S:Nat->Int)(i:Nat)(s:List Int):List Int:=s++[D.getD (S i).toNat 0]
theorem VE(D:List Int)(S:Nat->Int):∀i,(fN (Hd D S) i []).length=i
 | 0=>rfl
 | i+1=>by
   have:=VE D S i
   grind[Hd,fN,List.length_append]
theorem v0X(D:List Int)(S:Nat->Int):∀n i,i<n->(fN (Hd D S) n []).getD i 0=D.getD (S i).toNat 0
 | n+1,i,h=>by
   have b:=VE D S n;have a:=v0X D S n i
   grind[Hd,fN]
def Jk(ni np:Nat)(x:Nat->D9)(p:A9):Prop:=(p.1 = -1/\0<=p.2.1/\p.2.1.toNat<np)∨(0<=p.1/\p.1.toNat<ni/\0<=p.2.1/\p.2.1.toNat < (x p.1.toNat).2.2.length)
theorem k0p{ni np:Nat}{x:Nat->D9}{i:Nat}(hi:i<ni){s:List A9}(b:∀p∈s,Jk ni np x p):∀k,k<=(x i).2.2.length->∀p∈fN (U0 (x i) i) k s,Jk ni np x p
 | 0,_=>b
 | k+1,hk=>fun p a=>by
   have a:p∈U0 (x i) i k (fN (U0 (x i) i) k s):=a;unfold U0 at a;rcases List.mem_append.1 a with a | a
   ·exact k0p hi b k (by omega) p a
   ·cases List.mem_singleton.1 a;exact .inr ⟨Int.natCast_nonneg _,by omega,Int.natCast_nonneg _,by grind⟩
theorem g0Q{ni np:Nat}{x:Nat->D9}:∀i,i<=ni->∀p∈fN (O8 x) i [],Jk ni np x p
 | 0,_=>fun p a=>by cases a
 | i+1,hi=>k0p (by omega) (g0Q i (by omega)) _ (Nat.le_refl _)
theorem k0e{ni np:Nat}{x:Nat->D9}{y:Nat->N6}{s:List A9}(b:∀p∈s,Jk ni np x p):∀k,k<=np->∀p∈fN (P4 y) k s,Jk ni np x p
 | 0,_=>b
 | k+1,hk=>fun p a=>by
   have a:p∈P4 y k (fN (P4 y) k s):=a;unfold P4 at a;rcases List.mem_append.1 a with a | a
   ·exact k0e b k (by omega) p a
   ·cases List.mem_singleton.1 a;exact .inl ⟨rfl,Int.natCast_nonneg _,by grind⟩
theorem o0t(ni np:Nat)(x:Nat->D9)(y:Nat->N6):∀p∈L9 ni np x y,Jk ni np x p:=k0e (g0Q ni (Nat.le_refl _)) np (Nat.le_refl _)
theorem MB(pl:Nat->A9)(t:Int):∀m,∀x∈fN (N7 pl t) m [],∃j:Nat,x=(j:Int)/\j<m/\(pl j).2.2.1=t/\(pl j).2.2.2=false
 | 0,x,h=>by cases h
 | m+1,x,h=>by
   have a:=MB pl t m x;have h:x∈N7 pl t m (fN (N7 pl t) m []):=h;generalize fN (N7 pl t) m []=s at a h;unfold N7 at h;split at h
   ·rename_i d;rw[ba,beq_iff_eq,Bool.not_eq_true'] at d;rcases List.mem_append.1 h with h | h
    ·obtain⟨j,c,e,b⟩:=a h;exact⟨j,c,by omega,b⟩
    ·cases List.mem_singleton.1 h;exact⟨m,rfl,by omega,d⟩
   ·obtain⟨j,c,e,b⟩:=a h;exact⟨j,c,by omega,b⟩
structure n0P(w:Vv)(n:Int):Prop where
 n1:1<=w.1.length
 n8:w.1.length<=8
 res:w.2.1.length=w.1.length
 cap:w.2.2.1.length=w.1.length
 snk:(w.2.2.2.length:Int)=n
 resIn:∀i,i<w.1.length->0<=w.2.1.getD i 0/\w.2.1.getD i 0<=1000
 capOk:w.2.2.1.all (m0 · 0 500)=true
 snkIn:∀i,i<w.2.2.2.length->0<=w.2.2.2.getD i 0/\(w.2.2.2.getD i 0).toNat<w.1.length
 par:∀i,0<i->i<w.1.length->0<=w.1.getD i 0/\(w.1.getD i 0).toNat<i
theorem r0w{w:Vv}{n:Int}(h:Ae w n=true):n0P w n:=by
 unfold Ae at h;simp only[ba,dq,beq_iff_eq] at h;obtain⟨⟨⟨⟨⟨⟨⟨⟨c,e⟩,l⟩,g⟩,d⟩,f⟩,j⟩,k⟩,b⟩:=h;refine⟨c,e,l,g,d,fun i hi=>?_,j,fun i hi=>?_,fun i m hi=>?_⟩
 ·exact y9.1 (Jg (p:=fun x=>m0 x 0 1000) f (by omega))
 ·have:=y9.1 (Jg (p:=fun x=>m0 x 0 ((w.1.length:Int)-1)) k hi);omega
 ·have:=BL.1 b i hi;rw[Bool.or_eq_false_iff] at this;have a:=this.2;rw[Bool.and_eq_false_iff,decide_eq_false_iff_not,Bool.not_eq_false',y9] at a;rcases a with h | h
  ·omega
  ·omega
abbrev w6:=Int×Int×Int×Int
def I7(k s:Int):List (Int×Int):=if(k==2)=true then [(0,0),(0,1)] else if(k==3)=true then [(1,0),(1,1)] else if(k != 1)=true then [] else if(s==1)=true then [(0,0),(1,1)] else if(s==2)=true then [(0,1),(1,0)] else [(0,0),(0,1),(1,0),(1,1)]
theorem Qw(k s:Int):(I7 k s).length<=4/\∀t∈I7 k s,0<=t.1/\t.1<=1/\0<=t.2/\t.2<=1:=by
 unfold I7;split
 ·grind
 split
 ·grind
 split
 ·grind
 grind
def Ag(f a b x:Int)(tr:List (Int×Int))(k:Nat)(s:List w6):List w6:=s++[(2*(f+a)+(tr.getD k (0,0)).1,2*(f+b)+(tr.getD k (0,0)).2,1,x)]
theorem k0C(f a b x:Int)(tr:List (Int×Int))(s:List w6):∀k,(fN (Ag f a b x tr) k s).length=s.length+k
 | 0=>rfl
 | k+1=>by
   have:=k0C f a b x tr s k
   grind[Ag,fN,List.length_append]
def R6(f:Int)(arcs:Nat->D8)(j:Nat)(s:List w6):List w6:=fN (Ag f (arcs j).2.1 (arcs j).2.2.1 (j:Int) (I7 (arcs j).1 (arcs j).2.2.2.1)) (I7 (arcs j).1 (arcs j).2.2.2.1).length s
theorem VF(f:Int)(a:Nat->D8)(j:Nat)(s:List w6):(R6 f a j s).length<=s.length+4:=by
 grind[R6,k0C,Qw]
def Az(f:Int)(arcs:Nat->D8)(m:Nat):List w6:=fN (R6 f arcs) m []
theorem MC(f:Int)(a:Nat->D8):∀m,(Az f a m).length<=4*m
 | 0=>Nat.le_refl _
 | m+1=>by
   have b:=MC f a m;have c:=VF f a m (Az f a m);show(R6 f a m (Az f a m)).length<=_;omega
def V9(nets:Nat->Nat)(arcs:Nat->Nat->D8)(ms:Nat->Nat)(i:Nat)(s:Int×List w6):Int×List w6:=(s.1+(nets i:Int),s.2++Az s.1 (arcs i) (ms i))
theorem n0f{a:Nat->Nat}{b:Nat->Nat->D8}{c:Nat->Nat}{n:Nat}(h:∀i,i<n->a i<=5/\c i<=8):∀m,m<=n->0<=(fN (V9 a b c) m (0,[])).1/\(fN (V9 a b c) m (0,[])).1<=5*(m:Int)/\(fN (V9 a b c) m (0,[])).2.length<=32*m
 | 0,_=>⟨Int.le_refl _,Int.le_refl _,Nat.le_refl _⟩
 | m+1,hm=>by
   obtain⟨f,d,e⟩:=n0f h m (by omega);obtain⟨g,j⟩:=h m (by omega);show 0<=(V9 a b c m (fN (V9 a b c) m (0,[]))).1/\(V9 a b c m (fN (V9 a b c) m (0,[]))).1<=_/\(V9 a b c m (fN (V9 a b c) m (0,[]))).2.length<=_;generalize fN (V9 a b c) m (0,[])=z at f d e
   grind[V9,MC,Az,List.length_append]
def Y4(pl:Nat->A9)(i:Nat)(s:List (List Int)×List Int):List (List Int)×List Int:=if(pl i).2.2.2=true then(s.1,s.2.set (pl i).2.2.1.toNat (i:Int)) else(s.1.set (pl i).2.2.1.toNat (s.1.getD (pl i).2.2.1.toNat []++[(i:Int)]),s.2)
def U4(pl:Nat->A9)(t:Int)(m:Nat):Int:=fN (fun i s=>if((pl i).2.2.1==t&&(pl i).2.2.2)=true then(i:Int) else s) m 0
theorem VG(pl:Nat->A9)(t:Int):∀m,0<=U4 pl t m/\U4 pl t m<=m
 | 0=>⟨Int.le_refl _,Int.le_refl _⟩
 | m+1=>by
   have:=VG pl t m;have e:U4 pl t (m+1)=if((pl m).2.2.1==t&&(pl m).2.2.2)=true then(m:Int) else U4 pl t m:=rfl
   omega
theorem k0c(pl:Nat->A9)(t:Int)(m:Nat):fN (N7 pl t) (m+1) []=if((pl m).2.2.1==t&&!(pl m).2.2.2)=true then fN (N7 pl t) m []++[(m:Int)] else fN (N7 pl t) m []:=rfl
theorem VH{a:Type}{l:List a}{i j:Nat}{x d:a}(hi:i<l.length):(l.set i x).getD j d=if j=i then x else l.getD j d:=by
 grind
theorem n0i(pl:Nat->A9)(n:Nat):∀m,(∀i,i<m->m0 (pl i).2.2.1 0 ((n:Int)-1)=true)->(fN (Y4 pl) m (List.replicate n [],List.replicate n 0)).1.length=n/\(fN (Y4 pl) m (List.replicate n [],List.replicate n 0)).2.length=n /\
  ∀k:Nat,k<n->(fN (Y4 pl) m (List.replicate n [],List.replicate n 0)).1.getD k []=fN (N7 pl k) m []/\(fN (Y4 pl) m (List.replicate n [],List.replicate n 0)).2.getD k 0=U4 pl k m
 | 0,_=>⟨List.length_replicate,List.length_replicate,fun k a=>by
   constructor
   ·show(List.replicate n ([]:List Int)).getD k []=[]
    grind
   ·show(List.replicate n (0:Int)).getD k 0=0
    grind⟩
 | m+1,h=>by
   obtain⟨f,b,j⟩:=n0i pl n m (fun i hi=>h i (by omega));have l:=y9.1 (h m (by omega));have e:fN (Y4 pl) (m+1) (List.replicate n [],List.replicate n 0)=Y4 pl m (fN (Y4 pl) m (List.replicate n [],List.replicate n 0)):=rfl;rw[e];generalize fN (Y4 pl) m (List.replicate n [],List.replicate n 0)=z at f b j;have g:(pl m).2.2.1.toNat<n:=by omega
   have d:∀k:Nat,U4 pl k (m+1)=if((pl m).2.2.1==(k:Int)&&(pl m).2.2.2)=true then(m:Int) else U4 pl k m:=fun _=>rfl
   have c:∀k:Nat,((pl m).2.2.1==(k:Int))=decide (k=(pl m).2.2.1.toNat):=fun k=>by
    grind
   unfold Y4;cases hd:(pl m).2.2.2 with
   | true =>
     rw[if_pos rfl];refine⟨f,by grind,fun k a=>?_⟩;rw[k0c,d k,c,hd]
     grind
   | false =>
     rw[if_neg (by simp)];refine⟨by grind,b,fun k a=>?_⟩;rw[k0c,d k,c,hd]
     grind
def VI(d s x:Int)(t:Nat)(z:List w6):List w6:=z++[(2*d+(t:Int),2*s+(t:Int),2,x)]
def BN(d:Int)(sn:List Int)(k:Nat)(z:List w6):List w6:=fN (VI d (sn.getD k 0) (k:Int)) 2 z
theorem VJ(d:Int)(a:List Int)(k:Nat)(z:List w6):(BN d a k z).length=z.length+2:=by
 show((z++_)++_).length=_
 grind
def Bh(d:Nat->Int)(sn:Nat->List Int)(i:Nat)(z:List w6):List w6:=fN (BN (d i) (sn i)) (sn i).length z
theorem Qx(d:Int)(a:List Int)(z:List w6):∀k,(fN (BN d a) k z).length=z.length+2*k
 | 0=>rfl
 | k+1=>by
   have:=Qx d a z k
   grind[BN,fN,VJ]
theorem q0y(d:Nat->Int)(a:Nat->List Int)(z:List w6){n c:Nat}(h:∀i,i<n->(a i).length<=c):∀m,m<=n->(fN (Bh d a) m z).length<=z.length+2*(c*m)
 | 0,_=>by simp[fN]
 | m+1,hm=>by
   have b:=q0y d a z h m (by omega)
   grind[fN,BN,Bh,Qx,Nat.mul_add]
def AA{α:Type}(f:Nat->α)(i:Nat)(s:List α):List α:=s++[f i]
theorem Fz{a:Type}(f:Nat->a):∀n,(fN (AA f) n []).length=n
 | 0=>rfl
 | n+1=>by
   have:=Fz f n
   grind[AA,fN,List.length_append]
theorem MD{a:Type}(f:Nat->a)(d:a):∀n i,i<n->(fN (AA f) n []).getD i d=f i
 | n+1,i,h=>by
   have c:=Fz f n;have b:=MD f d n i
   grind[AA,fN]
end Go.Proofs.Xd
end
section
namespace Go.Proofs.YtdjgagoledoaaaaGreatDoor
open Go Go.Proofs Go.Proofs.Xv Go.Proofs.Xl Go.Proofs.Xd
theorem Y5(a b c:Int):A8 a b c=some (m0 a b c):=rfl
theorem R7(a b c:Int):u4 a b c=some (m0 a b c):=rfl
theorem N0L(a b c:Int):Lj a b c=some (!m0 a b c):=by
 unfold Lj;rw[Y5,gP ⟨rfl,trivial⟩,vS]
theorem y0u(xs:List Int)(b c:Int)(h:xs.length<=9223372036854775807):Pe xs (b,c)=some (xs.any fun x=>!m0 x b c):=by
 have a:Pd xs (b,c)=_:=CD h (fun i=>!m0 (xs.getD i 0) b c) (fun g i hi=>He hi h (N0L _ _ _)) (fun g=>aE);have:=Hf a;rw[T6 xs 0 (fun x=>!m0 x b c)] at this;exact this
theorem Hg(xs:List Int)(b c:Int)(h:xs.length<=9223372036854775807):I3 xs b c=some (xs.all (m0 · b c)):=by
 unfold I3;rw[y0u _ _ _ h,gP ⟨rfl,trivial⟩,vS,Bf]
theorem VK(xs:List Int)(h:xs.length<=9223372036854775807)(b:1<=xs.length):Cu xs=some (Dr xs):=by
 have a:=D0T h (fun i=>decide (xs.getD i 0<=xs.getD (i-1) 0)) (some false) (e:=some true) (F:=B0p xs) 1 b (fun g i c hi=>by
  have e:((i:Int)-1).toNat=i-1:=by omega
  refine(BO hi h ⟨oo,oo,oo,trivial⟩).trans ?_;rw[e]; rfl) (fun g=>aE)
 refine a.trans ?_;unfold Dr;have:((List.range xs.length).any fun i=>decide (1<=i)&&decide (xs.getD i 0<=xs.getD (i-1) 0))=(List.range xs.length).any fun i=>decide (0<i)&&decide (xs.getD i 0<=xs.getD (i-1) 0):=rfl;rw[this];cases(List.range xs.length).any fun i=>decide (0<i)&&decide (xs.getD i 0<=xs.getD (i-1) 0) <;> rfl
theorem L0X(xs:List Int)(h:xs.length<=9223372036854775807):Bb xs=some (F7 xs):=by
 unfold Bb;have e:D6 xs=some (xs.length:Int):=rfl;have i:∀a:Bool,(a=true->1<=xs.length)->(a=true/\True->(Cu xs).isSome=true):=fun a d b=>by rw[VK xs h (d b.1)]; rfl
 rw[e,vS,Y5,vS,Hg xs 0 100000 h,vS,gP ⟨rfl,rfl,fun _=>rfl,i _ (fun b=>by
  simp only[m0,ba,dq] at b; omega),trivial⟩]
 congr 1;unfold F7;by_cases c:1<=xs.length
 ·rw[VK xs h c,vS];congr 2;rw[Bool.eq_iff_iff];simp only[m0,ba,dq];omega
 ·have f:decide (1<=xs.length)=false:=by simpa using c
  have g:m0 (xs.length:Int) 1 4=false:=by
   rw[<- Bool.not_eq_true,y9]; omega
  rw[f,g]; rfl
theorem M0i(xs:List Int)(h:xs.length<=9223372036854775807):Dh xs=some (F7 xs):=by
 have d:=H5 (n:=xs.length) h (fun i=>!m0 (xs.getD i 0) 0 100000||decide (0<i)&&decide (xs.getD i 0<=xs.getD (i-1) 0)) (some false) (e:=OP xs ()) (F:=ZX xs) (fun g i hi=>by
  have e:((i:Int)-1).toNat=i-1:=by omega
  have k:decide ((0:Int) < (i:Int))=decide (0<i):=by rw[decide_eq_decide]; omega
  refine(BO hi h ⟨oo,rfl,fun f=>oo,fun f=>⟨by have:=f.1; simp at this; omega,by omega⟩,fun f=>oo,trivial⟩).trans ?_;rw[e,R7,vS,k]; rfl) (fun g=>aE)
 refine d.trans ?_;unfold F7 OP;have j:((List.range xs.length).any fun i=>!m0 (xs.getD i 0) 0 100000||decide (0<i)&&decide (xs.getD i 0<=xs.getD (i-1) 0))=!(xs.all (m0 · 0 100000)&&Dr xs):=by
  rw[<- Bf,<- T6 xs 0 (fun x=>!m0 x 0 100000),Dr,<- Bool.not_or,Bool.not_not];rw[Bool.eq_iff_iff,Bool.or_eq_true,List.any_eq_true,List.any_eq_true,List.any_eq_true];constructor
  ·rintro⟨i,a,b⟩;rcases Bool.or_eq_true _ _ ▸ b with c | c
   ·exact .inl ⟨i,a,c⟩
   ·exact .inr ⟨i,a,c⟩
  ·rintro(⟨i,a,b⟩ | ⟨i,a,b⟩)
   ·exact⟨i,a,by rw[b]; rfl⟩
   ·exact⟨i,a,by rw[b,Bool.or_true]⟩
 rw[j];cases hA:(xs.all (m0 · 0 100000)&&Dr xs) with
 | false=>rw[if_pos (by rfl),Bool.and_assoc,hA,Bool.and_false]
 | true =>
   rw[if_neg (by simp),Bool.and_assoc,hA,Bool.and_true];refine congrArg some ?_;rw[Bool.eq_iff_iff];simp only[ba,dq];omega
theorem N0r(t:s8)(i:wf y70 t):IA t=some (C3 t):=by
 obtain⟨⟨j,_⟩,⟨c,_⟩,f,_⟩:=i;unfold IA;have d:(F7 t.1&&F7 t.2.1)=true/\True->c9 ((t.1.length:Int)*(t.2.1.length:Int)):=fun a=>by
  have a:=a.1;rw[ba] at a;obtain⟨l,b⟩:=CA a.1;obtain⟨m,g⟩:=CA a.2;have k:t.1.length*t.2.1.length<=4*4:=Nat.mul_le_mul b g;have e:(t.1.length:Int)*(t.2.1.length:Int)=((t.1.length*t.2.1.length:Nat):Int):=by simp
  rw[e];exact oo
 rw[L0X _ j,L0X _ c,Hg _ _ _ f,vS,vS,vS,gP ⟨rfl,fun _=>rfl,d,fun _=>rfl,trivial⟩];congr 1;unfold C3;congr 2;rw[Bool.eq_iff_iff];simp only[beq_iff_eq,dq];constructor
 ·intro h; exact_mod_cast h
 ·intro h; exact_mod_cast h
theorem r45(t:s8)(m:wf y70 t):Gy t=some (C3 t):=by
 obtain⟨⟨o,_⟩,⟨f,_⟩,c,_⟩:=m;unfold Gy;have j:(!F7 t.1||!F7 t.2.1)=false/\True->c9 ((t.1.length:Int)*(t.2.1.length:Int)):=fun a=>by
  have a:=a.1;simp only[Bool.or_eq_false_iff,Bool.not_eq_false'] at a;obtain⟨r,d⟩:=CA a.1;obtain⟨s,l⟩:=CA a.2;have q:t.1.length*t.2.1.length<=4*4:=Nat.mul_le_mul d l;have e:(t.1.length:Int)*(t.2.1.length:Int)=((t.1.length*t.2.1.length:Nat):Int):=by simp
  rw[e];exact oo
 rw[M0i _ o,M0i _ f,vS,vS,gP ⟨rfl,fun _=>rfl,j,trivial⟩];have b:=H5 (n:=t.2.2.length) c (fun i=>!m0 (t.2.2.getD i 0) (-1000000) 1000000) (some false) (e:=some true) (F:=ZZ t) (fun g i hi=>BO hi c ⟨oo,rfl,trivial⟩) (fun g=>aE);rw[b,T6 t.2.2 0 (fun x=>!m0 x (-1000000) 1000000)];have e:((t.2.2.length:Int) != (t.1.length:Int)*(t.2.1.length:Int))=!decide (t.2.2.length=t.1.length*t.2.1.length):=by
  rw[Bool.eq_iff_iff];simp only[bne_iff_ne,Bool.not_eq_true',decide_eq_false_iff_not,ne_eq];constructor
  ·intro h k; exact h (by exact_mod_cast k)
  ·intro h k; exact h (by exact_mod_cast k)
 rw[e];unfold C3;rw[<- Bf];cases F7 t.1 <;> cases F7 t.2.1 <;> cases decide (t.2.2.length=t.1.length*t.2.1.length) <;> cases(t.2.2.any fun x=>!m0 x (-1000000) 1000000) <;> rfl
end Go.Proofs.YtdjgagoledoaaaaGreatDoor
end
section
namespace Go.Proofs.YtdjgagoledoaaaaGreatDoor
open Go Go.Proofs Go.Proofs.Sv Go.Proofs.Xv Go.Proofs.Xl Go.Proofs.Xd
theorem Qy(s:ByteArray)(h:s.size<=9223372036854775807):Ab s=some (I4 s):=by
 have a:=H5 (n:=s.size) h (fun i=>!Fv (F3 s i) i) (some false) (e:=OL s ()) (F:=ZL s) (fun g i hi=>by
  refine(E0O hi h ⟨oo,fun _=>oo,trivial⟩ ⟨oo,fun _=>oo,trivial⟩).trans ?_;have b:decide ((0:Int) < (i:Int))=decide (0<i):=by rw[decide_eq_decide]; omega
  have c:((i:Int)).toNat=i:=rfl;rw[b,c];unfold Fv Bd IZ;rw[Bool.not_or]) (fun g=>aE)
 refine a.trans ?_;unfold I4 OL;rw[q0w];cases(List.range s.size).any fun i=>!Fv (F3 s i) i
 ·rfl
 ·rfl
theorem VM(s:ByteArray)(h:s.size<=9223372036854775807):Q9 s=some (I4 s):=by
 unfold Q9;have f:Fl s ⟨#[97,98,99,100,101,102,103,104,105,106,107,108,109,110,111,112,113,114,115,116,117,118,119,120,121,122,48,49,50,51,52,53,54,55,56,57]⟩=some ⟨(Lib.trimS s.data.toList low36).toArray⟩:=if_pos ⟨by decide,by decide⟩;have g:∀c,Pk ⟨#[97,98,99,100,101,102,103,104,105,106,107,108,109,110,111,112,113,114,115,116,117,118,119,120,121,122]⟩ c=some (Lib.indexByte low26 c.toNat.toUInt8):=fun _=>rfl;rw[f,g,Y5,vS,vS,vS,gP ⟨rfl,fun _=>rfl,fun d=>⟨by decide,by
  have:=d.1;rw[ba,y9] at this;omega⟩,fun _=>rfl,trivial⟩,lE]
 refine congrArg some ?_;show(m0 (s.size:Int) 1 8&&decide ((⟨(Lib.trimS s.data.toList low36).toArray⟩:ByteArray)=⟨#[]⟩)&&decide (0<=Lib.indexByte low26 (F3 s (Int.toNat 0)).toNat.toUInt8))=I4 s;by_cases e:1<=s.size/\s.size<=8
 ·rw[y0I s e.1 e.2];have a:m0 (s.size:Int) 1 8=true:=by rw[y9]; omega
  have b:decide ((⟨(Lib.trimS s.data.toList low36).toArray⟩:ByteArray)=⟨#[]⟩)=(Lib.trimS s.data.toList low36==[]):=by
   rw[Bool.eq_iff_iff,dq,beq_iff_eq];constructor
   ·intro h;injection h with h;have:=congrArg Array.toList h;simpa using this
   ·intro h; rw[h]
  rw[a,b,Bool.true_and];rfl
 ·have a:m0 (s.size:Int) 1 8=false:=by rw[<- Bool.not_eq_true,y9]; omega
  have b:I4 s=false:=by
   rw[<- Bool.not_eq_true];intro d;simp only[I4,ba,dq] at d;omega
  rw[a,b]; rfl
theorem N0C(xs:List ByteArray)(x:ByteArray)(h:xs.length<=9223372036854775807):Pj xs x=some (xs.any fun y=>decide (x=y)):=by
 have a:Ph xs x=_:=CD h (fun i=>decide (x=xs.getD i (b7 .str))) (fun g i hi=>by
  refine(if_pos (by simpa using hi)).trans ?_;rw[gP ⟨oo,trivial⟩,gP ⟨oo,trivial⟩];rfl) (fun g=>aE)
 have:=Hf a;rw[T6 xs (b7 .str) (fun y=>decide (x=y))] at this;exact this
theorem ME(xs:List ByteArray)(c:wf (.sl .str) xs):Y2 xs=some (C8 xs.length fun i=>xs.getD i (b7 .str)):=by
 have h:=c.1;have a:=H5 (n:=xs.length) h (fun i=>!I4 (xs.getD i (b7 .str))||O7 (fun i=>xs.getD i (b7 .str)) i) (some false) (e:=some true) (F:=A0F xs) (fun g i hi=>by
  have j:=Y6 (d:=b7 .str) hi c;have l:(xs.take i).length<=9223372036854775807:=by rw[List.length_take]; omega
  have f:=VM _ j;have b:=N0C (xs.take i) (xs.getD i (b7 .str)) l;rw[x0M xs (b7 .str) i hi] at b;have k:((i:Int)).toNat=i:=rfl;refine(if_pos (by simpa using hi)).trans ?_;rw[k,f,b,vS,vS,gP ⟨oo,trivial⟩,gP ⟨rfl,fun _=>⟨by omega,by omega,by omega⟩,fun _=>rfl,trivial⟩,gP ⟨oo,trivial⟩]) (fun g=>aE)
 refine a.trans ?_;unfold C8;cases(List.range xs.length).any fun i=>!I4 (xs.getD i (b7 .str))||O7 (fun i=>xs.getD i (b7 .str)) i <;> rfl
theorem VN(xs:List ByteArray)(c:wf (.sl .str) xs):BC xs=some (C8 xs.length fun i=>xs.getD i (b7 .str)):=by
 have h:=c.1;have b:=H5 (n:=xs.length) h (fun i=>!I4 (xs.getD i (b7 .str))||O7 (fun i=>xs.getD i (b7 .str)) i) (some false) (e:=some true) (F:=ZO xs) (fun g i hi=>by
  have m:=Y6 (d:=b7 .str) hi c;have j:=Qy _ m;have o:((i:Int)).toNat=i:=rfl;have a:=H5 (n:=i) (by omega) (fun k=>decide (xs.getD k (b7 .str)=xs.getD i (b7 .str))) (some false) (e:=g ((i:Int)+1)) (F:=ZN xs (i:Int) g) (fun f k l=>by
   refine(BO l (by omega) ⟨oo,oo,trivial⟩).trans ?_;rfl) (fun f=>by
   refine aE.trans ?_;unfold TA;exact gP ⟨oo,trivial⟩)
  refine(if_pos (by simpa using hi)).trans ?_;rw[o,j,vS,gP ⟨oo,rfl,trivial⟩,a];unfold O7;cases I4 (xs.getD i (b7 .str)) <;> cases(List.range i).any fun k=>decide (xs.getD k (b7 .str)=xs.getD i (b7 .str)) <;> rfl) (fun g=>aE)
 refine b.trans ?_;unfold C8;cases(List.range xs.length).any fun i=>!I4 (xs.getD i (b7 .str))||O7 (fun i=>xs.getD i (b7 .str)) i <;> rfl
theorem L0Y(xs:List Int)(h:xs.length<=9223372036854775807)(b:1<=xs.length):Iz xs=some (Ax xs):=by
 unfold Iz;rw[if_neg (by simp; omega)];unfold Ug;rw[gP ⟨oo,trivial⟩];have a:=lF (n:=xs.length-1) (by omega) (fun i (m:Int)=>(m,((i+1:Nat):Int))) (fun i m=>min m (xs.getD (i+1) 0)) (fun _ _=>True) (J:=fun m=>some m) (F:=Uf xs) (fun g i s hi _=>by
  refine(if_pos (by simp; omega)).trans ?_;rw[gP ⟨oo,trivial⟩,gP ⟨oo,trivial⟩];rfl) (fun _ _ _ _=>trivial) (fun g s _=>by
  have e:xs.length-1+1=xs.length:=by omega
  show Uf xs g (s,((xs.length-1+1:Nat):Int))=some s;rw[e];exact aE) (xs.getD 0 0) trivial
 exact a
theorem N0s(t:s8)(p:Bool)(a:wf y70 t):Lr t p=some (!C3 t||p&&decide (Ax t.2.2<0)):=by
 unfold Lr;have b:p=true/\(!C3 t)=false/\True->(Iz t.2.2).isSome=true:=fun c=>by
  have d:C3 t=true:=by simpa using c.2.1
  rw[L0Y _ a.2.2.1 (Ds d).2.2.2.2.2.1]; rfl
 rw[N0r t a,vS,gP ⟨rfl,b,trivial⟩,lE];refine congrArg some ?_;cases hT:C3 t with
 | false=>rfl
 | true=>rw[L0Y _ a.2.2.1 (Ds hT).2.2.2.2.2.1,vS]
theorem VP(l:List s8)(p:Bool)(a:wf (.sl y70) l):V6 l p=some (C0 l p):=by
 have h:=a.1;have c:Pq l p=_:=CD h (fun i=>!C3 (l.getD i (b7 y70))||p&&decide (Ax (l.getD i (b7 y70)).2.2<0)) (fun g i hi=>He hi h (N0s _ _ (Y6 hi a))) (fun g=>aE);have b:Pr l p=_:=Hf c;rw[T6 l (b7 y70) (fun t=>!C3 t||p&&decide (Ax t.2.2<0))] at b;unfold V6;rw[b,vS,gP ⟨fun _=>rfl,trivial⟩];refine congrArg some ?_;unfold C0;have e:((l.length:Int)==2)=decide (l.length=2):=by
  rw[Bool.eq_iff_iff,beq_iff_eq,dq]; omega
 rw[e,<- Bf];congr 3;funext t;rw[Bool.not_and,Bool.not_not]
theorem q0K(xs:List Int):∀n,(fN (fun i (s:Int×Int)=>(min s.1 (xs.getD (i+1) 0),max s.2 (xs.getD (i+1) 0))) n (xs.getD 0 0,xs.getD 0 0)).1=fN (fun i m=>min m (xs.getD (i+1) 0)) n (xs.getD 0 0)
 | 0=>rfl
 | n+1=>by rw[fN,fN,q0K xs n]
theorem N0t(t:s8)(b:wf y70 t):∃l,KE t=some (if C3 t=true then((Ax t.2.2,l),0) else((0,0),1)):=by
 unfold KE;rw[r45 t b,vS,gP ⟨rfl,trivial⟩];cases hT:C3 t with
 | false=>exact⟨0,rfl⟩
 | true =>
   have c:=(Ds hT).2.2.2.2.2.1;have h:=b.2.2.1;have a:=lF (n:=t.2.2.length-1) (by omega) (fun i (s:Int×Int)=>(((i+1:Nat):Int),s.1,s.2)) (fun i s=>(min s.1 (t.2.2.getD (i+1) 0),max s.2 (t.2.2.getD (i+1) 0))) (fun _ _=>True) (J:=fun s=>some ((s.1,s.2),(0:Int))) (F:=TB t) (fun g i s hi _=>by
    refine(if_pos (by simp; omega)).trans ?_;rw[gP ⟨oo,trivial⟩,gP ⟨oo,trivial⟩,gP ⟨oo,trivial⟩];rfl) (fun _ _ _ _=>trivial) (fun g s _=>by
    have e:t.2.2.length-1+1=t.2.2.length:=by omega
    show TB t g (((t.2.2.length-1+1:Nat):Int),s.1,s.2)=_;rw[e];exact aE) (t.2.2.getD 0 0,t.2.2.getD 0 0) trivial
   rw[if_neg (by simp),gP ⟨oo,oo,trivial⟩];rw[q0K] at a;exact⟨_,a⟩
theorem MF(l:List s8)(p:Bool)(f:wf (.sl y70) l):Y0 l p=some (C0 l p):=by
 unfold Y0;have e:((l.length:Int) != 2)=!decide (l.length=2):=by
  rw[Bool.eq_iff_iff]; simp; omega
 rw[e];unfold C0;by_cases a:l.length=2
 ·have b:=H5 (n:=2) (by decide) (fun i=>!C3 (l.getD i (b7 y70))||p&&decide (Ax (l.getD i (b7 y70)).2.2<0)) (some false) (e:=some true) (F:=TC p l) (fun g i hi=>by
   obtain⟨m,c⟩:=N0t (l.getD i (b7 y70)) (Y6 (by omega) f);have d:((i:Int)).toNat=i:=rfl;refine(if_pos (by simp; omega)).trans ?_;rw[d,c,vS,gP ⟨oo,rfl,trivial⟩,lE,gP ⟨oo,trivial⟩];cases C3 (l.getD i (b7 y70)) <;> rfl) (fun g=>by
   unfold TC;exact if_neg (by decide))
  rw[decide_eq_true a,if_neg (by simp)];refine b.trans ?_;have:=T6 l (b7 y70) (fun t=>!C3 t||p&&decide (Ax t.2.2<0));rw[a] at this;rw[this,<- Bf,Bool.true_and];have h:(fun t:s8=>!(C3 t&&!(p&&decide (Ax t.2.2<0))))=fun t=>!C3 t||p&&decide (Ax t.2.2<0):=by
   funext t; rw[Bool.not_and,Bool.not_not]
  rw[h];cases l.any fun t=>!C3 t||p&&decide (Ax t.2.2<0) <;> rfl
 ·rw[decide_eq_false a]; rfl
abbrev r4(c:m4)(i:Nat):I2:=c.2.2.1.getD i (b7 y233)
abbrev m8(c:m4)(i:Nat):z7:=c.2.2.2.1.getD i (b7 y67)
theorem VQ(c:m4)(a:wf y64 c):V5 c=some ((c.2.2.1.length:Int)-1):=by
 have h:=a.2.2.1.1;have e:Cs c.2.2.1=some (c.2.2.1.length:Int):=rfl;unfold V5;rw[e,vS,gP ⟨rfl,oo,trivial⟩,lE]
theorem L0Z(c:m4)(a:wf y64 c)(x:Int):GG c x=some (m0 x 0 ((c.2.2.1.length:Int)-1-1)):=by
 have h:=a.2.2.1.1;unfold GG;rw[VQ c a,vS,Y5,vS,gP ⟨rfl,oo,rfl,trivial⟩]
theorem N0u(c:m4)(b:wf y64 c):IB c=some (Fw c.2.2.1.length (r4 c)):=by
 have h:=b.2.2.1.1;have a:Ps c.2.2.1=_:=CD h (fun i=>(r4 c i).2.2.2) (fun g i hi=>He hi h rfl) (fun g=>aE);unfold IB;rw[a,vS,gP ⟨rfl,trivial⟩,lE];rfl
theorem VR(c:m4)(b:wf y64 c)(k:Int):O5 c k=some (C9 c.2.2.2.1.length (m8 c) k):=by
 have h:=b.2.2.2.1.1;have a:Pm c.2.2.2.1 k=_:=CD h (fun i=>(m8 c i).1==k) (fun g i hi=>He hi h rfl) (fun g=>aE);have d:Pn c.2.2.2.1 k=_:=Hf a;unfold O5;rw[d,vS,gP ⟨rfl,trivial⟩];rfl
theorem N0x(c:m4)(a:z7)(i:wf y64 c)(v:wf y67 a):GH c a=some (Dt c.2.2.1.length (r4 c) a):=by
 obtain⟨_,_,_,_,r,u⟩:=v;have w:Pt a.1=some (a.1==4||a.1==5):=rfl;have t:m0 a.2.1 0 ((c.2.2.1.length:Int)-1-1)=true->ix a.2.1 c.2.2.1.length:=fun h=>by
  rw[y9] at h; exact oo
 unfold GH;rw[w,VP _ _ r,VP _ _ r,VP _ _ u,N0u c i,L0Z c i,L0Z c i,VQ c i]
 repeat rw[vS]
 rw[gP ⟨rfl,trivial⟩];unfold Dt;by_cases Cq:a.1=4∨a.1=5
 ·have k:(a.1==4||a.1==5)=true:=by simpa using Cq
  rw[if_pos k,if_pos Cq,gP ⟨fun _=>rfl,fun _=>rfl,fun _=>rfl,trivial⟩,lE]
 ·have k:(a.1==4||a.1==5)=false:=by
   rw[<- Bool.not_eq_true]; simpa using Cq
  rw[k,if_neg (by simp),if_neg Cq,gP ⟨rfl,fun _=>rfl,fun _=>rfl,fun _=>rfl,trivial⟩,lE];by_cases d:C0 a.2.2.2.2.1 true=true/\C0 a.2.2.2.2.2 true=true/\a.2.2.1=(c.2.2.1.length:Int)-1/\m0 a.2.1 0 ((c.2.2.1.length:Int)-1-1)=true
  ·obtain⟨o,s,q,e⟩:=d;have l:(C0 a.2.2.2.2.1 true&&C0 a.2.2.2.2.2 true&&a.2.2.1==(c.2.2.1.length:Int)-1&&m0 a.2.1 0 ((c.2.2.1.length:Int)-1-1))=true:=by
    rw[o,s,e,q]; simp
   have m:(!C0 a.2.2.2.2.1 true||!C0 a.2.2.2.2.2 true||a.2.2.1 != (c.2.2.1.length:Int)-1||!m0 a.2.1 0 ((c.2.2.1.length:Int)-1-1))=false:=by
    rw[o,s,e,q]; simp
   rw[l,Bool.true_and];refine(if_neg (by rw[m]; simp)).trans ?_;by_cases f:a.1=1
   ·rw[if_pos (beq_iff_eq.2 f),if_pos f,Y5,gP ⟨t e,fun _=>rfl,trivial⟩];rfl
   ·rw[if_neg (by simpa using f),if_neg f];have j:∀b,Ls c a b=some (if b=true then(r4 c a.2.1.toNat).2.2.2&&a.2.2.2.1==0 else false):=fun b=>by
     unfold Ls;cases b with
     | false=>rfl
     | true=>rw[if_pos rfl,if_pos rfl,gP ⟨t e,trivial⟩]
    by_cases g:a.1=2
    ·rw[if_pos (beq_iff_eq.2 g),if_pos (.inl g),j,beq_iff_eq.2 g]; rfl
    ·rw[if_neg (by simpa using g),j];by_cases n:a.1=3
     ·rw[beq_iff_eq.2 n,if_pos rfl,if_pos (.inr n)]
     ·rw[beq_eq_false_iff_ne.2 n,if_neg (by simp),if_neg (by omega)]
  ·have m:(!C0 a.2.2.2.2.1 true||!C0 a.2.2.2.2.2 true||a.2.2.1 != (c.2.2.1.length:Int)-1||!m0 a.2.1 0 ((c.2.2.1.length:Int)-1-1))=true:=by
    rw[<- Bool.not_eq_false];intro h;simp only[Bool.or_eq_false_iff,Bool.not_eq_false',bne_eq_false_iff_eq] at h;exact d ⟨h.1.1.1,h.1.1.2,h.1.2,h.2⟩
   have l:(C0 a.2.2.2.2.1 true&&C0 a.2.2.2.2.2 true&&a.2.2.1==(c.2.2.1.length:Int)-1&&m0 a.2.1 0 ((c.2.2.1.length:Int)-1-1))=false:=by
    rw[<- Bool.not_eq_true];intro h;simp only[ba,beq_iff_eq] at h;exact d ⟨h.1.1.1,h.1.1.2,h.1.2,h.2⟩
   rw[l,Bool.false_and];exact if_pos m
theorem N0A(c:m4)(a:z7)(t:wf y64 c)(q:wf y67 a):KG c a=some (F2 c.2.2.1.length (r4 c) a):=by
 obtain⟨_,_,_,_,i,m⟩:=q;have h:=t.2.2.1.1;unfold KG;rw[gP ⟨oo,trivial⟩,R7,R7]
 repeat rw[vS]
 rw[gP ⟨oo,rfl,fun _=>rfl,trivial⟩];unfold F2;by_cases d:m0 a.2.1 0 ((c.2.2.1.length:Int)-1-1)=true/\m0 a.2.2.1 0 ((c.2.2.1.length:Int)-1)=true
 ·obtain⟨k,o⟩:=d;have u:=y9.1 k;have v:=y9.1 o;rw[k,o,if_neg (by simp),gP ⟨oo,trivial⟩,lE,Bool.true_and,Bool.true_and];by_cases f:a.1=1
  ·rw[if_pos (beq_iff_eq.2 f),if_pos f,R7,MF _ _ i,MF _ _ m,gP ⟨fun _=>rfl,fun _=>rfl,fun _=>rfl,trivial⟩];rfl
  ·rw[if_neg (by simpa using f),if_neg f];have n:∀b,Gz (r4 c a.2.1.toNat) a c b=some (if b=true then(r4 c a.2.1.toNat).2.2.2&&decide (a.2.2.1 < (c.2.2.1.length:Int)-1)&&!(r4 c a.2.2.1.toNat).2.2.2&&a.2.2.2.1==0&&C0 a.2.2.2.2.1 false&&(a.2.2.2.2.2.length:Int)==0 else false):=fun b=>by
    unfold Gz;cases b with
    | false=>rfl
    | true =>
      rw[if_pos rfl,if_pos rfl,MF _ _ i,gP ⟨fun _=>oo,fun _=>rfl,trivial⟩];rfl
   have l:∀b,KF (r4 c a.2.1.toNat) a c b=some (if b=true then(r4 c a.2.1.toNat).2.2.2&&a.2.2.1==(c.2.2.1.length:Int)-1&&a.2.2.2.1==0&&C0 a.2.2.2.2.1 true&&C0 a.2.2.2.2.2 true else if a.1=4∨a.1=5 then(r4 c a.2.1.toNat).2.2.2&&decide (a.2.2.1 < (c.2.2.1.length:Int)-1)&&!(r4 c a.2.2.1.toNat).2.2.2&&a.2.2.2.1==0&&C0 a.2.2.2.2.1 false&&(a.2.2.2.2.2.length:Int)==0 else false):=fun b=>by
    unfold KF;cases b with
    | true =>
      rw[if_pos rfl,if_pos rfl,MF _ _ i,MF _ _ m,gP ⟨fun _=>rfl,fun _=>rfl,trivial⟩];rfl
    | false =>
      show(if(a.1==4)=true then Gz (r4 c a.2.1.toNat) a c (a.1==4) else Gz (r4 c a.2.1.toNat) a c (a.1==5))=some (if a.1=4∨a.1=5 then _ else false);by_cases e:a.1=4
      ·rw[if_pos (beq_iff_eq.2 e),n,beq_iff_eq.2 e,if_pos rfl,if_pos (.inl e)]
      ·rw[if_neg (by simpa using e),n];by_cases k5:a.1=5
       ·rw[beq_iff_eq.2 k5,if_pos rfl,if_pos (.inr k5)]
       ·rw[beq_eq_false_iff_ne.2 k5,if_neg (by simp),if_neg (by omega)]
   by_cases g:a.1=2
   ·rw[if_pos (beq_iff_eq.2 g),if_pos (.inl g)];refine(l _).trans ?_;rw[beq_iff_eq.2 g]; rfl
   ·rw[if_neg (by simpa using g)];refine(l _).trans ?_;by_cases j:a.1=3
    ·rw[beq_iff_eq.2 j,if_pos rfl,if_pos (.inr j)]
    ·rw[beq_eq_false_iff_ne.2 j,if_neg (by simp),if_neg (by omega:¬(a.1=2∨a.1=3))]
 ·have s:(!m0 a.2.1 0 ((c.2.2.1.length:Int)-1-1)||!m0 a.2.2.1 0 ((c.2.2.1.length:Int)-1))=true:=by
   rw[<- Bool.not_eq_false];intro h;simp only[Bool.or_eq_false_iff,Bool.not_eq_false'] at h;exact d h
  have r:(m0 a.2.1 0 ((c.2.2.1.length:Int)-1-1)&&m0 a.2.2.1 0 ((c.2.2.1.length:Int)-1))=false:=by
   rw[<- Bool.not_eq_true];intro h;rw[ba] at h;exact d h
  rw[r,Bool.false_and];exact if_pos s
theorem VT{c:m4}(a:wf y64 c):wf (.sl y233) c.2.2.1:=a.2.2.1
theorem VU{c:m4}(a:wf y64 c):wf (.sl y67) c.2.2.2.1:=a.2.2.2.1
theorem Jl{a:Type}(l:List a)(f:a->ByteArray)(d:a)(e:ByteArray):C8 (l.map f).length (fun i=>(l.map f).getD i e)=C8 l.length fun i=>f (l.getD i d):=by
 rw[List.length_map];exact m0S fun i hi=>v0O f l i d e hi
theorem Jm{a:Type}{l:List a}{f:a->ByteArray}(h:l.length<=9223372036854775807)(d:∀x∈l,(f x).size<=9223372036854775807):wf (.sl .str) (l.map f):=by
 refine⟨by rw[List.length_map]; exact h,fun x b=>?_⟩;obtain⟨y,c,rfl⟩:=List.mem_map.1 b;exact d y c
def Y7(f:Nat->ByteArray)(i:Nat)(s:List ByteArray):List ByteArray:=s++[f i]
theorem v0R(f:Nat->ByteArray):∀n,fN (Y7 f) n []=(List.range n).map f
 | 0=>rfl
 | n+1=>by
   rw[fN,v0R f n,List.range_succ,List.map_append]; rfl
theorem Jn{a:Type}(l:List a)(d:a)(f:a->ByteArray):fN (Y7 fun i=>f (l.getD i d)) l.length []=l.map f:=by
 rw[v0R,u0R]
theorem Qz{n i b:Nat}(h:i<n)(c:n<=1048576)(a:b<=4096):i+1<=9223372036854775807/\(i+1)*b<=140737488355328:=by
 have:(i+1)*b<=1048576*4096:=Nat.mul_le_mul (by omega) a;exact oo
theorem N0F(l:List I2)(f:wf (.sl y233) l)(m:l.length<=1048576):Fm l=some (Ay l.length fun i=>l.getD i (b7 y233)):=by
 have h:=f.1;have d:=MG (n:=l.length) h (fun i (s:List ByteArray)=>(s,(i:Int))) (Y7 fun i=>(l.getD i (b7 y233)).1) (fun i=>!Bg l.length (l.getD i (b7 y233)) i) (some false) (fun i s=>s.length=i) (J:=Lu l) (F:=A0t l) (fun g i s hi e=>by
  refine(if_pos (by simpa using hi)).trans ?_;have o:((i:Int)).toNat=i:=rfl;have Q:(s++[(l.getD i (b7 y233)).1]).length<=9223372036854775807:=by rw[List.length_append]; show s.length+1<=_; omega
  have T:=Qz (b:=16) hi m (by decide);have z:∀a,Pw (i:Int) g a=g (a,((i+1:Nat):Int)):=fun a=>gP ⟨oo,trivial⟩;rw[o,gP ⟨oo,trivial⟩,lE,gP ⟨⟨by show s.length+1<=_; omega,by show(s.length+1)*16<=_; omega⟩,trivial⟩,gP ⟨oo,trivial⟩,z,Y5,gP ⟨fun _=>rfl,trivial⟩,vS];unfold Bg Y7;dsimp only;by_cases j:i+1=l.length
  ·have c:((i:Int)==(l.length:Int)-1)=true:=by rw[beq_iff_eq]; omega
   rw[if_pos c,if_pos j];generalize l.getD i (b7 y233)=q;have t:(q.2.1 != 2)=!(q.2.1==2):=rfl;have G:(q.2.2.1 != 0)=!(q.2.2.1==0):=rfl;rw[t,G];cases c2:q.2.2.1==0 with
   | true =>
     have r:m0 q.2.2.1 0 500=true:=by rw[beq_iff_eq.1 c2]; rfl
     rw[r];cases q.2.1==2 <;> cases q.2.2.2 <;> rfl
   | false=>cases m0 q.2.2.1 0 500 <;> cases q.2.1==2 <;> cases q.2.2.2 <;> rfl
  ·have c:¬((i:Int)==(l.length:Int)-1)=true:=by rw[beq_iff_eq]; omega
   rw[if_neg c,if_neg j];generalize l.getD i (b7 y233)=q;have k:(q.2.1 != 1||!m0 q.2.2.1 0 500)=!(m0 q.2.2.1 0 500&&q.2.1==1):=by
    rw[Bool.not_and,Bool.or_comm]; rfl
   rw[k]) (fun i s hi e _=>by unfold Y7; rw[List.length_append,e]; rfl) (fun g s _=>aE) [] rfl
 refine d.trans ?_;rw[Jn];have E:wf (.sl .str) (l.map fun q:I2=>q.1):=Jm h fun x w=>(f.2 x w).1;have H:Cs l=some (l.length:Int):=rfl;have u:∀v:List ByteArray,wf (.sl .str) v->Lu l v=some (m0 (l.length:Int) 2 5&&C8 v.length fun i=>v.getD i (b7 .str)):=fun v P=>by
  rw[Lu];rw[H,ME _ P]
  repeat rw[vS]
  rw[Y5,vS,gP ⟨rfl,rfl,fun _=>rfl,trivial⟩]
 rw[u _ E,Jl l (fun q:I2=>q.1) (b7 y233)];unfold Ay;have y:m0 (l.length:Int) 2 5=(decide (2<=l.length)&&decide (l.length<=5)):=by
  rw[Bool.eq_iff_iff,y9]; simp; omega
 rw[y];cases(List.range l.length).any fun i=>!Bg l.length (l.getD i (b7 y233)) i
 ·simp
 ·simp
theorem N0B(c:m4)(X:wf y64 c):KH c=some (if Ay c.2.2.1.length (r4 c)=true then(I5 c.2.2.1.length (r4 c),true) else(0,false)):=by
 have t:=VT X;have h:=t.1;unfold KH;by_cases l:2<=c.2.2.1.length/\c.2.2.1.length<=5
 ·have j:(decide ((c.2.2.1.length:Int)<2)||decide (5 < (c.2.2.1.length:Int)))=false:=by
   rw[<- Bool.not_eq_true]; simp; omega
  rw[j,if_neg (by simp)];have m:=MG (n:=c.2.2.1.length) h (fun i (s:Int)=>(s,(i:Int))) (fun i s=>if(r4 c i).2.2.2=true then s+1 else s) (fun i=>(!I4 (r4 c i).1||O7 (fun i=>(r4 c i).1) i)||!Bg c.2.2.1.length (r4 c i) i) (some ((0:Int),false)) (fun i s=>0<=s/\s<=i) (J:=TD) (F:=A0q c) (fun g i s hi o=>by
   refine(if_pos (by simpa using hi)).trans ?_;have v:((i:Int)).toNat=i:=rfl;have u:(r4 c i).1.size<=9223372036854775807:=(Y6 (d:=b7 y233) hi t).1;rw[v,gP ⟨oo,trivial⟩,lE];have a:=H5 (n:=i) (by omega) (fun k=>decide ((r4 c k).1=(r4 c i).1)) (some ((0:Int),false)) (e:=OR (i:Int) s (r4 c i) c g ()) (F:=A0p c (r4 c i) (i:Int) s g) (fun Q k z=>BO z (by omega) ⟨oo,trivial⟩) (fun Q=>aE);refine a.trans ?_;have y:OR (i:Int) s (r4 c i) c g ()=if(!I4 (r4 c i).1||!Bg c.2.2.1.length (r4 c i) i)=true then some ((0:Int),false) else g (if(r4 c i).2.2.2=true then s+1 else s,((i+1:Nat):Int)):=by
    have r:∀f,OQ (i:Int) g f=g (f,((i+1:Nat):Int)):=fun f=>gP ⟨oo,trivial⟩;show gd _ (if(!vl (Ab (r4 c i).1)||!vl (u4 (r4 c i).2.2.1 0 500))=true then _ else gd _ (if _=true then _ else if _=true then gd _ _ else _))=_;rw[Qy _ u,R7,vS,vS,gP ⟨rfl,fun _=>rfl,trivial⟩,gP ⟨oo,fun _=>oo,trivial⟩,gP ⟨oo,trivial⟩,r,r];generalize r4 c i=q;have H:((i:Int)==(c.2.2.1.length:Int)-1)=decide (i+1=c.2.2.1.length):=by
     rw[Bool.eq_iff_iff,beq_iff_eq,dq]; omega
    have V:decide ((i:Int) < (c.2.2.1.length:Int)-1)=!decide (i+1=c.2.2.1.length):=by
     rw[Bool.eq_iff_iff]; simp; omega
    rw[H,V];have hz:Bg c.2.2.1.length q i=(m0 q.2.2.1 0 500&&(if decide (i+1=c.2.2.1.length)=true then q.2.1==2&&q.2.2.1==0&&!q.2.2.2 else q.2.1==1)):=by
     unfold Bg;by_cases b:i+1=c.2.2.1.length
     ·rw[if_pos b,decide_eq_true b,if_pos rfl]
     ·rw[if_neg b,decide_eq_false b,if_neg (by simp)]
    rw[hz];have E:(q.2.1 != 2)=!(q.2.1==2):=rfl;have W:(q.2.2.1 != 0)=!(q.2.2.1==0):=rfl;have n3:(q.2.1 != 1)=!(q.2.1==1):=rfl;rw[E,W,n3];cases I4 q.1 <;> cases m0 q.2.2.1 0 500 <;> cases decide (i+1=c.2.2.1.length) <;> cases q.2.1==2 <;> cases q.2.2.1==0 <;> cases q.2.1==1 <;> cases q.2.2.2 <;> rfl
   rw[y];have w:O7 (fun i=>(r4 c i).1) i=(List.range i).any fun k=>decide ((r4 c k).1=(r4 c i).1):=rfl;rw[w];cases I4 (r4 c i).1 <;> cases Bg c.2.2.1.length (r4 c i) i <;> cases(List.range i).any (fun k=>decide ((r4 c k).1=(r4 c i).1)) <;> rfl) (fun i s hi o _=>by
   have T:0<=s/\s<=(i:Int):=o;show 0<=(if(r4 c i).2.2.2=true then s+1 else s)/\(if(r4 c i).2.2.2=true then s+1 else s)<=((i+1:Nat):Int);split <;> omega) (fun g s _=>aE) 0 oo
  refine m.trans ?_;rw[Qt];unfold Ay C8;rw[decide_eq_true l.1,decide_eq_true l.2];cases(List.range c.2.2.1.length).any (fun i=>!I4 (r4 c i).1||O7 (fun i=>(r4 c i).1) i) <;> cases(List.range c.2.2.1.length).any (fun i=>!Bg c.2.2.1.length (r4 c i) i) <;> rfl
 ·have j:(decide ((c.2.2.1.length:Int)<2)||decide (5 < (c.2.2.1.length:Int)))=true:=by
   simp; omega
  have P:¬Ay c.2.2.1.length (r4 c)=true:=fun x=>by
   obtain⟨Y,G,_⟩:=Jb x;exact l ⟨Y,G⟩
  rw[if_pos j,if_neg P]
theorem N0E(c:m4)(k:wf y64 c):GI c=some (GZ (Dt c.2.2.1.length (r4 c)) c.2.2.2.1.length (m8 c)):=by
 have d:=VU k;have h:=d.1;have m:∀(a:List z7) (o:z7),a.length<=9223372036854775807->Lt a o=some (a.any fun x=>x.1==o.1&&x.2.1==o.2.1&&x.2.2.1==o.2.2.1):=fun a o l=>by
  have s:Pu a o=_:=CD l (fun i=>(a.getD i (b7 y67)).1==o.1&&(a.getD i (b7 y67)).2.1==o.2.1&&(a.getD i (b7 y67)).2.2.1==o.2.2.1) (fun g i hi=>He hi l rfl) (fun g=>aE);have f:Lt a o=_:=Hf s;rw[T6 a (b7 y67) (fun x=>x.1==o.1&&x.2.1==o.2.1&&x.2.2.1==o.2.2.1)] at f;exact f
 have b:=H5 (n:=c.2.2.2.1.length) h (fun i=>!Dt c.2.2.1.length (r4 c) (m8 c i)||Ja (m8 c) i) (some false) (e:=Pv c ()) (F:=A0s c) (fun g i hi=>by
  have r:((i:Int)).toNat=i:=rfl;have t:(c.2.2.2.1.take i).length<=9223372036854775807:=by rw[List.length_take]; omega
  have q:=N0x c (m8 c i) k (Y6 hi d);have j:=m (c.2.2.2.1.take i) (m8 c i) t;rw[u0j c.2.2.2.1 (b7 y67) _ i (by omega)] at j;refine(if_pos (by grind)).trans ?_;rw[r,gP ⟨oo,trivial⟩,lE,q,j,vS,vS,gP ⟨rfl,fun _=>⟨by omega,by omega,by omega⟩,fun _=>rfl,trivial⟩,gP ⟨oo,trivial⟩];rfl) (fun g=>aE)
 refine b.trans ?_;unfold GZ Pv;have e:decide ((c.2.2.2.1.length:Int)<=8)=decide (c.2.2.2.1.length<=8):=by rw[decide_eq_decide]; omega
 rw[e];cases(List.range c.2.2.2.1.length).any fun i=>!Dt c.2.2.1.length (r4 c) (m8 c i)||Ja (m8 c) i
 ·simp
 ·simp
theorem MH{n:Nat}(h:1<=n):((n:Int)-1).toNat=n-1:=by omega
theorem N0D(c:m4)(a:wf y64 c)(v:2<=c.2.2.1.length)(r:c.2.2.1.length<=5):Pp c=some (Jc c.2.1 c.2.2.1.length (r4 c) c.2.2.2.1.length (m8 c) c.2.2.2.2.1):=by
 have u:=VT a;have h:=u.1;have o:=a.2.2.2.2.1.1;have j:=lF (n:=c.2.2.1.length) h (fun i (s:Int)=>(s,(i:Int))) (fun i s=>if(r4 c i).2.2.2=true then s+1 else s) (fun i s=>0<=s/\s<=i) (J:=Iy c) (F:=A0r c) (fun g i s hi m=>by
  have k:∀f,Po (i:Int) g f=g (f,((i+1:Nat):Int)):=fun f=>gP ⟨oo,trivial⟩;have t:((i:Int)).toNat=i:=rfl;refine(if_pos (by grind)).trans ?_;rw[t,gP ⟨oo,trivial⟩,lE,gP ⟨oo,trivial⟩,k,k]
  grind) (fun i s hi m=>by
  omega) (fun g s _=>aE) 0 oo
 refine j.trans ?_;show Iy c (I5 c.2.2.1.length (r4 c))=_;have q:∀b:Int,Iy c b=some (if c.2.1=1 then b==0&&(c.2.2.2.2.1.length:Int)==1*2 ^ (c.2.2.1.length-1)&&c.2.2.2.2.1.all (m0 · 0 1)
  else if c.2.1=2 then b==1&&(c.2.2.2.2.1.length:Int)==0&&!C9 c.2.2.2.1.length (m8 c) 1&&!(C9 c.2.2.2.1.length (m8 c) 2==C9 c.2.2.2.1.length (m8 c) 3)
  else if c.2.1=3 then b==1&&(c.2.2.2.2.1.length:Int)==0&&C9 c.2.2.2.1.length (m8 c) 1&&C9 c.2.2.2.1.length (m8 c) 2&&!C9 c.2.2.2.1.length (m8 c) 3
  else false):=fun b=>by
  rw[Iy,VQ c a,Hg _ _ _ o,VR c a,VR c a,VR c a]
  repeat rw[vS]
  rw[MH (by omega)];by_cases d:c.2.1=1
  ·rw[if_pos (beq_iff_eq.2 d),if_pos d,gP ⟨fun _=>rfl,fun _=>⟨by omega,B0H r⟩,fun _=>rfl,trivial⟩,lE,MH (by omega)]
  ·rw[if_neg (by grind),if_neg d];by_cases e:c.2.1=2
   ·rw[if_pos (beq_iff_eq.2 e),if_pos e,gP ⟨fun _=>rfl,fun _=>rfl,fun _=>rfl,trivial⟩]
   ·rw[if_neg (by grind),if_neg e];by_cases l:c.2.1=3
    ·rw[if_pos (beq_iff_eq.2 l),if_pos l,gP ⟨fun _=>rfl,fun _=>rfl,fun _=>rfl,trivial⟩]
    grind
 exact q (I5 c.2.2.1.length (r4 c))
abbrev Bi(q:Nat->(Nat->N5)->D8->Bool)(c:m4):Bool:=T7 q c.1 c.2.1 c.2.2.1.length (r4 c) c.2.2.2.1.length (m8 c) c.2.2.2.2.1 c.2.2.2.2.2.1 c.2.2.2.2.2.2
theorem N0K(c:m4)(b:wf y64 c)(d:c.2.2.1.length<=1048576):Lv c=some (Bi F2 c):=by
 have f:=VT b;show _=some (T7 F2 _ _ _ _ _ _ _ _ _);rw[<- E0G];unfold Lv T7;rw[VM c.1 b.1,N0F _ f d,N0E c b,Y5,Y5]
 repeat rw[vS]
 cases hpo:Ay c.2.2.1.length (r4 c) with
 | false =>
   rw[gP ⟨rfl,fun _=>rfl,fun a=>by simp at a,fun a=>by simp at a,fun a=>by simp at a,fun a=>by simp at a,trivial⟩];simp
 | true =>
   obtain⟨g,e,_⟩:=Jb hpo;rw[N0D c b g e,vS,gP ⟨rfl,fun _=>rfl,fun _=>rfl,fun _=>rfl,fun _=>rfl,fun _=>rfl,trivial⟩]
theorem N0z(c:m4)(q:wf y64 c)(z:c.2.2.2.1.length<=8)(k:∀i,i<c.2.2.2.1.length->1<=(m8 c i).1/\(m8 c i).1<=5):KD c=some (fN (Hb (m8 c)) c.2.2.2.1.length (List.replicate 6 0)):=by
 have h:=(VU q).1;unfold KD;rw[gP ⟨⟨by omega,rfl,by decide,by omega⟩,trivial⟩];have r:=lF (n:=c.2.2.2.1.length) h (fun i (v:List Int)=>((i:Int),v)) (Hb (m8 c)) (fun i v=>i<=c.2.2.2.1.length/\v=fN (Hb (m8 c)) i (List.replicate 6 0)) (J:=fun v=>some v) (F:=ZV c) (fun g i v hi e=>by
  obtain⟨u,o⟩:=Vx (m8 c) i (fun j y=>k j (by omega));obtain⟨w,x⟩:=k i hi;have l:v.length=6:=by rw[e.2]; exact u
  have a:=o (m8 c i).1.toNat (by omega);have t:=Mx (m8 c) ((m8 c i).1.toNat:Int) i;rw[<- e.2] at a;have m:((i:Int)).toNat=i:=rfl;refine(if_pos (by grind)).trans ?_;have f:c9 (v.getD (m8 c i).1.toNat 0+1):=by rw[a]; exact oo
  have b:ix (m8 c i).1 v.length:=oo;have d:(m8 c i).1.toNat<v.length:=by omega
  rw[m,gP ⟨oo,b,d,f,b,d,trivial⟩,lE,gP ⟨oo,trivial⟩];rfl) (fun i v hi e=>⟨by omega,by rw[e.2]; rfl⟩) (fun g s _=>aE) (List.replicate 6 0) ⟨by omega,rfl⟩
 grind
theorem N0J(c:m4)(f:wf y64 c):KJ c=some (Bi F2 c):=by
 have Y:=VU f;have h:=Y.1;show _=some (T7 F2 _ _ _ _ _ _ _ _ _);unfold KJ T7;rw[N0B c f,Qy c.1 f.1,R7,R7]
 repeat rw[vS]
 rw[gP ⟨rfl,trivial⟩,lE,gP ⟨fun _=>rfl,fun _=>rfl,fun _=>rfl,trivial⟩];cases hpo:Ay c.2.2.1.length (r4 c) with
 | false =>
   grind
 | true =>
   obtain⟨h2,h5,_⟩:=Jb hpo;have e9:(if true=true then(I5 c.2.2.1.length (r4 c),true) else((0:Int),false))=(I5 c.2.2.1.length (r4 c),true):=rfl;rw[e9];by_cases t:I4 c.1=true/\c.2.2.2.1.length<=8/\m0 c.2.2.2.2.2.1 0 100000=true/\m0 c.2.2.2.2.2.2 0 100000=true
   ·obtain⟨g1,W,w,g4⟩:=t;have e0:decide (8 < (c.2.2.2.1.length:Int))=false:=decide_eq_false (by omega);rw[g1,e0,w,g4];refine(if_neg (by simp)).trans ?_;have E:=H5 (n:=c.2.2.2.1.length) h (fun i=>!F2 c.2.2.1.length (r4 c) (m8 c i)||Ja (m8 c) i) (some false) (e:=OS c (I5 c.2.2.1.length (r4 c),true) ()) (F:=A0B c (I5 c.2.2.1.length (r4 c),true)) (fun g i hi=>by
     have e3:((i:Int)).toNat=i:=rfl;have e1:=N0A c (m8 c i) f (Y6 hi Y);have d:=H5 (n:=i) (by omega) (fun k=>(m8 c k).1==(m8 c i).1&&(m8 c k).2.1==(m8 c i).2.1&&(m8 c k).2.2.1==(m8 c i).2.2.1) (some false) (e:=g ((i:Int)+1)) (F:=A0A c (m8 c i) (i:Int) g) (fun w k hk=>BO hk (by omega) ⟨oo,fun _=>oo,fun _=>oo,trivial⟩) (fun w=>by
      refine aE.trans ?_;exact gP ⟨oo,trivial⟩)
     refine(if_pos (by grind)).trans ?_;rw[e3,gP ⟨oo,trivial⟩,lE,e1,vS,gP ⟨rfl,trivial⟩,d];unfold Ja
     grind) (fun g=>aE)
    refine E.trans ?_;unfold GZ;rw[decide_eq_true W];cases hany:(List.range c.2.2.2.1.length).any fun i=>!F2 c.2.2.1.length (r4 c) (m8 c i)||Ja (m8 c) i with
    | true=>simp
    | false =>
      rw[if_neg (by simp)];have b:∀i,i<c.2.2.2.1.length->F2 c.2.2.1.length (r4 c) (m8 c i)=true:=fun i hi=>by
       grind
      have l:=N0z c f W (fun i hi=>n0I (b i hi));obtain⟨z,a⟩:=Vx (m8 c) c.2.2.2.1.length (fun i hi=>n0I (b i hi));have X:=a 1 (by omega);have c2:=a 2 (by omega);have P:=a 3 (by omega);rw[OS,l,vS,gP ⟨rfl,trivial⟩,lE];generalize fN (Hb (m8 c)) c.2.2.2.1.length (List.replicate 6 0)=v at *
      have q1:((v.getD 1 0)==(0:Int))=!C9 c.2.2.2.1.length (m8 c) 1:=by
       rw[X,Jd];have:=(Mx (m8 c) 1 c.2.2.2.1.length).1;rw[Bool.eq_iff_iff]; simp; omega
      have G:decide (0<v.getD 1 0)=C9 c.2.2.2.1.length (m8 c) 1:=by rw[X,Jd]; rfl
      have V:decide (0<v.getD 2 0)=C9 c.2.2.2.1.length (m8 c) 2:=by rw[c2,Jd]; rfl
      have q3:decide (0<v.getD 3 0)=C9 c.2.2.2.1.length (m8 c) 3:=by rw[P,Jd]; rfl
      have r:((v.getD 3 0)==(0:Int))=!C9 c.2.2.2.1.length (m8 c) 3:=by
       rw[P,Jd];have:=(Mx (m8 c) 3 c.2.2.2.1.length).1;rw[Bool.eq_iff_iff]; simp; omega
      have H:ix (1:Int) v.length:=oo;have i2:ix (2:Int) v.length:=oo;have i3:ix (3:Int) v.length:=oo;have T:Int.toNat (1:Int)<v.length:=by rw[z]; decide
      have n2:Int.toNat (2:Int)<v.length:=by rw[z]; decide
      have n3:Int.toNat (3:Int)<v.length:=by rw[z]; decide
      unfold Jc;by_cases o:c.2.1=1
      ·rw[if_pos (beq_iff_eq.2 o),if_pos o];have Q:=f.2.2.2.2.1.1;have j:=H5 (n:=c.2.2.2.2.1.length) Q (fun i=>!m0 (c.2.2.2.2.1.getD i 0) 0 1) (some false) (e:=KI (I5 c.2.2.1.length (r4 c),true) c ()) (F:=A0z c (I5 c.2.2.1.length (r4 c),true)) (fun g i hi=>BO hi Q ⟨oo,rfl,trivial⟩) (fun g=>aE);refine j.trans ?_;rw[T6 c.2.2.2.2.1 0 (fun x=>!m0 x 0 1),<- Bf];have e5:KI (I5 c.2.2.1.length (r4 c),true) c ()=some (I5 c.2.2.1.length (r4 c)==0&&(c.2.2.2.2.1.length:Int)==1*2 ^ (c.2.2.1.length-1)):=by
        rw[KI,MH (by omega),gP ⟨fun _=>oo,fun _=>oo,fun _=>⟨by omega,B0H h5⟩,trivial⟩]
       rw[e5];cases c.2.2.2.2.1.any fun x=>!m0 x 0 1 <;> simp
      ·rw[if_neg (by simpa using o),if_neg o];by_cases m:c.2.1=2
       ·rw[if_pos (beq_iff_eq.2 m),if_pos m,gP ⟨fun _=>H,fun _=>T,fun _=>i2,fun _=>n2,fun _=>i3,fun _=>n3,trivial⟩];have s:Int.toNat (1:Int)=1:=rfl;have y:Int.toNat (2:Int)=2:=rfl;have q:Int.toNat (3:Int)=3:=rfl;rw[s,y,q,q1,V,q3];cases I5 c.2.2.1.length (r4 c)==1 <;> cases(c.2.2.2.2.1.length:Int)==0 <;> cases C9 c.2.2.2.1.length (m8 c) 1 <;> cases C9 c.2.2.2.1.length (m8 c) 2 <;> cases C9 c.2.2.2.1.length (m8 c) 3 <;> rfl
       ·rw[if_neg (by simpa using m),if_neg m];by_cases u:c.2.1=3
        ·rw[if_pos (beq_iff_eq.2 u),if_pos u,gP ⟨fun _=>H,fun _=>T,fun _=>i2,fun _=>n2,fun _=>i3,fun _=>n3,trivial⟩];have s:Int.toNat (1:Int)=1:=rfl;have y:Int.toNat (2:Int)=2:=rfl;have q:Int.toNat (3:Int)=3:=rfl;rw[s,y,q,G,V,r];cases I5 c.2.2.1.length (r4 c)==1 <;> cases(c.2.2.2.2.1.length:Int)==0 <;> cases C9 c.2.2.2.1.length (m8 c) 1 <;> cases C9 c.2.2.2.1.length (m8 c) 2 <;> cases C9 c.2.2.2.1.length (m8 c) 3 <;> rfl
        ·rw[if_neg (by grind),if_neg u];rfl
   grind[I4,decide,m0,trans,GZ]
abbrev P5(l:List m4)(i:Nat):m4:=l.getD i (b7 y64)
abbrev CE(l:List m4):Bool:=CB l.length (fun i=>Bi F2 (P5 l i)) (fun i=>(P5 l i).1)
theorem w0r{c:m4}(h:Bi F2 c=true):I4 c.1=true:=by
 have h:T7 F2 _ _ _ _ _ _ _ _ _=true:=h;unfold T7 at h;simp only[ba] at h;exact h.1.1.1.1.1
theorem N0X(l:List m4)(a:wf (.sl y64) l)(j:cnt (.sl y64) l<=1048576):Lx l=some (CE l):=by
 have h:=a.1;have w:=Bj j;have d:=MG (n:=l.length) h (fun i (s:List ByteArray)=>(s,(i:Int))) (Y7 fun i=>(P5 l i).1) (fun i=>!Bi F2 (P5 l i)) (some false) (fun i s=>s.length=i) (J:=Lw l) (F:=B0f l) (fun g i s hi f=>by
  have q:((i:Int)).toNat=i:=rfl;have e:cnt y64 (P5 l i)<=1048576:=I0C hi j;have r:(P5 l i).2.2.1.length<=1048576:=Bj (cF (cS (cS e)));have k:=N0K (P5 l i) (Y6 hi a) r;have y:=Qz (b:=16) hi w (by decide);refine(if_pos (by simpa using hi)).trans ?_;rw[q,gP ⟨oo,trivial⟩,lE,k,vS,gP ⟨rfl,trivial⟩,gP ⟨⟨by show s.length+1<=_; omega,by show(s.length+1)*16<=_; omega⟩,trivial⟩,gP ⟨oo,trivial⟩];rfl) (fun i s hi f _=>by unfold Y7; rw[List.length_append,f]; rfl) (fun g s _=>aE) [] rfl
 refine d.trans ?_;rw[Jn l (b7 y64) (fun c:m4=>c.1)];have o:wf (.sl .str) (l.map fun c:m4=>c.1):=Jm h fun x u=>(a.2 x u).1;have m:∀v:List ByteArray,wf (.sl .str) v->Lw l v=some (decide (l.length<=8)&&C8 v.length fun i=>v.getD i (b7 .str)):=fun v t=>by
  have e8:decide ((l.length:Int)<=8)=decide (l.length<=8):=by rw[decide_eq_decide]; omega
  rw[Lw,ME _ t,vS,gP ⟨fun _=>rfl,trivial⟩,e8]
 rw[m _ o,Jl l (fun c:m4=>c.1) (b7 y64)];show _=some (CB _ _ _);rw[<- I0j (fun i _ e=>w0r e)];split <;> rfl
theorem N0O(l:List m4)(c:wf (.sl y64) l):KK l=some (CE l):=by
 have h:=c.1;have b:=H5 (n:=l.length) h (fun i=>!Bi F2 (P5 l i)||O7 (fun i=>(P5 l i).1) i) (some false) (e:=OT l ()) (F:=A0W l) (fun g i hi=>by
  have m:((i:Int)).toNat=i:=rfl;have f:=N0J (P5 l i) (Y6 hi c);have a:=H5 (n:=i) (by omega) (fun k=>decide ((P5 l k).1=(P5 l i).1)) (some false) (e:=g ((i:Int)+1)) (F:=A0V l (i:Int) g) (fun d k j=>BO j (by omega) ⟨oo,oo,trivial⟩) (fun d=>by
   refine aE.trans ?_;exact gP ⟨oo,trivial⟩)
  refine(if_pos (by simpa using hi)).trans ?_;rw[m,f,vS,gP ⟨oo,rfl,trivial⟩,a];unfold O7;cases Bi F2 (P5 l i) <;> cases(List.range i).any (fun k=>decide ((P5 l k).1=(P5 l i).1)) <;> rfl) (fun g=>aE)
 refine b.trans ?_;show _=some (CB _ _ _);unfold CB OT;have e8:decide ((l.length:Int)<=8)=decide (l.length<=8):=by rw[decide_eq_decide]; omega
 rw[e8];cases(List.range l.length).any (fun i=>!Bi F2 (P5 l i)||O7 (fun i=>(P5 l i).1) i) <;> rfl
abbrev m5(d:r6)(i:Nat):m9:=d.1.getD i (b7 y139)
abbrev A6(d:r6)(i:Nat):r9:=d.2.2.getD i (b7 y202)
abbrev Y8(l:List m4)(x:Int):Nat:=(l.getD x.toNat (b7 y64)).2.2.1.length
abbrev Hh(l:List m4)(d:r6):Bool:=CC (CE l) l.length (Y8 l) d.1.length d.2.2.length d.2.1.length (m5 d) (A6 d) (fun i=>d.2.1.getD i (b7 .str))
theorem M0f(d:r6)(a:wf y31 d)(x:Int):GF d x=some (m0 x 0 ((d.2.1.length:Int)-1)):=by
 have h:=a.2.1.1;have e:Ix d.2.1=some (d.2.1.length:Int):=rfl;unfold GF;rw[e]
 repeat rw[vS]
 rw[Y5,vS,gP ⟨rfl,oo,rfl,trivial⟩]
theorem N0V(d:r6)(l:List m4)(x:m9)(j:wf y31 d)(n:wf (.sl y64) l)(k:wf y139 x):Ln d l x=some (R3 l.length (Y8 l) d.2.1.length x):=by
 have h:=n.1;have a:=k.2.2.1;have e:Fk l=some (l.length:Int):=rfl;have c:∀y,Lm y d=some (!m0 y 0 ((d.2.1.length:Int)-1)):=fun y=>by
  unfold Lm;rw[M0f d j,gP ⟨rfl,trivial⟩,vS]
 have m:Pf x.2.2 d=_:=CD a (fun i=>!m0 (x.2.2.getD i 0) 0 ((d.2.1.length:Int)-1)) (fun g i hi=>He hi a (c _)) (fun g=>aE);have b:Pg x.2.2 d=_:=Hf m;rw[T6 x.2.2 0 (fun y=>!m0 y 0 ((d.2.1.length:Int)-1))] at b;unfold Ln;rw[e,b]
 repeat rw[vS]
 rw[Y5,vS,gP ⟨rfl,oo,rfl,fun f=>by
  have:=y9.1 f.1;exact oo,fun _=>rfl,trivial⟩,Bf]
 rfl
theorem N0W(d:r6)(h:wf y31 d)(u:cnt y31 d<=1048576):Pl d=some (decide (d.1.length<=14)&&decide (d.2.1.length<=30)&&decide (d.2.2.length<=8)&&C8 d.1.length (fun i=>(m5 d i).1)&&C8 d.2.1.length (fun i=>d.2.1.getD i (b7 .str))&&C8 d.2.2.length (fun i=>(A6 d i).1)):=by
 have j:=h.1.1;have f:=h.2.2.1;have q:d.1.length<=1048576:=Bj (cF u);have m:d.2.2.length<=1048576:=Bj (cS (cS u));have t:=lF (n:=d.1.length) j (fun i (s:List ByteArray)=>(s,(i:Int))) (Y7 fun i=>(m5 d i).1) (fun i s=>s.length=i) (J:=Lp d) (F:=B0e d) (fun g i s hi e=>by
  have k:((i:Int)).toNat=i:=rfl;have Q:=Qz (b:=16) hi q (by decide);refine(if_pos (by simpa using hi)).trans ?_;rw[k,gP ⟨oo,trivial⟩,lE,gP ⟨⟨by show s.length+1<=_; omega,by show(s.length+1)*16<=_; omega⟩,trivial⟩,gP ⟨oo,trivial⟩];rfl) (fun i s hi e=>by unfold Y7; rw[List.length_append,e]; rfl) (fun g s _=>aE) [] rfl
 refine t.trans ?_;rw[Jn d.1 (b7 y139) (fun c:m9=>c.1)];have l:wf (.sl .str) (d.1.map fun c:m9=>c.1):=Jm j fun x o=>(h.1.2 x o).1;have r:wf (.sl .str) (d.2.2.map fun c:r9=>c.1):=Jm f fun x o=>(h.2.2.2 x o).1;have E:∀v:List ByteArray,wf (.sl .str) v->v.length=d.1.length->Lp d v=some (decide (d.1.length<=14)&&decide (d.2.1.length<=30)&&decide (d.2.2.length<=8)&&(C8 v.length fun i=>v.getD i (b7 .str))&&C8 d.2.1.length (fun i=>d.2.1.getD i (b7 .str))&&C8 d.2.2.length (fun i=>(A6 d i).1)):=fun v V G=>by
  rw[Lp];have a:=lF (n:=d.2.2.length) f (fun i (s:List ByteArray)=>(s,(i:Int))) (Y7 fun i=>(A6 d i).1) (fun i s=>s.length=i) (J:=Lo v d) (F:=B0d d v) (fun g i s hi e=>by
   have k:((i:Int)).toNat=i:=rfl;have Q:=Qz (b:=16) hi m (by decide);refine(if_pos (by simpa using hi)).trans ?_;rw[k,gP ⟨oo,trivial⟩,lE,gP ⟨⟨by show s.length+1<=_; omega,by show(s.length+1)*16<=_; omega⟩,trivial⟩,gP ⟨oo,trivial⟩];rfl) (fun i s hi e=>by unfold Y7; rw[List.length_append,e]; rfl) (fun g s _=>aE) [] rfl
  refine a.trans ?_;rw[Jn d.2.2 (b7 y202) (fun c:r9=>c.1)];have y:∀z:List ByteArray,wf (.sl .str) z->z.length=d.2.2.length->Lo v d z=some (decide (d.1.length<=14)&&decide (d.2.1.length<=30)&&decide (d.2.2.length<=8)&&(C8 v.length fun i=>v.getD i (b7 .str))&&C8 d.2.1.length (fun i=>d.2.1.getD i (b7 .str))&&C8 z.length (fun i=>z.getD i (b7 .str))):=fun z hz w=>by
   have H:decide ((v.length:Int)<=14)=decide (d.1.length<=14):=by rw[decide_eq_decide]; omega
   have P:decide ((d.2.1.length:Int)<=30)=decide (d.2.1.length<=30):=by rw[decide_eq_decide]; omega
   have T:decide ((z.length:Int)<=8)=decide (d.2.2.length<=8):=by rw[decide_eq_decide]; omega
   rw[Lo,ME _ V,ME _ hz,ME _ h.2.1,vS,vS,vS,gP ⟨fun _=>rfl,fun _=>rfl,fun _=>rfl,trivial⟩,H,P,T]
  rw[y _ r (List.length_map _),Jl d.2.2 (fun c:r9=>c.1) (b7 y202)]
 rw[E _ l (List.length_map _),Jl d.1 (fun c:m9=>c.1) (b7 y139)]
theorem QA{l:List m4}(h:CE l=true){x:Int}(b:m0 x 0 ((l.length:Int)-1)=true):2<=Y8 l x/\Y8 l x<=5:=by
 have h:CB _ _ _=true:=h;unfold CB at h;rw[ba] at h;rw[y9] at b;have:=BL.1 h.1 x.toNat (by omega);rw[Bool.or_eq_false_iff,Bool.not_eq_false'] at this;have a:T7 F2 _ _ _ _ _ _ _ _ _=true:=this.1;unfold T7 at a;simp only[ba] at a;have:=Jb a.1.1.1.1.2
 grind
theorem VV{a b:Nat}{pins:Int->Nat}{x:D9}(h:R3 a pins b x=true)(c:∀y,m0 y 0 ((a:Int)-1)=true->2<=pins y):1<=x.2.2.length/\m0 (x.2.2.getD (x.2.2.length-1) 0) 0 ((b:Int)-1)=true:=by
 grind[R3]
theorem N0N(l:List m4)(d:r6)(t:wf (.sl y64) l)(c:wf y31 d):OO l d=some (!((List.range d.1.length).any fun i=>!R3 l.length (Y8 l) d.2.1.length (m5 d i))&&!((List.range d.2.2.length).any fun i=>!R4 d.2.1.length (A6 d i))):=by
 have h:=t.1;have m:=c.1.1;have j:=c.2.2.1;have r:=c.2.1.1;have w:ON d ()=some (!((List.range d.2.2.length).any fun i=>!R4 d.2.1.length (A6 d i))):=by
  have b:=H5 (n:=d.2.2.length) j (fun i=>!R4 d.2.1.length (A6 d i)) (some false) (e:=some true) (F:=ZQ d) (fun g i hi=>by
   have f:((i:Int)).toNat=i:=rfl;refine(if_pos (by grind)).trans ?_;rw[f,R7,R7,vS,vS,gP ⟨oo,rfl,fun _=>oo,fun _=>oo,fun _=>rfl,trivial⟩,gP ⟨oo,trivial⟩]
   grind[R4,Bool.not_and]) (fun g=>aE)
  refine b.trans ?_;cases(List.range d.2.2.length).any fun i=>!R4 d.2.1.length (A6 d i) <;> rfl
 have b:=H5 (n:=d.1.length) m (fun i=>!R3 l.length (Y8 l) d.2.1.length (m5 d i)) (some false) (e:=ON d ()) (F:=ZT d l) (fun g i hi=>by
  have f:((i:Int)).toNat=i:=rfl;have u:=Y6 (d:=b7 y139) hi c.1;have o:=u.2.2.1;refine(if_pos (by grind)).trans ?_;rw[f,gP ⟨oo,trivial⟩,lE,R7,vS,gP ⟨oo,rfl,fun v=>by
   have:=v.1;rw[Bool.not_eq_false'] at this;have:=y9.1 this;exact oo,trivial⟩]
  have a:=H5 (n:=(m5 d i).2.2.length) o (fun k=>!m0 ((m5 d i).2.2.getD k 0) 0 ((d.2.1.length:Int)-1)) (some false) (e:=g ((i:Int)+1)) (F:=ZS (m5 d i) d (i:Int) g) (fun q k s=>by
   refine(BO s o ⟨oo,oo,rfl,trivial⟩).trans ?_;rfl) (fun q=>by
   refine aE.trans ?_;exact gP ⟨oo,trivial⟩)
  rw[T6 (m5 d i).2.2 0 (fun y=>!m0 y 0 ((d.2.1.length:Int)-1))] at a;rw[a];unfold R3
  grind[Bf]) (fun g=>aE)
 refine b.trans ?_
 grind
theorem q0k(v:List Int):(!v.any fun x=>x != 1)=v.all (·==1):=Bf v (fun x=>x==1)
theorem VW{n b:Nat}(h:n<=1048576)(a:b<=4096):(0<=(n:Int)/\(n:Int)=(n:Int)/\(n:Int).toNat*b<=281474976710656/\(n:Int)<=9223372036854775807)/\True:=by
 have c:n*b<=1048576*4096:=Nat.mul_le_mul h a;exact⟨⟨by omega,rfl,by rw[Int.toNat_natCast]; omega,by omega⟩,trivial⟩
theorem MI{v:List Int}{n b:Nat}{x:Int}(h:Ad v n b)(e:b<=2097152)(d:m0 x 0 ((n:Int)-1)=true):ix x v.length/\x.toNat<v.length/\c9 (v.getD x.toNat 0+1)/\ix x v.length/\x.toNat<v.length/\True:=by
 obtain⟨a,c⟩:=y0M h d;have:=h.2 x.toNat;exact⟨a,c,oo,a,c,trivial⟩
theorem QB{n:Nat}(a:1<=n)(h:n<=9223372036854775807):c9 ((n:Int)-1)/\ix ((n:Int)-1) n:=⟨oo,oo⟩
theorem r82(l:List m4)(d:r6)(H:wf (.sl y64) l)(c:wf y31 d)(T:cnt (.sl y64) l<=1048576)(k:cnt y31 d<=1048576):Lz l d=some (Hh l d):=by
 have r:=c.1.1;have q:=c.2.2.1;have mi:d.1.length<=1048576:=Bj (cF k);have Q:d.2.1.length<=1048576:=Bj (cF (cS k));have mp:d.2.2.length<=1048576:=Bj (cS (cS k));show _=some (CC _ _ _ _ _ _ _ _ _);unfold Lz CC;rw[N0X l H T,N0W d c k,vS,vS,gP ⟨rfl,fun _=>rfl,trivial⟩];cases hlo:CE l with
 | false=>grind
 | true =>
   rw[Bool.true_and];cases hno:(decide (d.1.length<=14)&&decide (d.2.1.length<=30)&&decide (d.2.2.length<=8)&&C8 d.1.length (fun i=>(m5 d i).1)&&C8 d.2.1.length (fun i=>d.2.1.getD i (b7 .str))&&C8 d.2.2.length (fun i=>(A6 d i).1)) with
   | false=>grind
   | true =>
     refine(if_neg (by simp)).trans ?_;rw[gP (VW Q (by decide)),Int.toNat_natCast];have j:∀y,m0 y 0 ((l.length:Int)-1)=true->2<=Y8 l y:=fun y W=>(QA hlo W).1;have t:=MG (n:=d.1.length) r (fun i (v:List Int)=>((i:Int),v)) (T9 (m5 d)) (fun i=>!R3 l.length (Y8 l) d.2.1.length (m5 d i)) (some false) (fun i v=>i<=d.1.length/\Ad v d.2.1.length i) (J:=PA d) (F:=F0R d l) (fun g i v hi e=>by
      have o:((i:Int)).toNat=i:=rfl;have z:=Y6 (d:=b7 y139) hi c.1;refine(if_pos (by grind)).trans ?_;rw[o,gP ⟨oo,trivial⟩,lE,N0V d l _ c H z,vS,gP ⟨rfl,trivial⟩];cases hin:R3 l.length (Y8 l) d.2.1.length (m5 d i) with
      | false=>rfl
      | true =>
        obtain⟨m,V⟩:=VV hin j;have a:(m5 d i).2.2.length<=9223372036854775807:=z.2.2.1;refine(if_neg (by simp)).trans ?_;rw[MH m,gP ⟨(QB m a).1,(QB m a).2,MI e.2 (by omega) V⟩,lE,gP ⟨oo,trivial⟩];rfl) (fun i v hi e _=>⟨by omega,Je e.2 _⟩) (fun g v _=>aE) (List.replicate d.2.1.length 0) ⟨by omega,Qs _ _⟩
     refine t.trans ?_;cases hia:(List.range d.1.length).any fun i=>!R3 l.length (Y8 l) d.2.1.length (m5 d i) with
     | true=>simp
     | false =>
       refine(if_neg (by simp)).trans ?_;have b:=Vz (m5 d) d.2.1.length d.1.length;unfold Fx;generalize fN (T9 (m5 d)) d.1.length (List.replicate d.2.1.length 0)=v0 at *
       rw[PA];have f:=MG (n:=d.2.2.length) q (fun i (v:List Int)=>((i:Int),v)) (M5 (A6 d)) (fun i=>!R4 d.2.1.length (A6 d i)) (some false) (fun i v=>i<=d.2.2.length/\Ad v d.2.1.length (d.1.length+i)) (J:=Ly) (F:=F0Q d) (fun g i v hi e=>by
        have o:((i:Int)).toNat=i:=rfl;have G:∀s,Pz (i:Int) g s=g (((i+1:Nat):Int),s):=fun s=>gP ⟨oo,trivial⟩;refine(if_pos (by grind)).trans ?_;rw[o,gP ⟨oo,trivial⟩,lE,M0f d c,vS,gP ⟨fun _=>rfl,trivial⟩,G,G];have X:((A6 d i).2.1 != 1&&(A6 d i).2.1 != 2||!m0 (A6 d i).2.2 0 ((d.2.1.length:Int)-1))=!R4 d.2.1.length (A6 d i):=by
         unfold R4;rw[Bool.not_and];congr 1;rw[Bool.eq_iff_iff];simp only[ba,bne_iff_ne,Bool.not_eq_true',<- Bool.not_eq_true,y9];omega
        show(if((A6 d i).2.1 != 1&&(A6 d i).2.1 != 2||!m0 (A6 d i).2.2 0 ((d.2.1.length:Int)-1))=true then some false else _)=_;rw[X];cases hpo:R4 d.2.1.length (A6 d i) with
        | false=>rfl
        | true =>
          have h:m0 (A6 d i).2.2 0 ((d.2.1.length:Int)-1)=true:=by
           unfold R4 at hpo;rw[ba] at hpo;exact hpo.2
          refine(if_neg (by simp)).trans ?_;show _=g (_,M5 (A6 d) i v);unfold M5;by_cases E:(A6 d i).2.1=1
          ·rw[if_pos (beq_iff_eq.2 E),if_pos E];exact gP (MI e.2 (by omega) h)
          grind) (fun i v hi e _=>⟨by omega,by
          grind[M5,Je,Vy]⟩) (fun g v _=>aE) v0 ⟨by omega,b⟩
       refine f.trans ?_;cases hpa:(List.range d.2.2.length).any fun i=>!R4 d.2.1.length (A6 d i) with
       | true=>simp
       | false =>
         refine(if_neg (by simp)).trans ?_;have u:∀v:List Int,v.length<=9223372036854775807->Ly v=some (v.all (·==1)):=fun v u=>by
          have P:Px v=_:=CD u (fun i=>v.getD i 0 != 1) (fun g i hi=>He hi u rfl) (fun g=>aE);have w:Py v=_:=Hf P;rw[T6 v 0 (fun x=>x != 1)] at w;rw[Ly,w,vS,gP ⟨rfl,trivial⟩,q0k]
         have a:(fN (M5 (A6 d)) d.2.2.length v0).length<=9223372036854775807:=by
          have:∀n,(fN (M5 (A6 d)) n v0).length=v0.length:=by
           intro n
           induction n with
           | zero=>rfl
           | succ n Y =>
             grind[fN,M5,BK,List.length_set]
          rw[this,b.1]; omega
         grind
theorem r92(l:List m4)(d:r6)(hl:wf (.sl y64) l)(m:wf y31 d)(W:cnt y31 d<=1048576):KP l d=some (Hh l d):=by
 have q:=m.1.1;have o:=m.2.2.1;have mi:d.1.length<=1048576:=Bj (cF W);have mn:d.2.1.length<=1048576:=Bj (cF (cS W));have mp:d.2.2.length<=1048576:=Bj (cS (cS W));show _=some (CC _ _ _ _ _ _ _ _ _);unfold KP;rw[N0O l hl,N0N l d hl m,vS,vS,gP ⟨rfl,fun _=>rfl,trivial⟩];by_cases r:CE l=true/\d.1.length<=14/\d.2.1.length<=30/\d.2.2.length<=8/\((List.range d.1.length).any fun i=>!R3 l.length (Y8 l) d.2.1.length (m5 d i))=false/\((List.range d.2.2.length).any fun i=>!R4 d.2.1.length (A6 d i))=false
 ·obtain⟨Q,aA,X,h8,T,H⟩:=r;have a1:decide (14 < (d.1.length:Int))=false:=decide_eq_false (by omega);have a2:decide (30 < (d.2.1.length:Int))=false:=decide_eq_false (by omega);have a3:decide (8 < (d.2.2.length:Int))=false:=decide_eq_false (by omega);rw[Q,a1,a2,a3,T,H];refine(if_neg (by simp)).trans ?_;have P:∀y,m0 y 0 ((l.length:Int)-1)=true->2<=Y8 l y:=fun y hy=>(QA Q hy).1;have E:∀i,i<d.1.length->R3 l.length (Y8 l) d.2.1.length (m5 d i)=true:=fun i hi=>by
   grind
  have t:∀i,i<d.2.2.length->R4 d.2.1.length (A6 d i)=true:=fun i hi=>by
   grind
  have UR:∀v:List Int,v.length<=9223372036854775807->KL v=some (v.all (·==1)):=fun v u=>by
   rw[KL];have a:=H5 (n:=v.length) u (fun i=>v.getD i 0 != 1) (some false) (e:=some true) (F:=A0a v) (fun g i hi=>by
    refine(BO hi u ⟨oo,by omega,trivial⟩).trans ?_;rfl) (fun g=>aE)
   refine a.trans ?_;rw[T6 v 0 (fun x=>x != 1),<- q0k]
   grind
  have k7:∀v:List Int,Ad v d.2.1.length d.1.length->KM d v=some ((fN (M5 (A6 d)) d.2.2.length v).all (·==1)):=fun v0 h=>by
   rw[KM];have a:=lF (n:=d.2.2.length) o (fun i (v:List Int)=>((i:Int),v)) (M5 (A6 d)) (fun i v=>i<=d.2.2.length/\Ad v d.2.1.length (d.1.length+i)) (J:=KL) (F:=F0E d) (fun g i v hi b=>by
    have k:((i:Int)).toNat=i:=rfl;have j8:∀v',OU (i:Int) g v'=g (((i+1:Nat):Int),v'):=fun v'=>gP ⟨oo,trivial⟩;have G:m0 (A6 d i).2.2 0 ((d.2.1.length:Int)-1)=true:=by
     have:=t i hi;unfold R4 at this;rw[ba] at this;exact this.2
    refine(if_pos (by grind)).trans ?_;rw[k,gP ⟨oo,trivial⟩,j8];show(if((A6 d i).2.1==1)=true then _ else _)=g (_,M5 (A6 d) i v);unfold M5;by_cases k1:(A6 d i).2.1=1
    ·rw[if_pos (beq_iff_eq.2 k1),if_pos k1];refine(gP ⟨oo,MI b.2 (by omega) G⟩).trans ?_;rw[lE];exact j8 _
    grind) (fun i v hi b=>⟨by omega,by
    grind[M5,Je,Vy]⟩) (fun g v _=>aE) v0 ⟨by omega,h⟩
   refine a.trans (UR _ ?_);have:∀n,(fN (M5 (A6 d)) n v0).length=v0.length:=by
    intro n
    induction n with
    | zero=>rfl
    | succ n ih =>
      grind[fN,M5,BK,List.length_set]
   rw[this,h.1]; omega
  have k5:lp (TE d) ((0:Int),List.replicate d.2.1.length 0)=some ((Fx d.1.length d.2.2.length d.2.1.length (m5 d) (A6 d)).all (·==1)):=by
   have a:=lF (n:=d.1.length) q (fun i (v:List Int)=>((i:Int),v)) (T9 (m5 d)) (fun i v=>i<=d.1.length/\Ad v d.2.1.length i) (J:=KM d) (F:=TE d) (fun g i v hi b=>by
    have k:((i:Int)).toNat=i:=rfl;have w:=Y6 (d:=b7 y139) hi m.1;obtain⟨V,g2⟩:=VV (E i hi) P;have j:(m5 d i).2.2.length<=9223372036854775807:=w.2.2.1;refine(if_pos (by grind)).trans ?_;rw[k,gP ⟨oo,trivial⟩,lE,MH V,gP ⟨(QB V j).1,(QB V j).2,MI b.2 (by omega) g2⟩,lE,gP ⟨oo,trivial⟩];rfl) (fun i v hi b=>⟨by omega,Je b.2 _⟩) (fun g v _=>aE) (List.replicate d.2.1.length 0) ⟨by omega,Qs _ _⟩
   refine a.trans (k7 _ (Vz _ _ _))
  have Y:wf (.sl .str) (d.1.map fun c:m9=>c.1):=Jm q fun x w=>(m.1.2 x w).1;have aB:wf (.sl .str) (d.2.2.map fun c:r9=>c.1):=Jm o fun x w=>(m.2.2.2 x w).1;have k2:∀v z:List ByteArray,wf (.sl .str) v->wf (.sl .str) z->KN d v z=some ((C8 v.length fun i=>v.getD i (b7 .str))&&(C8 z.length fun i=>z.getD i (b7 .str))&&C8 d.2.1.length (fun i=>d.2.1.getD i (b7 .str))&&(Fx d.1.length d.2.2.length d.2.1.length (m5 d) (A6 d)).all (·==1)):=fun v z u hz=>by
   rw[KN,VN _ u,VN _ hz,VN _ m.2.1,vS,vS,vS,gP ⟨rfl,fun _=>rfl,fun _=>rfl,trivial⟩,gP (VW mn (by decide)),Int.toNat_natCast,k5];cases(C8 v.length fun i=>v.getD i (b7 .str)) <;> cases(C8 z.length fun i=>z.getD i (b7 .str)) <;> cases C8 d.2.1.length (fun i=>d.2.1.getD i (b7 .str)) <;> rfl
  have k3:∀v:List ByteArray,wf (.sl .str) v->KO d v=some ((C8 v.length fun i=>v.getD i (b7 .str))&&C8 d.2.2.length (fun i=>(A6 d i).1)&&C8 d.2.1.length (fun i=>d.2.1.getD i (b7 .str))&&(Fx d.1.length d.2.2.length d.2.1.length (m5 d) (A6 d)).all (·==1)):=fun v u=>by
   rw[KO];have a:=lF (n:=d.2.2.length) o (fun i (s:List ByteArray)=>((i:Int),s)) (Y7 fun i=>(A6 d i).1) (fun i s=>s.length=i) (J:=KN d v) (F:=F0F d v) (fun g i s hi b=>by
    have k:((i:Int)).toNat=i:=rfl;refine(if_pos (by grind)).trans ?_;rw[k,gP ⟨oo,⟨by grind,by grind⟩,trivial⟩,gP ⟨oo,trivial⟩];rfl) (fun i s hi b=>by grind[Y7,List.length_append]) (fun g s _=>aE) [] rfl
   refine a.trans ?_;rw[Jn d.2.2 (b7 y202) (fun c:r9=>c.1),k2 _ _ u aB,Jl d.2.2 (fun c:r9=>c.1) (b7 y202)]
  have a:=lF (n:=d.1.length) q (fun i (s:List ByteArray)=>((i:Int),s)) (Y7 fun i=>(m5 d i).1) (fun i s=>s.length=i) (J:=KO d) (F:=F0G d) (fun g i s hi b=>by
   have k:((i:Int)).toNat=i:=rfl;refine(if_pos (by grind)).trans ?_;rw[k,gP ⟨oo,⟨by grind,by grind⟩,trivial⟩,gP ⟨oo,trivial⟩];rfl) (fun i s hi b=>by grind[Y7,List.length_append]) (fun g s _=>aE) [] rfl
  refine a.trans ?_;rw[Jn d.1 (b7 y139) (fun c:m9=>c.1),k3 _ Y,Jl d.1 (fun c:m9=>c.1) (b7 y139)];unfold CC;rw[T,H,decide_eq_true aA,decide_eq_true X,decide_eq_true h8];cases C8 d.1.length (fun i=>(m5 d i).1) <;> cases C8 d.2.1.length (fun i=>d.2.1.getD i (b7 .str)) <;> cases C8 d.2.2.length (fun i=>(A6 d i).1) <;> rfl
 ·have e0:(!CE l||decide (14 < (d.1.length:Int))||decide (30 < (d.2.1.length:Int))||decide (8 < (d.2.2.length:Int))||!(!((List.range d.1.length).any fun i=>!R3 l.length (Y8 l) d.2.1.length (m5 d i))&&!((List.range d.2.2.length).any fun i=>!R4 d.2.1.length (A6 d i))))=true:=by
   rw[<- Bool.not_eq_false];intro f;simp only[Bool.or_eq_false_iff,Bool.not_eq_false',decide_eq_false_iff_not,ba,Bool.not_eq_true'] at f;exact r ⟨f.1.1.1.1,by omega,by omega,by omega,f.2.1,f.2.2⟩
  refine(if_pos e0).trans ?_;refine congrArg some ?_
  symm
  rw[<- Bool.not_eq_true];intro f;unfold CC at f;simp only[ba,dq,Bool.not_eq_true'] at f;obtain⟨⟨⟨⟨⟨⟨⟨⟨⟨c1,c2⟩,c3⟩,c4⟩,_⟩,_⟩,_⟩,c5⟩,c6⟩,_⟩:=f;exact r ⟨c1,c2,c3,c4,c5,c6⟩
abbrev MJ(w:x8)(i:Nat):Bool:=(i==0&&(w.1.getD i 0 != -1||w.2.1.getD 0 0 != 0))||(decide (0<i)&&!m0 (w.1.getD i 0) 0 ((i:Int)-1))
theorem N0U(w:x8)(f:wf l6 w)(j:w.2.1.length=w.1.length):Cr w=some (!(List.range w.1.length).any (MJ w)):=by
 have h:=f.1.1;have a:=H5 (n:=w.1.length) h (MJ w) (some false) (e:=some true) (F:=B0b w) (fun g i hi=>by
  have b:((i:Int)).toNat=i:=rfl;have c:((i:Int)==0)=(i==0):=by rw[Bool.eq_iff_iff,beq_iff_eq,beq_iff_eq]; omega
  have d:decide ((0:Int) < (i:Int))=decide (0<i):=by rw[decide_eq_decide]; omega
  refine(if_pos (by simpa using hi)).trans ?_;rw[b,c,d,Y5,vS,gP ⟨oo,trivial⟩,gP ⟨fun _=>oo,fun _=>oo,fun _=>rfl,trivial⟩,gP ⟨oo,trivial⟩];rfl) (fun g=>aE)
 refine a.trans ?_
 grind
theorem r84(w:x8)(n:Int)(d:wf l6 w):Ll w n=some (Ae w n):=by
 obtain⟨⟨i,_⟩,⟨g,_⟩,⟨h,_⟩,f,_⟩:=id d;have e:∀xs:List Int,D6 xs=some (xs.length:Int):=fun _=>rfl;unfold Ll;rw[e,e,e,e]
 repeat rw[vS]
 rw[gP ⟨rfl,trivial⟩,lE,Y5,Hg _ _ _ g,Hg _ _ _ h,Hg _ _ _ f]
 repeat rw[vS]
 by_cases b:(m0 (w.1.length:Int) 1 8&&(w.2.1.length:Int)==(w.1.length:Int)&&(w.2.2.1.length:Int)==(w.1.length:Int))=true
 ·have c:=b;simp only[ba,beq_iff_eq,y9] at c;rw[N0U w d (by omega),vS,gP ⟨rfl,fun _=>rfl,fun _=>rfl,fun _=>rfl,fun _=>rfl,fun _=>rfl,fun _=>rfl,fun _=>oo,fun _=>rfl,trivial⟩,lE];refine congrArg some ?_;rw[b];unfold Ae;rw[decide_eq_true (show 1<=w.1.length by omega),decide_eq_true (show w.1.length<=8 by omega),decide_eq_true (show w.2.1.length=w.1.length by omega),decide_eq_true (show w.2.2.1.length=w.1.length by omega)];cases(List.range w.1.length).any (MJ w) <;> cases w.2.1.all (m0 · 0 1000) <;> cases w.2.2.1.all (m0 · 0 500) <;> cases(w.2.2.2.length:Int)==n <;> cases w.2.2.2.all (m0 · 0 ((w.1.length:Int)-1)) <;> rfl
 ·have c:(m0 (w.1.length:Int) 1 8&&(w.2.1.length:Int)==(w.1.length:Int)&&(w.2.2.1.length:Int)==(w.1.length:Int))=false:=by simpa using b
  rw[c,gP ⟨rfl,fun _=>rfl,fun _=>rfl,fun a=>by simp at a,fun a=>by simp at a,fun a=>by simp at a,fun a=>by simp at a,fun a=>by simp at a,fun a=>by simp at a,trivial⟩,lE];refine congrArg some ?_;rw[c];simp only[Bool.false_and]
  symm
  rw[<- Bool.not_eq_true];intro a;unfold Ae at a;simp only[ba,dq] at a;refine b ?_;simp only[ba,beq_iff_eq,y9];omega
theorem r93(w:x8)(n:Int)(t:wf l6 w):KC w n=some (Ae w n):=by
 obtain⟨⟨u,_⟩,⟨v,_⟩,⟨y,_⟩,d,_⟩:=id t;unfold KC;by_cases b:1<=w.1.length/\w.1.length<=8/\w.2.1.length=w.1.length/\w.2.2.1.length=w.1.length/\(w.2.2.2.length:Int)=n
 ·obtain⟨l,r,c,f,s⟩:=b;have a:(decide ((w.1.length:Int)<1)||decide (8 < (w.1.length:Int))||(w.2.1.length:Int) != (w.1.length:Int)||(w.2.2.1.length:Int) != (w.1.length:Int)||(w.2.2.2.length:Int) != n)=false:=by
   rw[<- Bool.not_eq_true]; simp; omega
  refine(if_neg (by rw[a]; simp)).trans ?_;have k:=H5 (n:=w.2.2.2.length) d (fun i=>!m0 (w.2.2.2.getD i 0) 0 ((w.1.length:Int)-1)) (some false) (e:=some true) (F:=ZJ w) (fun g i hi=>BO hi d ⟨oo,oo,rfl,trivial⟩) (fun g=>aE);rw[T6 w.2.2.2 0 (fun x=>!m0 x 0 ((w.1.length:Int)-1))] at k;have m:=H5 (n:=w.1.length) u (fun i=>(!m0 (w.2.2.1.getD i 0) 0 500||!m0 (w.2.1.getD i 0) 0 1000)||MJ w i) (some false) (e:=OK w ()) (F:=ZK w) (fun g i hi=>by
   have o:((i:Int)).toNat=i:=rfl;have a:((i:Int)==0)=(i==0):=by rw[Bool.eq_iff_iff,beq_iff_eq,beq_iff_eq]; omega
   have q:decide ((0:Int) < (i:Int))=decide (0<i):=by rw[decide_eq_decide]; omega
   refine(if_pos (by simpa using hi)).trans ?_;rw[o,a,q,R7,R7,R7]
   repeat rw[vS]
   rw[gP ⟨oo,rfl,fun _=>oo,fun _=>rfl,trivial⟩,gP ⟨fun _=>oo,fun _=>oo,fun _=>oo,fun _=>oo,fun _=>rfl,trivial⟩,gP ⟨oo,trivial⟩]
   grind) (fun g=>aE)
  refine m.trans ?_;rw[Qt,Qt];have h:=T6 w.2.2.1 0 (fun x=>!m0 x 0 500);have j:=T6 w.2.1 0 (fun x=>!m0 x 0 1000);rw[f] at h;rw[c] at j;rw[h,j];unfold OK;rw[k];unfold Ae;rw[decide_eq_true l,decide_eq_true r,decide_eq_true c,decide_eq_true f,beq_iff_eq.2 s,<- Bf,<- Bf,<- Bf];cases(List.range w.1.length).any (MJ w) <;> cases w.2.1.any (fun x=>!m0 x 0 1000) <;> cases w.2.2.1.any (fun x=>!m0 x 0 500) <;> cases w.2.2.2.any (fun x=>!m0 x 0 ((w.1.length:Int)-1)) <;> rfl
 grind[decide,trans,Ae]
theorem QC(d:r6)(l:wf y31 d)(u:d.1.length<=14)(y:d.2.2.length<=8)(j:∀i,i<d.1.length->1<=(m5 d i).2.2.length/\(m5 d i).2.2.length<=5):BD d=some (L9 d.1.length d.2.2.length (m5 d) (A6 d)):=by
 have e:=l.1.1;have f:=l.2.2.1;unfold BD;have k5:∀s:List B8,s.length<=70->La d s=some (fN (P4 (A6 d)) d.2.2.length s):=fun m v=>by
  rw[La];exact lF (n:=d.2.2.length) f (fun i (s:List B8)=>((i:Int),s)) (P4 (A6 d)) (fun i s=>s.length=m.length+i) (J:=fun s=>some s) (F:=F0M d) (fun g i s hi b=>by
   have c:((i:Int)).toNat=i:=rfl;refine(if_pos (by grind)).trans ?_;rw[c,gP ⟨oo,trivial⟩,lE,gP ⟨⟨by grind,by grind⟩,trivial⟩,gP ⟨oo,trivial⟩];rfl) (fun i s hi b=>by grind[P4,List.length_append]) (fun g s _=>aE) m rfl
 have h:=lF (n:=d.1.length) e (fun i (s:List B8)=>(s,(i:Int))) (O8 (m5 d)) (fun i s=>s.length<=5*i) (J:=La d) (F:=F0O d) (fun g i s hi b=>by
  have c:((i:Int)).toNat=i:=rfl;have w:=(j i hi).2;have t:(m5 d i).2.2.length<=9223372036854775807:=by omega
  refine(if_pos (by grind)).trans ?_;rw[c,gP ⟨oo,trivial⟩,lE];have a:=lF (n:=(m5 d i).2.2.length) t (fun k (s:List B8)=>((k:Int),s)) (U0 (m5 d i) i) (fun k z=>z.length=s.length+k) (J:=TH (i:Int) g) (F:=F0N (i:Int) (m5 d i) g) (fun o k z r hz=>by
   have q:((k:Int)).toNat=k:=rfl;refine(if_pos (by grind)).trans ?_;rw[q,gP ⟨oo,trivial⟩,gP ⟨oo,⟨by grind,by grind⟩,trivial⟩,lE];exact gP ⟨oo,trivial⟩) (fun k z r hz=>by grind[U0,List.length_append]) (fun o z _=>aE) s rfl
  refine a.trans ?_;exact gP ⟨oo,trivial⟩) (fun i s hi b=>by
  grind[O8,Hc]) (fun g s _=>aE) [] (Nat.zero_le _)
 refine h.trans (k5 _ ?_);have:=Qu (x:=m5 d) (ni:=d.1.length) (fun i hi=>(j i hi).2) d.1.length (Nat.le_refl _);omega
theorem Dv(d:r6)(l:wf y31 d)(u:d.1.length<=14)(y:d.2.2.length<=8)(j:∀i,i<d.1.length->1<=(m5 d i).2.2.length/\(m5 d i).2.2.length<=5):I6 d=some (L9 d.1.length d.2.2.length (m5 d) (A6 d)):=by
 have e:=l.1.1;have f:=l.2.2.1;unfold I6;have k5:∀s:List D1,s.length<=70->Il d s=some (fN (P4 (A6 d)) d.2.2.length s):=fun m v=>by
  rw[Il];exact lF (n:=d.2.2.length) f (fun i (s:List D1)=>((i:Int),s)) (P4 (A6 d)) (fun i s=>s.length=m.length+i) (J:=fun s=>some s) (F:=Ti d) (fun g i s hi b=>by
   have c:((i:Int)).toNat=i:=rfl;refine(if_pos (by grind)).trans ?_;rw[c,gP ⟨oo,oo,⟨by grind,by grind⟩,trivial⟩,lE];exact gP ⟨oo,trivial⟩) (fun i s hi b=>by grind[P4,List.length_append]) (fun g s _=>aE) m rfl
 have h:=lF (n:=d.1.length) e (fun i (s:List D1)=>((i:Int),s)) (O8 (m5 d)) (fun i s=>s.length<=5*i) (J:=Il d) (F:=Tk d) (fun g i s hi b=>by
  have c:((i:Int)).toNat=i:=rfl;have w:=(j i hi).2;have t:(m5 d i).2.2.length<=9223372036854775807:=by omega
  refine(if_pos (by grind)).trans ?_;rw[c,gP ⟨oo,trivial⟩,lE];have a:=lF (n:=(m5 d i).2.2.length) t (fun k (s:List D1)=>((k:Int),s)) (U0 (m5 d i) i) (fun k z=>z.length=s.length+k) (J:=Oy (i:Int) g) (F:=Tj (i:Int) (m5 d i) g) (fun o k z r hz=>by
   have q:((k:Int)).toNat=k:=rfl;refine(if_pos (by grind)).trans ?_;rw[q,gP ⟨oo,oo,⟨by grind,by grind⟩,trivial⟩,lE];exact gP ⟨oo,trivial⟩) (fun k z r hz=>by grind[U0,List.length_append]) (fun o z _=>aE) s rfl
  refine a.trans ?_;exact gP ⟨oo,trivial⟩) (fun i s hi b=>by
  grind[O8,Hc]) (fun g s _=>aE) [] (Nat.zero_le _)
 refine h.trans (k5 _ ?_);have:=Qu (x:=m5 d) (ni:=d.1.length) (fun i hi=>(j i hi).2) d.1.length (Nat.le_refl _);omega
abbrev p6(d:r6):List A9:=L9 d.1.length d.2.2.length (m5 d) (A6 d)
abbrev s9(d:r6)(i:Nat):A9:=(p6 d).getD i (b7 y151)
abbrev m3(b:j7)(i:Nat):x8:=b.2.2.getD i (b7 l6)
def p7(b:j7):Bool:=Hh b.1 b.2.1&&decide (b.2.2.length=b.2.1.2.1.length)&&!(List.range b.2.2.length).any fun i=>!Ae (m3 b i) (U3 (s9 b.2.1) i (p6 b.2.1).length)
structure DF(l:List m4)(d:r6):Prop where
 lib:CE l=true
 fac:DesignFacts l.length (Y8 l) d.1.length d.2.2.length d.2.1.length (m5 d) (A6 d)
 pin:∀i,i<d.1.length->1<=(m5 d i).2.2.length/\(m5 d i).2.2.length<=5
 plc:Jf d.2.1.length (p6 d)
 len:(p6 d).length<=78
theorem R9{l:List m4}{d:r6}(h:Hh l d=true):DF l d:=by
 obtain⟨c,b⟩:=n0w h;have f:∀i,i<d.1.length->1<=(m5 d i).2.2.length/\(m5 d i).2.2.length<=5:=fun i hi=>by
  have a:=b.inst i hi;have g:=(VV a (fun y j=>(QA c j).1)).1;unfold R3 at a;simp only[ba,beq_iff_eq] at a;have:=(QA c a.1.1).2;exact⟨g,by omega⟩
 have e:=b.net;refine⟨c,b,f,q0g e.2 (k0f e.1 d.1.length (Nat.le_refl _)) d.2.2.length (Nat.le_refl _),?_⟩;have:=Qu (x:=m5 d) (ni:=d.1.length) (fun i hi=>(f i hi).2) d.1.length (Nat.le_refl _);have k:=b.ni14;have m:=b.np8;unfold p6 L9;rw[My];omega
theorem r36(b:j7)(j:wf l9 b)(k:cnt l9 b<=1048576):IC b=some (p7 b):=by
 have y:=j.1;have s:=j.2.1;have x:=j.2.2.1;have w:b.2.2.length<=1048576:=Bj (cS (cS k));unfold IC p7;rw[r82 b.1 b.2.1 y s (cF k) (cF (cS k)),vS,gP ⟨rfl,trivial⟩];cases hdo:Hh b.1 b.2.1 with
 | false=>exact if_pos rfl
 | true =>
   have c:=R9 hdo;by_cases a:b.2.2.length=b.2.1.2.1.length
   ·have o:((b.2.2.length:Int) != (b.2.1.2.1.length:Int))=false:=by rw[a]; simp
    rw[o,decide_eq_true a];refine(if_neg (by simp)).trans ?_;rw[gP (VW w (by decide)),Int.toNat_natCast,QC b.2.1 s c.fac.ni14 c.fac.np8 c.pin,vS,gP ⟨rfl,trivial⟩,lE];have m:(p6 b.2.1).length<=9223372036854775807:=by have:=c.len; omega
    have f:∀i,i < (p6 b.2.1).length->m0 (s9 b.2.1 i).2.2.1 0 ((b.2.2.length:Int)-1)=true:=fun i hi=>by
     rw[a]; exact c.plc _ (F0 hi)
    have r:=lF (n:=(p6 b.2.1).length) m (fun i (v:List Int)=>((i:Int),v)) (Du (s9 b.2.1)) (fun i v=>i<=(p6 b.2.1).length/\Ad v b.2.2.length i) (J:=PB b) (F:=G0G (p6 b.2.1) b) (fun g i v hi h=>by
     have l:((i:Int)).toNat=i:=rfl;have t:∀q,PC (i:Int) g q=g (((i+1:Nat):Int),q):=fun q=>gP ⟨oo,trivial⟩;refine(if_pos (by simpa using hi)).trans ?_;rw[l,gP ⟨oo,hi,trivial⟩,lE,t];show(if(!(s9 b.2.1 i).2.2.2)=true then _ else _)=g (_,Du (s9 b.2.1) i v);unfold Du;cases hdr:(s9 b.2.1 i).2.2.2 with
     | true=>rfl
     | false =>
       refine(if_pos rfl).trans ?_;refine(gP (MI h.2 (by have:=c.len; omega) (f i hi))).trans ?_;rw[lE];exact t _) (fun i v hi h=>⟨by omega,by
     unfold Du;split
     ·exact Je h.2 _
     ·exact Vy h.2 (by omega)⟩) (fun g v _=>aE) (List.replicate b.2.2.length 0) ⟨by omega,Qs _ _⟩
    refine r.trans ?_;obtain⟨z,u⟩:=m0u (s9 b.2.1) b.2.2.length (p6 b.2.1).length f;generalize fN (Du (s9 b.2.1)) (p6 b.2.1).length (List.replicate b.2.2.length 0)=v at *
    rw[PB];have d:=H5 (n:=b.2.2.length) x (fun i=>!Ae (m3 b i) (U3 (s9 b.2.1) i (p6 b.2.1).length)) (some false) (e:=some true) (F:=G0F v b) (fun g i hi=>by
     have l:((i:Int)).toNat=i:=rfl;refine(if_pos (by simpa using hi)).trans ?_;rw[l,gP ⟨oo,trivial⟩,lE,u i hi,r84 _ _ (Y6 hi j.2.2),vS,gP ⟨oo,by omega,rfl,trivial⟩,gP ⟨oo,trivial⟩]) (fun g=>aE)
    refine d.trans ?_;cases(List.range b.2.2.length).any fun i=>!Ae (m3 b i) (U3 (s9 b.2.1) i (p6 b.2.1).length) <;> rfl
   ·have o:((b.2.2.length:Int) != (b.2.1.2.1.length:Int))=true:=by simp; omega
    rw[o,decide_eq_false a];exact if_pos rfl
theorem VY(d:r6)(h:wf y31 d){l:List m4}(a:DF l d)(t:Int):T4 d t=some (fN (N7 (s9 d) t) (p6 d).length []):=by
 have k:=a.len;unfold T4;rw[Dv d h a.fac.ni14 a.fac.np8 a.pin,vS,gP ⟨rfl,trivial⟩,lE];exact lF (n:=(p6 d).length) (by omega) (fun i (s:List Int)=>((i:Int),s)) (N7 (s9 d) t) (fun i s=>s.length<=i) (J:=fun s=>some s) (F:=Tl (p6 d) t) (fun g i s hi b=>by
  have f:((i:Int)).toNat=i:=rfl;have e:∀s',Im (i:Int) g s'=g (((i+1:Nat):Int),s'):=fun j=>gP ⟨oo,trivial⟩;refine(if_pos (by simpa using hi)).trans ?_;have c:s.length<=i:=b;rw[f,gP ⟨oo,hi,fun _=>oo,fun _=>hi,trivial⟩,gP ⟨⟨by show s.length+1<=_; omega,by show(s.length+1)*8<=_; omega⟩,trivial⟩,e,e];show _=g (_,N7 (s9 d) t i s);unfold N7;show(if((s9 d i).2.2.1==t&&!(s9 d i).2.2.2)=true then _ else _)=_;split <;> rfl) (fun i s hi b=>by
  have c:s.length<=i:=b;unfold N7;split
  ·rw[List.length_append]; show s.length+1<=i+1; omega
  ·omega) (fun g s _=>aE) [] (Nat.le_refl _)
theorem MK(b:j7)(d:wf l9 b)(k:cnt l9 b<=1048576):Y1 b=some (p7 b):=by
 have o:=d.1;have h:=d.2.1;have j:=d.2.2.1;unfold Y1 p7;rw[r92 b.1 b.2.1 o h (cF (cS k)),vS,gP ⟨rfl,trivial⟩];cases hdo:Hh b.1 b.2.1 with
 | false=>exact if_pos rfl
 | true =>
   have m:=R9 hdo;by_cases a:b.2.2.length=b.2.1.2.1.length
   ·have f:((b.2.2.length:Int) != (b.2.1.2.1.length:Int))=false:=by rw[a]; simp
    rw[f,decide_eq_true a];refine(if_neg (by simp)).trans ?_;have c:=H5 (n:=b.2.2.length) j (fun i=>!Ae (m3 b i) (U3 (s9 b.2.1) i (p6 b.2.1).length)) (some false) (e:=some true) (F:=G0A b) (fun g i hi=>by
     have l:((i:Int)).toNat=i:=rfl;refine(if_pos (by simpa using hi)).trans ?_;rw[l,VY b.2.1 h m,vS,Mz,r93 _ _ (Y6 hi d.2.2),gP ⟨oo,rfl,rfl,trivial⟩,lE,Mz,r93 _ _ (Y6 hi d.2.2),vS,gP ⟨oo,trivial⟩]) (fun g=>aE)
    refine c.trans ?_;cases(List.range b.2.2.length).any fun i=>!Ae (m3 b i) (U3 (s9 b.2.1) i (p6 b.2.1).length) <;> rfl
   ·have f:((b.2.2.length:Int) != (b.2.1.2.1.length:Int))=true:=by simp; omega
    rw[f,decide_eq_false a];exact if_pos rfl
theorem U5{b:j7}(h:p7 b=true):Hh b.1 b.2.1=true/\b.2.2.length=b.2.1.2.1.length/\∀i,i<b.2.2.length->Ae (m3 b i) (U3 (s9 b.2.1) i (p6 b.2.1).length)=true:=by
 unfold p7 at h;rw[ba,ba,dq] at h;refine⟨h.1.1,h.1.2,fun i hi=>?_⟩;have:=BL.1 h.2 i hi
 rwa [Bool.not_eq_false'] at this
abbrev x7(d:r6)(t:Int):List Int:=fN (N7 (s9 d) t) (p6 d).length []
def FA(l:List m4)(d:r6)(p:A9):Int:=if p.1<0 then 0 else((l.getD (m5 d p.1.toNat).2.1.toNat (b7 y64)).2.2.1.getD p.2.1.toNat (b7 y233)).2.2.1
theorem QD{d:r6}{i:Nat}(h:i < (p6 d).length):s9 d i∈p6 d:=F0 h
theorem VZ{l:List m4}(h:CE l=true){i:Nat}(hi:i<l.length):Bi F2 (P5 l i)=true:=by
 have h:CB _ _ _=true:=h;unfold CB at h;rw[ba] at h;have:=BL.1 h.1 i hi;rw[Bool.or_eq_false_iff,Bool.not_eq_false'] at this;exact this.1
theorem Wa{l:List m4}{d:r6}(f:DF l d){p:A9}(e:p∈p6 d):(p.1 = -1/\0<=p.2.1/\p.2.1.toNat<d.2.2.length) ∨
  (0<=p.1/\p.1.toNat<d.1.length/\0<=(m5 d p.1.toNat).2.1/\(m5 d p.1.toNat).2.1.toNat<l.length/\0<=p.2.1/\p.2.1.toNat < (l.getD (m5 d p.1.toNat).2.1.toNat (b7 y64)).2.2.1.length):=by
 rcases o0t d.1.length d.2.2.length (m5 d) (A6 d) p e with h | ⟨h1,h2,h3,h4⟩
 ·exact .inl h
 ·have a:=f.fac.inst p.1.toNat h2;unfold R3 at a;simp only[ba,beq_iff_eq] at a;have c:=y9.1 a.1.1;have b:=a.1.2;refine .inr ⟨h1,h2,c.1,by omega,h3,?_⟩;have b:((m5 d p.1.toNat).2.2.length:Int)=((l.getD (m5 d p.1.toNat).2.1.toNat (b7 y64)).2.2.1.length:Int):=b;omega
theorem D0E{l:List m4}{d:r6}(b:DF l d){p:A9}(c:p∈p6 d):0<=FA l d p/\FA l d p<=500:=by
 unfold FA;split
 ·exact⟨by decide,by decide⟩
 ·rename_i e;rcases Wa b c with h | ⟨h1,h2,h3,h4,h5,h6⟩
  ·omega
  ·have a:T7 F2 _ _ _ _ _ _ _ _ _=true:=VZ b.lib h4;unfold T7 Ay at a;simp only[ba] at a;have:=BL.1 a.1.1.1.1.2.2 p.2.1.toNat h6;rw[Bool.not_eq_false'] at this;unfold Bg at this;rw[ba] at this;exact y9.1 this.1
theorem ML{d:r6}{t:Int}{k:Nat}(h:k < (x7 d t).length):0<=(x7 d t).getD k 0/\((x7 d t).getD k 0).toNat < (p6 d).length:=by
 obtain⟨j,a,b,_⟩:=MB (s9 d) t (p6 d).length _ (F0 (d:=0) h);rw[a];exact⟨Int.natCast_nonneg _,by simpa using b⟩
structure NetOk(b:j7)(i:Nat):Prop where
 df:DF b.1 b.2.1
 lt:i<b.2.2.length
 wf:n0P (m3 b i) ((x7 b.2.1 i).length:Int)
theorem Bk{b:j7}(h:p7 b=true){i:Nat}(hi:i<b.2.2.length):NetOk b i:=by
 obtain⟨c,d,a⟩:=U5 h;refine⟨R9 c,hi,?_⟩;rw[Mz];exact r0w (a i hi)
def u6(b:j7)(i k:Nat):Int:=(m3 b i).2.2.2.getD k 0
def W3(b:j7)(i k:Nat):Int:=FA b.1 b.2.1 (s9 b.2.1 ((x7 b.2.1 i).getD k 0).toNat)
def S0(b:j7)(i k:Nat):Int:=(m3 b i).1.getD k 0
def BP(b:j7)(i k:Nat):Int:=(m3 b i).2.1.getD k 0
def z6(b:j7)(i:Nat):List Int:=I0h (m3 b i).2.2.1 (m3 b i).1.length (x7 b.2.1 i).length (u6 b i) (W3 b i) (S0 b i)
theorem NetOk.sn{b:j7}{i:Nat}(h:NetOk b i):(m3 b i).2.2.2.length=(x7 b.2.1 i).length:=by have:=h.wf.snk; omega
theorem NetOk.s78{b:j7}{i:Nat}(h:NetOk b i):(x7 b.2.1 i).length<=78:=by
 have d:=h.df.len;have e:=w0l (s9 b.2.1) i (p6 b.2.1).length;have a:=Mz (s9 b.2.1) i (p6 b.2.1).length;have c:((x7 b.2.1 i).length:Int)=U3 (s9 b.2.1) i (p6 b.2.1).length:=a;omega
theorem NetOk.capIn{b:j7}{i:Nat}(h:NetOk b i){k:Nat}(d:k < (x7 b.2.1 i).length):0<=u6 b i k/\(u6 b i k).toNat < (m3 b i).1.length/\0<=W3 b i k/\W3 b i k<=500:=by
 have c:=h.wf.snkIn k (by rw[h.sn]; exact d);have a:=D0E h.df (QD (ML d).2);exact⟨c.1,c.2,a.1,a.2⟩
theorem NetOk.low{b:j7}{i:Nat}(h:NetOk b i):∀m,m<=(x7 b.2.1 i).length->Low (fN (BM (u6 b i) (W3 b i)) m (m3 b i).2.2.1) (m3 b i).1.length (500*((m3 b i).1.length:Int)+500*(m:Int)):=fun m a=>r0f (D0U h.wf.cap h.wf.capOk) m (fun k c=>h.capIn (by omega))
theorem NetOk.pull{b:j7}{i:Nat}(h:NetOk b i):∀k,k<=(m3 b i).1.length-1->Ji (fN (V8 (S0 b i) (m3 b i).1.length) k (fN (BM (u6 b i) (W3 b i)) (x7 b.2.1 i).length (m3 b i).2.2.1)) (m3 b i).1.length k 43000:=by
 have a:=h.low _ (Nat.le_refl _);have f:=h.s78;have g:=h.wf.n8;have d:Low (fN (BM (u6 b i) (W3 b i)) (x7 b.2.1 i).length (m3 b i).2.2.1) (m3 b i).1.length 43000:=⟨a.len,a.pos,by have:=a.sum; omega⟩;exact m0D d (by decide) (fun k c e=>h.wf.par k c e)
theorem NetOk.loads{b:j7}{i:Nat}(h:NetOk b i):(z6 b i).length=(m3 b i).1.length/\∀j,0<=(z6 b i).getD j 0/\(z6 b i).getD j 0<=43000:=by
 have:=h.pull _ (Nat.le_refl _);exact⟨this.len,fun j=>⟨this.pos j,this.bd j⟩⟩
abbrev w8(b:j7)(i:Nat):m4:=b.1.getD (m5 b.2.1 i).2.1.toNat (b7 y64)
theorem FB{b:j7}(a:DF b.1 b.2.1){i:Nat}(hi:i<b.2.1.1.length):ix (m5 b.2.1 i).2.1 b.1.length/\Bi F2 (w8 b i)=true/\(m5 b.2.1 i).2.2.length=(w8 b i).2.2.1.length:=by
 have:=a.fac.inst i hi;unfold R3 at this;rw[ba,ba,beq_iff_eq] at this;have c:=y9.1 this.1.1;have d:=this.1.2;have e:((m5 b.2.1 i).2.2.length:Int)=((w8 b i).2.2.1.length:Int):=d;exact⟨⟨c.1,by omega⟩,VZ a.lib (by omega),by omega⟩
theorem Dw{c:m4}(h:Bi F2 c=true):2<=c.2.2.1.length/\c.2.2.1.length<=5/\c.2.2.2.1.length<=8/\∀j,j<c.2.2.2.1.length->0<=(m8 c j).2.1/\(m8 c j).2.1 < (c.2.2.1.length:Int)-1/\0<=(m8 c j).2.2.1/\(m8 c j).2.2.1 < (c.2.2.1.length:Int):=by
 have h:T7 F2 _ _ _ _ _ _ _ _ _=true:=h;unfold T7 GZ at h;simp only[ba,dq] at h;have b:=Jb h.1.1.1.1.2;refine⟨b.1,b.2.1,h.1.1.1.2.1,fun j d=>?_⟩;have:=BL.1 h.1.1.1.2.2 j d;rw[Bool.or_eq_false_iff,Bool.not_eq_false'] at this;have a:=this.1;unfold F2 at a;rw[ba,ba] at a;have f:=y9.1 a.1.1;have e:=y9.1 a.1.2;omega
theorem N0Q(l:List m4)(d:r6)(a:DF l d){p:A9}(b:p∈p6 d):GC d l p=some (FA l d p):=by
 unfold GC FA;rcases Wa a b with h | ⟨h1,h2,h3,h4,h5,h6⟩
 ·rw[if_pos (by rw[h.1]; decide),if_pos (by omega)]
 ·refine(if_neg (by simp; omega)).trans ?_;rw[if_neg (by omega),gP ⟨oo,⟨h3,by show(m5 d p.1.toNat).2.1<_; omega⟩,⟨h5,by show p.2.1 < (((l.getD (m5 d p.1.toNat).2.1.toNat (b7 y64)).2.2.1.length:Nat):Int); omega⟩,trivial⟩];rfl
theorem N0R(d:r6)(h:wf y31 d){l:List m4}(a:DF l d)(t:Int):Lb d t=some (x7 d t):=by
 have k:=a.len;unfold Lb;rw[QC d h a.fac.ni14 a.fac.np8 a.pin,vS,gP ⟨rfl,trivial⟩,lE];exact lF (n:=(p6 d).length) (by omega) (fun i (s:List Int)=>(s,(i:Int))) (N7 (s9 d) t) (fun i s=>s.length<=i) (J:=fun s=>some s) (F:=A0Z t (p6 d)) (fun g i s hi b=>by
  have f:((i:Int)).toNat=i:=rfl;have e:∀s',OY (i:Int) g s'=g (s',((i+1:Nat):Int)):=fun j=>gP ⟨oo,trivial⟩;refine(if_pos (by simpa using hi)).trans ?_;have c:s.length<=i:=b;rw[f,gP ⟨oo,hi,trivial⟩,lE,gP ⟨⟨by show s.length+1<=_; omega,by show(s.length+1)*8<=_; omega⟩,trivial⟩,e,e];show _=g (N7 (s9 d) t i s,_);unfold N7;show(if((s9 d i).2.2.1==t&&!(s9 d i).2.2.2)=true then _ else _)=_;split <;> rfl) (fun i s hi b=>by
  have c:s.length<=i:=b;unfold N7;split
  ·rw[List.length_append]; show s.length+1<=i+1; omega
  ·omega) (fun g s _=>aE) [] (Nat.le_refl _)
theorem N0S(xs:List Int)(h:xs.length<=1048576):Pb xs=some xs:=gP ⟨oo,trivial⟩
theorem r87(b:j7)(y:wf l9 b){i:Nat}(h:NetOk b i):BE b (i:Int)=some (z6 b i):=by
 have r:=y.2.1;have df:=h.df;have hb:=y.2.2.1;have hi:=h.lt;have n1:=h.wf.n1;have n8:=h.wf.n8;have X:=h.sn;have hs:=h.s78;have H:=h.wf.cap;unfold BE;have P:((i:Int)).toNat=i:=rfl;rw[gP ⟨oo,trivial⟩,lE,P,N0S _ (by show(m3 b i).2.2.1.length<=_; omega),vS,gP ⟨rfl,trivial⟩,lE,QC b.2.1 r df.fac.ni14 df.fac.np8 df.pin,vS,gP ⟨rfl,trivial⟩,lE,N0R b.2.1 r df,vS,gP ⟨rfl,trivial⟩,lE];have q:=lF (n:=(x7 b.2.1 i).length) (by omega) (fun k (s:List Int)=>((k:Int),s)) (BM (u6 b i) (W3 b i)) (fun k v=>Low v (m3 b i).1.length (500*((m3 b i).1.length:Int)+500*(k:Int))) (J:=OZ (m3 b i)) (F:=F0K b (p6 b.2.1) (x7 b.2.1 i) (m3 b i)) (fun g k v c a=>by
  have z:((k:Int)).toNat=k:=rfl;obtain⟨w,m,t,G⟩:=h.capIn c;obtain⟨T,u⟩:=ML c;have hv:=a.bd (by omega) (u6 b i k).toNat;have j:0<=(m3 b i).2.2.2.getD k 0:=w;have f:((m3 b i).2.2.2.getD k 0).toNat<v.length:=by rw[a.len]; exact m
  refine(if_pos (by simpa using c)).trans ?_;rw[z,gP ⟨oo,c,trivial⟩,N0Q b.1 b.2.1 df (QD u),vS];rw[gP ⟨oo,⟨j,by omega⟩,f,⟨T,by omega⟩,u,rfl,⟨by show _<=v.getD (u6 b i k).toNat 0+W3 b i k; omega,by show v.getD (u6 b i k).toNat 0+W3 b i k<=_; omega⟩,⟨j,by omega⟩,f,trivial⟩,lE];exact gP ⟨oo,trivial⟩) (fun k v c a=>by
  obtain⟨w,m,t,G⟩:=h.capIn c;have:=a.add m t;refine⟨this.len,this.pos,Int.le_trans this.sum ?_⟩;rw[Int.natCast_add,Int.mul_add];simp only[Int.natCast_one];omega) (fun g s _=>aE) (m3 b i).2.2.1 (by
  have:=h.low 0 (Nat.zero_le _);exact this)
 refine q.trans ?_;have l:=(h.low _ (Nat.le_refl _)).len;have e:=h.pull 0 (Nat.zero_le _);have E:z6 b i=fN (V8 (S0 b i) (m3 b i).1.length) ((m3 b i).1.length-1) (fN (BM (u6 b i) (W3 b i)) (x7 b.2.1 i).length (m3 b i).2.2.1):=rfl;rw[E];have o:=h.pull;generalize fN (BM (u6 b i) (W3 b i)) (x7 b.2.1 i).length (m3 b i).2.2.1=v0 at l e o ⊢;rw[OZ,l,gP ⟨oo,trivial⟩];have e5:(((m3 b i).1.length:Int)-1,v0)=(fun(k:Nat) (s:List Int)=>(((m3 b i).1.length:Int)-1-(k:Int),s)) 0 v0:=by simp
 rw[e5];exact lF (n:=(m3 b i).1.length-1) (by omega) (fun(k:Nat) (s:List Int)=>(((m3 b i).1.length:Int)-1-(k:Int),s)) (V8 (S0 b i) (m3 b i).1.length) (fun k v=>Ji v (m3 b i).1.length k 43000) (J:=fun s=>some s) (F:=Iw (m3 b i)) (fun g k v c a=>by
  have Y:=h.wf.par ((m3 b i).1.length-1-k) (by omega) (by omega);have d:0<=(m3 b i).1.getD ((m3 b i).1.length-1-k) 0/\((m3 b i).1.getD ((m3 b i).1.length-1-k) 0).toNat < (m3 b i).1.length-1-k:=Y;have x:=a.len;have W:((m3 b i).1.length:Int)-1-(k:Int)=(((m3 b i).1.length-1-k:Nat):Int):=by omega
  have V:((((m3 b i).1.length-1-k:Nat):Int)).toNat=(m3 b i).1.length-1-k:=rfl;have b1:=a.pos ((m3 b i).1.getD ((m3 b i).1.length-1-k) 0).toNat;have b2:=a.bd ((m3 b i).1.getD ((m3 b i).1.length-1-k) 0).toNat;have b3:=a.pos ((m3 b i).1.length-1-k);have b4:=a.bd ((m3 b i).1.length-1-k);have e8:((m3 b i).1.length:Int)-1-((k+1:Nat):Int)=(((m3 b i).1.length-1-k:Nat):Int)-1:=by omega
  show Iw (m3 b i) g (((m3 b i).1.length:Int)-1-(k:Int),v)=g (((m3 b i).1.length:Int)-1-((k+1:Nat):Int),V8 (S0 b i) (m3 b i).1.length k v);rw[e8,W];refine(if_pos (decide_eq_true (by omega))).trans ?_;rw[V,gP ⟨oo,⟨d.1,by omega⟩,by omega,oo,by omega,oo,⟨d.1,by omega⟩,by omega,trivial⟩,lE];exact gP ⟨oo,trivial⟩) (fun k v c a=>VC a c (h.wf.par _ (by omega) (by omega))) (fun g s _=>by
  have Q:((m3 b i).1.length:Int)-1-(((m3 b i).1.length-1:Nat):Int)=0:=by omega
  show Iw (m3 b i) g (((m3 b i).1.length:Int)-1-(((m3 b i).1.length-1:Nat):Int),s)=some s;rw[Q];have:Iw (m3 b i) g (0,s)=TJ s:=by
   rw[Iw];exact if_neg (by decide)
  exact this.trans rfl) v0 e
def A7(b:j7)(i:Nat):List Int:=E0w (m3 b i).1.length (S0 b i) (BP b i) (fun k=>(z6 b i).getD k 0)
def Y9(b:j7)(i:Nat):List Int:=fN (Hd (A7 b i) (u6 b i)) (x7 b.2.1 i).length []
theorem NetOk.del{b:j7}{i:Nat}(h:NetOk b i):∀k,k<=(m3 b i).1.length-1->(fN (R5 (S0 b i) (BP b i) (fun k=>(z6 b i).getD k 0)) k [0]).length=k+1/\∀j,0<=(fN (R5 (S0 b i) (BP b i) (fun k=>(z6 b i).getD k 0)) k [0]).getD j 0/\(fN (R5 (S0 b i) (BP b i) (fun k=>(z6 b i).getD k 0)) k [0]).getD j 0<=1000*43000*(k:Int) :=
 w0f (n:=(m3 b i).1.length) (fun k a=>h.wf.resIn k a) (fun k _=>h.loads.2 k) (by decide)
theorem NetOk.delays{b:j7}{i:Nat}(h:NetOk b i):(A7 b i).length=(m3 b i).1.length/\∀j,0<=(A7 b i).getD j 0/\(A7 b i).getD j 0<=301000000:=by
 have a:=h.del _ (Nat.le_refl _);have n1:=h.wf.n1;have n8:=h.wf.n8;refine⟨a.1.trans (by omega),fun j=>⟨(a.2 j).1,Int.le_trans (a.2 j).2 (by omega)⟩⟩
theorem N0P(b:j7)(w:wf l9 b){i:Nat}(h:NetOk b i):Ld b (i:Int)=some (A7 b i):=by
 have hi:=h.lt;have T:=w.2.2.1;have n1:=h.wf.n1;have n8:=h.wf.n8;have V:=h.wf.res;obtain⟨P,t⟩:=h.loads;have z:((i:Int)).toNat=i:=rfl;unfold Ld;rw[r87 b w h,vS,gP ⟨oo,rfl,trivial⟩,lE,z];show gd ((0<=((z6 b i).length:Int)/\((z6 b i).length:Int)=((z6 b i).length:Int)/\((z6 b i).length:Int).toNat*8<=281474976710656/\((z6 b i).length:Int)<=9223372036854775807)/\True) (lp (Lc (m3 b i) (z6 b i)) (1,List.replicate ((z6 b i).length:Int).toNat 0))=_;rw[P,gP ⟨⟨by omega,rfl,by omega,by omega⟩,trivial⟩];have Q:((1:Int),List.replicate ((m3 b i).1.length:Int).toNat (0:Int))=(fun(k:Nat) (s:List Int)=>(((k+1:Nat):Int),s++List.replicate ((m3 b i).1.length-1-k) 0)) 0 [0]:=by
  show((1:Int),List.replicate (m3 b i).1.length (0:Int))=_;have:(m3 b i).1.length=((m3 b i).1.length-1)+1:=by omega
  rw[this,List.replicate_succ];rfl
 rw[Q];refine(lF (n:=(m3 b i).1.length-1) (by omega) (fun(k:Nat) (s:List Int)=>(((k+1:Nat):Int),s++List.replicate ((m3 b i).1.length-1-k) 0)) (R5 (S0 b i) (BP b i) (fun k=>(z6 b i).getD k 0)) (fun k s=>s.length=k+1/\∀j,0<=s.getD j 0/\s.getD j 0<=1000*43000*(k:Int)) (J:=fun s=>some s) (F:=Lc (m3 b i) (z6 b i)) (fun g k s G a=>?_) (fun k s G a=>?_) (fun g s a=>?_) [0] ?_)
 ·obtain⟨f,e⟩:=a;have u:=h.wf.par (k+1) (by omega) (by omega);have o:(s++List.replicate ((m3 b i).1.length-1-k) (0:Int)).length=(m3 b i).1.length:=by rw[List.length_append,List.length_replicate]; omega
  have y:(((k+1:Nat):Int)).toNat=k+1:=rfl;have x:=z0z (n:=(m3 b i).1.length) f u.2;have d:=h.wf.resIn (k+1) (by omega);have c:=t (k+1);have l:=MA d.1 d.2 c.1 c.2;have r:=e ((m3 b i).1.getD (k+1) 0).toNat;show Lc (m3 b i) (z6 b i) g (((k+1:Nat):Int),s++List.replicate ((m3 b i).1.length-1-k) 0)=g (((k+1+1:Nat):Int),R5 (S0 b i) (BP b i) (fun k=>(z6 b i).getD k 0) k s++List.replicate ((m3 b i).1.length-1-(k+1)) 0);have H:R5 (S0 b i) (BP b i) (fun k=>(z6 b i).getD k 0) k s++List.replicate ((m3 b i).1.length-1-(k+1)) 0=(s++List.replicate ((m3 b i).1.length-1-k) 0).set (k+1) (s.getD ((m3 b i).1.getD (k+1) 0).toNat 0+(m3 b i).2.1.getD (k+1) 0*(z6 b i).getD (k+1) 0):=(z0y f (by omega)).symm;rw[H,<- x];generalize s++List.replicate ((m3 b i).1.length-1-k) (0:Int)=v at o x ⊢;refine(if_pos (by simp; omega)).trans ?_;rw[y,gP ⟨oo,⟨u.1,by omega⟩,by omega,oo,oo,by omega,oo,oo,oo,by omega,trivial⟩,lE];exact gP ⟨oo,trivial⟩
 ·obtain⟨f,e⟩:=a;have d:=h.wf.resIn (k+1) (by omega);have c:=t (k+1);have l:=MA d.1 d.2 c.1 c.2;have r:=e (S0 b i (k+1)).toNat;unfold R5;refine⟨by rw[List.length_append,f]; rfl,fun j=>?_⟩;have l:0<=BP b i (k+1)*(z6 b i).getD (k+1) 0/\BP b i (k+1)*(z6 b i).getD (k+1) 0<=1000*43000:=l;rcases Nat.lt_or_ge j s.length with m | m
  ·have:=e j;rw[Jj m]; omega
  ·rw[VD m];cases hjs:j-s.length with
   | zero=>simp only[List.getD_cons_zero]; omega
   | succ q=>simp only[List.getD_cons_succ,List.getD_nil]; omega
 ·have E:(m3 b i).1.length-1-((m3 b i).1.length-1)=0:=by omega
  show Lc (m3 b i) (z6 b i) g ((((m3 b i).1.length-1+1:Nat):Int),s++List.replicate ((m3 b i).1.length-1-((m3 b i).1.length-1)) 0)=some s;rw[E,List.replicate_zero,List.append_nil,<- a.1];exact aE
 ·exact h.del 0 (Nat.zero_le _)
theorem r88(b:j7)(e:wf l9 b){i:Nat}(h:NetOk b i):Fi b (i:Int)=some (Y9 b i):=by
 have hi:=h.lt;have q:=e.2.2.1;have d:=h.sn;have o:=h.s78;obtain⟨r,m⟩:=h.delays;have j:((i:Int)).toNat=i:=rfl;unfold Fi;rw[N0P b e h,vS,gP ⟨rfl,trivial⟩,lE,gP ⟨oo,trivial⟩,lE,j];unfold Y9;rw[<- d];exact lF (n:=(m3 b i).2.2.2.length) (by omega) (fun(k:Nat) (s:List Int)=>(s,(k:Int))) (Hd (A7 b i) (u6 b i)) (fun k s=>s.length=k) (J:=fun s=>some s) (F:=F0I (A7 b i) (m3 b i)) (fun g k s c a=>by
  have f:((k:Int)).toNat=k:=rfl;have l:=h.wf.snkIn k c;have a:s.length=k:=a;refine(if_pos (by simpa using c)).trans ?_;rw[f,gP ⟨oo,trivial⟩,gP ⟨⟨l.1,by omega⟩,by omega,⟨by show s.length+1<=_; omega,by show(s.length+1)*8<=_; omega⟩,trivial⟩,lE];exact gP ⟨oo,trivial⟩) (fun k s c a=>by
  have a:s.length=k:=a;unfold Hd;rw[List.length_append,a]; rfl) (fun g s _=>aE) [] rfl
theorem Hi{b:j7}{i k:Nat}(a:k < (x7 b.2.1 i).length):(Y9 b i).getD k 0=(A7 b i).getD (u6 b i k).toNat 0:=v0X _ _ _ k a
theorem Hj(b:j7)(i:Nat):(Y9 b i).length=(x7 b.2.1 i).length:=VE _ _ _
theorem N0T(a:z7):Lf a=some (I7 a.1 a.2.2.2.1):=by
 unfold Lf I7;split
 ·rfl
 split
 ·rfl
 split
 ·rfl
 split
 ·rfl
 split
 ·rfl
 ·rfl
theorem r85(b:j7)(u:DF b.1 b.2.1){i:Nat}(hi:i<b.2.1.1.length)(f:Int)(Y:0<=f)(h1:f<=1000):Fj b (m5 b.2.1 i) f=some (Az f (m8 (w8 b i)) (w8 b i).2.2.2.1.length):=by
 obtain⟨P,w,X⟩:=FB u hi;obtain⟨H,t,r,m⟩:=Dw w;unfold Fj;rw[gP ⟨P,trivial⟩,lE];show lp (TO f (w8 b i)) ([],0)=_;generalize w8 b i=c at H t r m;refine lF (n:=c.2.2.2.1.length) (by omega) (fun(j:Nat) (s:List w6)=>(s,(j:Int))) (R6 f (m8 c)) (fun j s=>s.length<=4*j) (J:=fun s=>some s) (F:=TO f c) (fun g j s l e=>?_) (fun j s l e=>?_) (fun g s _=>aE) [] (Nat.le_refl _)
 ·have q:((j:Int)).toNat=j:=rfl;obtain⟨x,y,Q,v⟩:=m j l;have e:s.length<=4*j:=e;refine(if_pos (by simpa using l)).trans ?_;rw[q,gP ⟨oo,trivial⟩,lE,N0T,vS,gP ⟨rfl,trivial⟩,lE];show lp (TN f (m8 c j) (j:Int) (I7 (m8 c j).1 (m8 c j).2.2.2.1) g) (0,s)=g (R6 f (m8 c) j s,_);obtain⟨E,o⟩:=Qw (m8 c j).1 (m8 c j).2.2.2.1;have V:R6 f (m8 c) j s=fN (Ag f (m8 c j).2.1 (m8 c j).2.2.1 (j:Int) (I7 (m8 c j).1 (m8 c j).2.2.2.1)) (I7 (m8 c j).1 (m8 c j).2.2.2.1).length s:=rfl;rw[V];generalize I7 (m8 c j).1 (m8 c j).2.2.2.1=tr at E o;generalize m8 c j=a at x y Q v;refine(lF (n:=tr.length) (by omega) (fun(k:Nat) (s:List w6)=>((k:Int),s)) (Ag f a.2.1 a.2.2.1 (j:Int) tr) (fun k z=>z.length=s.length+k) (J:=fun z=>TM (j:Int) g z) (F:=TN f a (j:Int) tr g) (fun G k z h hz=>?_) (fun k z h hz=>?_) (fun G z _=>aE) s rfl).trans ?_
  ·have T:((k:Int)).toNat=k:=rfl;have W:=o _ (F0 (d:=((0,0):Int×Int)) h);have hz:z.length=s.length+k:=hz;refine(if_pos (by simpa using h)).trans ?_;rw[T,gP ⟨oo,h,trivial⟩,lE];show gd _ _=_;rw[gP ⟨oo,oo,oo,⟨by show _<=2*(f+a.2.1)+(tr.getD k (0,0)).1; omega,by show 2*(f+a.2.1)+(tr.getD k (0,0)).1<=_; omega⟩,oo,oo,oo,⟨by show _<=2*(f+a.2.2.1)+(tr.getD k (0,0)).2; omega,by show 2*(f+a.2.2.1)+(tr.getD k (0,0)).2<=_; omega⟩,⟨by show z.length+1<=_; omega,by show(z.length+1)*32<=_; omega⟩,trivial⟩,lE];exact gP ⟨oo,trivial⟩
  ·have hz:z.length=s.length+k:=hz;unfold Ag;rw[List.length_append,hz]; rfl
  ·exact gP ⟨oo,trivial⟩
 ·have e:s.length<=4*j:=e;have:=VF f (m8 c) j s;show _<=4*(j+1);omega
def Bl(b:j7)(i:Nat)(s:Int×List w6):Int×List w6:=V9 (fun i=>(m5 b.2.1 i).2.2.length) (fun i=>m8 (w8 b i)) (fun i=>(w8 b i).2.2.2.1.length) i s
def I8(b:j7)(i:Nat):Int:=U4 (s9 b.2.1) i (p6 b.2.1).length
def Jo(b:j7):List w6:=(fN (Bl b) b.2.1.1.length (0,[])).2
def lV(b:j7):List w6:=fN (Bh (I8 b) (fun i=>x7 b.2.1 i)) b.2.2.length (Jo b)
def B0T(b:j7):List Int:=fN (AA fun i=>(z6 b i).getD 0 0) b.2.2.length []
def w0e(b:j7):List (List Int):=fN (AA fun i=>Y9 b i) b.2.2.length []
def o3(b:j7):C4:=(b,p6 b.2.1,lV b,B0T b,w0e b,[])
theorem Wb{b:j7}(a:DF b.1 b.2.1)(m:Nat)(c:m<=b.2.1.1.length):0<=(fN (Bl b) m (0,[])).1/\(fN (Bl b) m (0,[])).1<=5*(m:Int)/\(fN (Bl b) m (0,[])).2.length<=32*m :=
 n0f (n:=b.2.1.1.length) (fun i hi=>⟨(a.pin i hi).2,(Dw (FB a hi).2.1).2.2.1⟩) m c
def QE(b:j7)(i:Nat)(s:List Int×List (List Int)×List w6):List Int×List (List Int)×List w6:=(s.1++[(z6 b i).getD 0 0],s.2.1++[Y9 b i],Bh (I8 b) (fun i=>x7 b.2.1 i) i s.2.2)
theorem k0a(b:j7)(z:List w6):∀m,fN (QE b) m ([],[],z)=(fN (AA fun i=>(z6 b i).getD 0 0) m [],fN (AA fun i=>Y9 b i) m [],fN (Bh (I8 b) (fun i=>x7 b.2.1 i)) m z)
 | 0=>rfl
 | m+1=>by
   show QE b m (fN (QE b) m ([],[],z))=_;rw[k0a b z m]; rfl
theorem r37(b:j7)(hw:wf l9 b)(hb:p7 b=true):Li b=some (o3 b):=by
 obtain⟨aG,X,aH⟩:=U5 hb;have d:=R9 aG;have hd:=hw.2.1;have aM:=d.fac.ni14;have aK:=d.fac.nn30;have aL:=d.len;have aI:b.2.1.1.length<=9223372036854775807:=by omega
 have eN:∀l,D6 l=some (l.length:Int):=fun _=>rfl;unfold Li;rw[QC b.2.1 hd d.fac.ni14 d.fac.np8 d.pin,vS,gP ⟨rfl,trivial⟩,lE];refine(lF (n:=b.2.1.1.length) aI (fun(i:Nat) (s:Int×List w6)=>(s.1,(i:Int),s.2)) (Bl b) (fun i s=>0<=s.1/\s.1<=5*(i:Int)/\s.2.length<=32*i) (J:=fun s=>Lh (p6 b.2.1) b s.2) (F:=G0D b (p6 b.2.1)) (fun g i s hi j=>?_) (fun i s hi j=>?_) (fun g s _=>aE) (0,[]) ⟨Int.le_refl _,Int.le_refl _,Nat.le_refl _⟩).trans ?_
 ·have w:((i:Int)).toNat=i:=rfl;obtain⟨f,z⟩:=s;obtain⟨e,i2,i3⟩:=j;have e:0<=f:=e;have i2:f<=5*(i:Int):=i2;have i3:z.length<=32*i:=i3;have hp:=d.pin i hi;have aA:=MC f (m8 (w8 b i)) (w8 b i).2.2.2.1.length;have aB:=(Dw (FB d hi).2.1).2.2.1;refine(if_pos (by grind)).trans ?_;rw[w,gP ⟨oo,trivial⟩,lE];show gd ((Fj b (m5 b.2.1 i) f).isSome=true/\_/\True) _=_;rw[r85 b d hi f e (by omega),vS,gP ⟨rfl,oo,trivial⟩,lE];show gd ((D6 (m5 b.2.1 i).2.2).isSome=true/\c9 (f+vl (D6 (m5 b.2.1 i).2.2))/\True) _=_;rw[eN,vS,gP ⟨rfl,oo,trivial⟩,lE];exact gP ⟨oo,trivial⟩
 ·obtain⟨f,z⟩:=s;obtain⟨e,i2,i3⟩:=j;have e:0<=f:=e;have i2:f<=5*(i:Int):=i2;have i3:z.length<=32*i:=i3;have hp:=d.pin i hi;have aA:=MC f (m8 (w8 b i)) (w8 b i).2.2.2.1.length;have aB:=(Dw (FB d hi).2.1).2.2.1;refine⟨by show 0<=f+((m5 b.2.1 i).2.2.length:Int); omega,by show f+((m5 b.2.1 i).2.2.length:Int)<=_; omega,?_⟩;show(z++Az f (m8 (w8 b i)) (w8 b i).2.2.2.1.length).length<=_
  grind
 have hz:=(Wb d _ (Nat.le_refl _)).2.2;have Y:Jo b=(fN (Bl b) b.2.1.1.length (0,[])).2:=rfl;unfold o3 lV B0T w0e;rw[Y];generalize (fN (Bl b) b.2.1.1.length (0,[])).2=z at hz;show Lh (p6 b.2.1) b z=_;have aJ:b.2.2.length<=30:=by omega
 rw[Lh,gP ⟨⟨by omega,rfl,by omega,by omega⟩,trivial⟩,gP ⟨⟨by omega,rfl,by omega,by omega⟩,trivial⟩];show lp (TT (p6 b.2.1) b z) (0,List.replicate b.2.2.length [],List.replicate b.2.2.length 0)=_;have m:∀i,i < (p6 b.2.1).length->m0 (s9 b.2.1 i).2.2.1 0 ((b.2.2.length:Int)-1)=true:=fun i hi=>by rw[X]; exact d.plc _ (QD hi)
 have gf:=n0i (s9 b.2.1) b.2.2.length;refine(lF (n:=(p6 b.2.1).length) (by omega) (fun(i:Nat) (s:List (List Int)×List Int)=>((i:Int),s.1,s.2)) (Y4 (s9 b.2.1)) (fun i s=>s.1.length=b.2.2.length/\s.2.length=b.2.2.length/\∀k:Nat,(s.1.getD k []).length<=i) (J:=fun s=>TS b (p6 b.2.1) z s) (F:=TT (p6 b.2.1) b z) (fun g i s hi j=>?_) (fun i s hi j=>?_) (fun g s _=>aE) (List.replicate b.2.2.length [],List.replicate b.2.2.length 0) ⟨List.length_replicate,List.length_replicate,fun k=>?_⟩).trans ?_
 ·obtain⟨a,c⟩:=s;obtain⟨H,T,G⟩:=j;have H:a.length=b.2.2.length:=H;have T:c.length=b.2.2.length:=T;have G:∀k:Nat,(a.getD k []).length<=i:=G;have hp:=y9.1 (m i hi);have w:((i:Int)).toNat=i:=rfl;have j4:∀x y,Pc (i:Int) g (x,y)=g (((i+1:Nat):Int),y,x):=fun x y=>gP ⟨oo,trivial⟩;have g4:=G (s9 b.2.1 i).2.2.1.toNat;refine(if_pos (by grind)).trans ?_;rw[w,gP ⟨oo,hi,trivial⟩,lE];show(if(s9 b.2.1 i).2.2.2=true then _ else _)=g (_,(Y4 (s9 b.2.1) i (a,c)).1,(Y4 (s9 b.2.1) i (a,c)).2);unfold Y4;cases(s9 b.2.1 i).2.2.2 with
  | true =>
    rw[if_pos rfl,if_pos rfl];show gd (ix (s9 b.2.1 i).2.2.1 c.length/\_/\True) _=_;rw[gP ⟨oo,by grind,trivial⟩,j4]
  | false =>
    rw[if_neg (by simp),if_neg (by simp)];show gd (ix (s9 b.2.1 i).2.2.1 a.length/\_) _=_;rw[gP ⟨oo,by grind,⟨by grind,by grind⟩,⟨by grind,by grind⟩,⟨by grind,rfl⟩,trivial⟩,lE,j4]
 ·obtain⟨a,c⟩:=s;obtain⟨H,T,G⟩:=j;have H:a.length=b.2.2.length:=H;have T:c.length=b.2.2.length:=T;have G:∀k:Nat,(a.getD k []).length<=i:=G;have hp:=y9.1 (m i hi);unfold Y4
  grind[List.length_set,VH,List.length_append]
 ·grind
 obtain⟨gl,dl,u⟩:=gf (p6 b.2.1).length m;generalize fN (Y4 (s9 b.2.1)) (p6 b.2.1).length (List.replicate b.2.2.length [],List.replicate b.2.2.length 0)=s at gl dl u;obtain⟨a,c⟩:=s;have gl:a.length=b.2.2.length:=gl;have dl:c.length=b.2.2.length:=dl;have aD:∀k:Nat,k<b.2.2.length->a.getD k []=x7 b.2.1 k:=fun k E=>(u k E).1;have aC:∀k:Nat,k<b.2.2.length->c.getD k 0=I8 b k:=fun k E=>(u k E).2;show lp (TR c a b (p6 b.2.1)) (0,[],[],z)=_;refine(lF (n:=b.2.2.length) (by omega) (fun(i:Nat) (s:List Int×List (List Int)×List w6)=>((i:Int),s.1,s.2.1,s.2.2)) (QE b) (fun i s=>s.1.length=i/\s.2.1.length=i/\s.2.2.length<=500+160*i) (J:=fun s=>some (b,p6 b.2.1,s.2.2,s.1,s.2.1,[])) (F:=TR c a b (p6 b.2.1)) (fun g i s hi j=>?_) (fun i s hi j=>?_) (fun g s _=>aE) ([],[],z) ⟨rfl,rfl,by grind⟩).trans ?_
 ·obtain⟨q,o,r⟩:=s;obtain⟨e,i2,i3⟩:=j;have e:q.length=i:=e;have i2:o.length=i:=i2;have i3:r.length<=500+160*i:=i3;have h:=Bk hb hi;have n1:=h.wf.n1;have P:=h.s78;have aN:=h.loads.1;have w:((i:Int)).toNat=i:=rfl;refine(if_pos (by grind)).trans ?_;rw[r87 b hw h,vS,gP ⟨rfl,oo,by omega,⟨by grind,by grind⟩,trivial⟩,lE,r88 b hw h,vS,gP ⟨rfl,⟨by grind,by grind⟩,trivial⟩,lE,gP ⟨oo,trivial⟩];have V:=aD i hi;have aF:=aC i hi;have Q:=VG (s9 b.2.1) i (p6 b.2.1).length;have Q:0<=I8 b i/\I8 b i<=((p6 b.2.1).length:Int):=Q;show lp (GD c (i:Int) a o (Y9 b i) q (z6 b i) g) (0,r)=g (_,q++[(z6 b i).getD 0 0],o++[Y9 b i],Bh (I8 b) (fun i=>x7 b.2.1 i) i r);refine(lF (n:=(x7 b.2.1 i).length) (by omega) (fun(k:Nat) (s:List w6)=>((k:Int),s)) (BN (I8 b i) (x7 b.2.1 i)) (fun k y=>y.length=r.length+2*k) (J:=fun y=>TP (i:Int) g (o++[Y9 b i],q++[(z6 b i).getD 0 0],y)) (F:=GD c (i:Int) a o (Y9 b i) q (z6 b i) g) (fun v k y E hy=>?_) (fun k y E hy=>?_) (fun v y _=>?_) r rfl).trans ?_
  ·have hy:y.length=r.length+2*k:=hy;obtain⟨k1,k2⟩:=ML E;have e4:((k:Int)).toNat=k:=rfl;show GD c (i:Int) a o (Y9 b i) q (z6 b i) g v ((k:Int),y)=_;rw[GD,w,V,if_pos (by grind),gP ⟨oo,trivial⟩];show _=v (_,BN (I8 b i) (x7 b.2.1 i) k y);refine(lF (n:=2) (by decide) (fun(t:Nat) (x:List w6)=>((t:Int),x)) (VI (I8 b i) ((x7 b.2.1 i).getD k 0) (k:Int)) (fun t x=>x.length=y.length+t) (J:=fun x=>TQ (k:Int) v x) (F:=Lg c (i:Int) a (k:Int) v) (fun W t x ht hx=>?_) (fun t x ht hx=>?_) (fun W x _=>?_) y rfl).trans ?_
   ·have hx:x.length=y.length+t:=hx;show Lg c (i:Int) a (k:Int) v W ((t:Int),x)=_;rw[Lg,w,e4,V,aF,if_pos (decide_eq_true (by omega)),gP ⟨oo,by omega,oo,oo,oo,oo,⟨by grind,by grind⟩,trivial⟩,lE];exact gP ⟨oo,trivial⟩
   ·grind[VI,List.length_append]
   ·grind[Lg]
   ·exact gP ⟨oo,trivial⟩
  ·grind[VJ]
  ·show GD c (i:Int) a o (Y9 b i) q (z6 b i) g v (((x7 b.2.1 i).length:Int),y)=_
   grind[GD]
  ·exact gP ⟨oo,trivial⟩
 ·obtain⟨q,o,r⟩:=s;obtain⟨e,i2,i3⟩:=j;have e:q.length=i:=e;have i2:o.length=i:=i2;have i3:r.length<=500+160*i:=i3;have P:=(Bk hb hi).s78;refine⟨by show(q++_).length=_; grind,by show(o++_).length=_; grind,?_⟩;show(Bh (I8 b) (fun i=>x7 b.2.1 i) i r).length<=_;unfold Bh
  grind[Qx]
 ·rw[k0a]
end Go.Proofs.YtdjgagoledoaaaaGreatDoor
end
section
namespace Go.Proofs.Xd
open Go Go.Proofs Go.Proofs.Xl
def x9(x:Nat->D9):Nat->Nat
 | 0=>0
 | i+1=>x9 x i+(x i).2.2.length
theorem n0e(x:D9)(i:Int)(d:A9)(s:List A9):∀n k,k<n->(fN (U0 x i) n s).getD (s.length+k) d=(i,(k:Int),x.2.2.getD k 0,(k:Int)==(x.2.2.length:Int)-1)
 | n+1,k,h=>by
   have b:=Hc x i s n;have a:=n0e x i d s n k
   grind[U0,fN]
theorem n0d(x:D9)(i:Int)(d:A9)(s:List A9):∀n j,j<s.length->(fN (U0 x i) n s).getD j d=s.getD j d
 | 0,_,_=>rfl
 | n+1,j,h=>by
   have b:=Hc x i s n;have a:=n0d x i d s n j h
   grind[U0,fN,Jj]
theorem MM(x:Nat->D9):∀n,(fN (O8 x) n []).length=x9 x n
 | 0=>rfl
 | n+1=>by
   have:=MM x n;show(O8 x n (fN (O8 x) n [])).length=_;unfold O8;rw[Hc];show(fN (O8 x) n []).length+_=_;rw[this]; rfl
theorem i0a(x:Nat->D9)(d:A9):∀n i k,i<n->k < (x i).2.2.length->(fN (O8 x) n []).getD (x9 x i+k) d=((i:Int),(k:Int),(x i).2.2.getD k 0,(k:Int)==((x i).2.2.length:Int)-1)
 | n+1,i,k,hi,hk=>by
   have b:=MM x n;have a:=i0a x d n i k;show(O8 x n (fN (O8 x) n [])).getD _ d=_;generalize fN (O8 x) n []=z at b a;unfold O8;rcases Nat.lt_or_ge i n with h | h
   ·have c:x9 x i+k<z.length:=by
     rw[b];have:∀m,i<m->x9 x i+(x i).2.2.length<=x9 x m:=by
      intro m
      induction m with
      | zero=>omega
      | succ m a =>
        grind[x9,Nat.lt_or_ge]
     have:=this n h;omega
    grind[n0d]
   grind[n0e]
theorem m0E(y:Nat->N6)(d:A9)(s:List A9):∀n j,j<s.length->(fN (P4 y) n s).getD j d=s.getD j d
 | 0,_,_=>rfl
 | n+1,j,h=>by
   have b:=My y s n;have a:=m0E y d s n j h
   grind[P4,fN,Jj]
theorem m0F(y:Nat->N6)(d:A9)(s:List A9):∀n k,k<n->(fN (P4 y) n s).getD (s.length+k) d=(-1,(k:Int),(y k).2.2,(y k).2.1==1)
 | n+1,k,h=>by
   have b:=My y s n;have a:=m0F y d s n k
   grind[P4,fN]
theorem q0l(x:Nat->D9):∀n j,j<x9 x n->∃i k,i<n/\k < (x i).2.2.length/\j=x9 x i+k
 | n+1,j,h=>by
   have h:j<x9 x n+(x n).2.2.length:=h;rcases Nat.lt_or_ge j (x9 x n) with a | a
   ·obtain⟨i,k,d,c,b⟩:=q0l x n j a;exact⟨i,k,by omega,c,b⟩
   ·exact⟨n,j-x9 x n,by omega,by omega,by omega⟩
theorem MN(x:Nat->D9){i n k:Nat}(hi:i<n)(b:k < (x i).2.2.length):x9 x i+k<x9 x n:=by
 induction n with
 | zero=>omega
 | succ n a =>
   grind[x9,Nat.lt_or_ge]
theorem Jp(ni np:Nat)(x:Nat->D9)(y:Nat->N6):(L9 ni np x y).length=x9 x ni+np:=by
 grind[L9,My,MM]
theorem QF(ni np:Nat)(x:Nat->D9)(y:Nat->N6)(d:A9){i k:Nat}(hi:i<ni)(a:k < (x i).2.2.length):(L9 ni np x y).getD (x9 x i+k) d=((i:Int),(k:Int),(x i).2.2.getD k 0,(k:Int)==((x i).2.2.length:Int)-1):=by
 grind[L9,m0E,MM,MN,i0a]
theorem h0Z(ni np:Nat)(x:Nat->D9)(y:Nat->N6)(d:A9){k:Nat}(a:k<np):(L9 ni np x y).getD (x9 x ni+k) d=(-1,(k:Int),(y k).2.2,(y k).2.1==1):=by
 grind[L9,MM,m0F]
theorem s0a(ni np:Nat)(x:Nat->D9)(y:Nat->N6)(d:A9){i k:Nat}(hi:i<ni)(f:k < (x i).2.2.length){j:Nat}(b:j < (L9 ni np x y).length):(((L9 ni np x y).getD j d).1==(i:Int)&&((L9 ni np x y).getD j d).2.1==(k:Int))=decide (j=x9 x i+k):=by
 rw[Bool.eq_iff_iff,ba,beq_iff_eq,beq_iff_eq,dq];rw[Jp] at b;constructor
 ·rintro⟨a,c⟩;rcases Nat.lt_or_ge j (x9 x ni) with h | h
  ·grind[q0l,QF,Int.ofNat.inj]
  ·have e:j=x9 x ni+(j-x9 x ni):=by omega
   rw[e,h0Z ni np x y d (by omega)] at a;omega
 grind[QF]
def U6(P:Nat->Bool)(m:Nat):Nat:=fN (fun i s=>if P i=true then s+1 else s) m 0
theorem Dx(P:Nat->Bool)(m:Nat):U6 P (m+1)=if P m=true then U6 P m+1 else U6 P m:=rfl
theorem q0Y{P:Nat->Bool}:∀{m i:Nat},i<m->P i=true->1<=U6 P m
 | m+1,i,h,hp=>by
   rw[Dx];rcases Nat.lt_or_ge i m with a | a
   ·have:=q0Y a hp; split <;> omega
   grind
theorem Wc{P:Nat->Bool}:∀{m i j:Nat},i<j->j<m->P i=true->P j=true->2<=U6 P m
 | m+1,i,j,h1,h2,hi,hj=>by
   rw[Dx];rcases Nat.lt_or_ge j m with a | a
   ·have:=Wc h1 a hi hj; split <;> omega
   ·have:j=m:=by omega
    subst this;have:=q0Y h1 hi
    grind
theorem w0n{P:Nat->Bool}:∀{m:Nat},1<=U6 P m->∃i,i<m/\P i=true
 | 0,h=>by grind[U6,fN]
 | m+1,h=>by
   rw[Dx] at h;by_cases a:P m=true
   ·grind
   ·rw[if_neg a] at h;obtain⟨i,b,c⟩:=w0n h
    grind
def W4(pl:Nat->A9)(t:Int)(j:Nat):Bool:=(pl j).2.2.1==t&&(pl j).2.2.2
theorem n0s{pl:Nat->A9}{t:Int}:∀{m i:Nat},i<m->W4 pl t i=true->(∀j,i<j->j<m->W4 pl t j=false)->U4 pl t m=(i:Int)
 | m+1,i,h,hi,hn=>by
   have e:U4 pl t (m+1)=if W4 pl t m=true then(m:Int) else U4 pl t m:=rfl
   rw[e];rcases Nat.lt_or_ge i m with a | a
   ·rw[if_neg (by grind)];exact n0s a hi (fun j b c=>hn j b (by omega))
   grind
theorem w0a{pl:Nat->A9}{t:Int}{m:Nat}(h:U6 (W4 pl t) m=1):∃i,i<m/\W4 pl t i=true/\(∀j,j<m->W4 pl t j=decide (j=i))/\U4 pl t m=(i:Int):=by
 obtain⟨i,d,b⟩:=w0n (Nat.le_of_eq h.symm);have f:∀j,j<m->W4 pl t j=true->j=i:=fun j c g=>by
  rcases Nat.lt_trichotomy i j with a | a | a
  ·grind[Wc]
  ·omega
  grind[Wc]
 refine⟨i,d,b,fun j c=>?_,n0s d b (fun j e c=>?_)⟩
 ·grind
 grind
theorem q0Z(P:Nat->Bool)(m:Nat):∀n,U6 P (m+n)=U6 P m+U6 (fun i=>P (m+i)) n
 | 0=>rfl
 | n+1=>by
   rw[<- Nat.add_assoc,Dx,Dx,q0Z P m n];split <;> omega
theorem w0m{P:Nat->Bool}{n:Nat}(h:∀i,i<n->P i=false):U6 P (n+1)=if P n=true then 1 else 0:=by
 have:∀m,m<=n->U6 P m=0:=by
  intro m
  induction m with
  | zero=>intro _; rfl
  | succ m a=>intro b; rw[Dx,h m (by omega),if_neg (by simp),a (by omega)]
 rw[Dx,this n (Nat.le_refl _)]
theorem q0H{ni np:Nat}{x:Nat->D9}{y:Nat->N6}{d:A9}{a:Nat}(l:∀i,i<ni->1<=(x i).2.2.length/\m0 ((x i).2.2.getD ((x i).2.2.length-1) 0) 0 ((a:Int)-1)=true):∀n,n<=ni->(fN (T9 x) n (List.replicate a 0)).length=a/\∀t:Nat,t<a->(fN (T9 x) n (List.replicate a 0)).getD t 0=(U6 (W4 (fun j=>(L9 ni np x y).getD j d) t) (x9 x n):Nat)
 | 0,_=>⟨List.length_replicate,fun t f=>by
   show(List.replicate a (0:Int)).getD t 0=_;rw[gq,List.getElem?_replicate,if_pos f]; rfl⟩
 | n+1,hn=>by
   obtain⟨u,r⟩:=q0H (np:=np) (y:=y) (d:=d) l n (by omega);obtain⟨w,c⟩:=l n (by omega);have c:=y9.1 c;have e:fN (T9 x) (n+1) (List.replicate a 0)=T9 x n (fN (T9 x) n (List.replicate a 0)):=rfl;rw[e];generalize fN (T9 x) n (List.replicate a 0)=v at u r;unfold T9 BK;refine⟨by grind,fun t f=>?_⟩;rw[VH (by omega)];show _=((U6 _ (x9 x n+(x n).2.2.length):Nat):Int);rw[q0Z];have g:∀k,k < (x n).2.2.length->W4 (fun j=>(L9 ni np x y).getD j d) t (x9 x n+k)=((x n).2.2.getD k 0==(t:Int)&&(k:Int)==((x n).2.2.length:Int)-1):=fun k g=>by
    grind[W4,L9,x9,QF]
   obtain⟨m,h⟩:∃m,(x n).2.2.length=m+1:=⟨(x n).2.2.length-1,by omega⟩;have b:(x n).2.2.length-1=m:=by omega
   rw[b] at c;rw[b,h,w0m (fun i hi=>by grind),g m (by omega),h];have q:((m:Int)==((m+1:Nat):Int)-1)=true:=by simp
   rw[q,Bool.and_true];have s:((x n).2.2.getD m 0==(t:Int))=decide (t=((x n).2.2.getD m 0).toNat):=by
    rw[Bool.eq_iff_iff,beq_iff_eq,dq];omega
   rw[s];by_cases o:t=((x n).2.2.getD m 0).toNat
   ·grind
   grind
theorem q0f{ni np:Nat}{x:Nat->D9}{y:Nat->N6}{d:A9}{a:Nat}(c:∀i,i<ni->1<=(x i).2.2.length/\m0 ((x i).2.2.getD ((x i).2.2.length-1) 0) 0 ((a:Int)-1)=true)(b:∀i,i<np->m0 (y i).2.2 0 ((a:Int)-1)=true):∀n,n<=np->(fN (M5 y) n (fN (T9 x) ni (List.replicate a 0))).length=a/\∀t:Nat,t<a->(fN (M5 y) n (fN (T9 x) ni (List.replicate a 0))).getD t 0=(U6 (W4 (fun j=>(L9 ni np x y).getD j d) t) (x9 x ni+n):Nat)
 | 0,_=>q0H c ni (Nat.le_refl _)
 | n+1,hn=>by
   obtain⟨l,g⟩:=q0f (d:=d) c b n (by omega);have m:=y9.1 (b n (by omega));have e:fN (M5 y) (n+1) (fN (T9 x) ni (List.replicate a 0))=M5 y n (fN (M5 y) n (fN (T9 x) ni (List.replicate a 0))):=rfl;rw[e];generalize fN (M5 y) n (fN (T9 x) ni (List.replicate a 0))=v at l g;have f:∀t:Nat,W4 (fun j=>(L9 ni np x y).getD j d) t (x9 x ni+n)=((y n).2.2==(t:Int)&&(y n).2.1==1):=fun t=>by
    grind[W4,L9,x9,h0Z]
   have k:∀t:Nat,((y n).2.2==(t:Int))=decide (t=(y n).2.2.toNat):=fun t=>by
    grind
   unfold M5;split
   ·rename_i h;unfold BK;refine⟨by grind,fun t o=>?_⟩;rw[VH (by omega),<- Nat.add_assoc,Dx,f,k,h]
    grind
   grind[Nat.add_assoc,Dx]
def Hk(f:Int)(a:D8)(j:Nat)(t:Nat):w6:=(2*(f+a.2.1)+((I7 a.1 a.2.2.2.1).getD t (0,0)).1,2*(f+a.2.2.1)+((I7 a.1 a.2.2.2.1).getD t (0,0)).2,1,(j:Int))
def Dy(d s:Int)(k t:Nat):w6:=(2*d+(t:Int),2*s+(t:Int),2,(k:Int))
theorem k0B{f a b x:Int}{tr:List (Int×Int)}{s:List w6}{l:w6}:∀k,l∈fN (Ag f a b x tr) k s->l∈s∨∃t,t<k/\l=(2*(f+a)+(tr.getD t (0,0)).1,2*(f+b)+(tr.getD t (0,0)).2,1,x)
 | 0,h=>.inl h
 | k+1,h=>by
   rcases List.mem_append.1 (show l∈fN (Ag f a b x tr) k s++[_] from h) with h | h
   ·rcases k0B k h with h | ⟨t,ht,e⟩
    ·exact .inl h
    ·exact .inr ⟨t,by omega,e⟩
   ·exact .inr ⟨k,by omega,List.mem_singleton.1 h⟩
theorem n0E{f:Int}{a:Nat->D8}{s:List w6}{l:w6}:∀m,l∈fN (R6 f a) m s->l∈s∨∃j t,j<m/\t < (I7 (a j).1 (a j).2.2.2.1).length/\l=Hk f (a j) j t
 | 0,h=>.inl h
 | m+1,h=>by
   rcases k0B _ (show l∈fN (Ag f _ _ (m:Int) _) _ (fN (R6 f a) m s) from h) with h | ⟨t,ht,e⟩
   ·rcases n0E m h with h | ⟨j,t,hj,ht,e⟩
    ·exact .inl h
    ·exact .inr ⟨j,t,by omega,ht,e⟩
   ·exact .inr ⟨m,t,by omega,ht,e⟩
theorem Wd{a:Nat->Nat}{b:Nat->Nat->D8}{d:Nat->Nat}{x:Nat->D9}(c:∀i,a i=(x i).2.2.length):∀m,(fN (V9 a b d) m (0,[])).1=(x9 x m:Int)
 | 0=>rfl
 | m+1=>by
   show(fN (V9 a b d) m (0,[])).1+(a m:Int)=((x9 x m+(x m).2.2.length:Nat):Int);rw[Wd c m,c m]; omega
theorem k0q{b:Nat->Nat}{a:Nat->Nat->D8}{c:Nat->Nat}{x:Nat->D9}(d:∀i,b i=(x i).2.2.length){l:w6}:∀m,l∈(fN (V9 b a c) m (0,[])).2->∃i j t,i<m/\j<c i/\t < (I7 (a i j).1 (a i j).2.2.2.1).length/\l=Hk (x9 x i:Int) (a i j) j t
 | 0,h=>by cases h
 | m+1,h=>by
   rcases List.mem_append.1 (show l∈(fN (V9 b a c) m (0,[])).2++Az _ _ _ from h) with h | h
   ·obtain⟨i,j,t,hi,f⟩:=k0q d m h;exact⟨i,j,t,by omega,f⟩
   ·rcases n0E _ h with h | ⟨j,t,hj,ht,e⟩
    ·cases h
    ·rw[Wd d m] at e;exact⟨m,j,t,by omega,hj,ht,e⟩
theorem j0x{d:Int}{a:List Int}{z:List w6}{l:w6}:∀k,l∈fN (BN d a) k z->l∈z∨∃j t,j<k/\t<2/\l=Dy d (a.getD j 0) j t
 | 0,h=>.inl h
 | k+1,h=>by
   have h:l∈(fN (BN d a) k z++[Dy d (a.getD k 0) k 0])++[Dy d (a.getD k 0) k 1]:=h;rcases List.mem_append.1 h with h | h
   ·rcases List.mem_append.1 h with h | h
    ·rcases j0x k h with h | ⟨j,t,hj,ht,e⟩
     ·exact .inl h
     ·exact .inr ⟨j,t,by omega,ht,e⟩
    ·exact .inr ⟨k,0,by omega,by omega,List.mem_singleton.1 h⟩
   ·exact .inr ⟨k,1,by omega,by omega,List.mem_singleton.1 h⟩
theorem m0R{d:Nat->Int}{a:Nat->List Int}{z:List w6}{l:w6}:∀m,l∈fN (Bh d a) m z->l∈z∨∃i j t,i<m/\j < (a i).length/\t<2/\l=Dy (d i) ((a i).getD j 0) j t
 | 0,h=>.inl h
 | m+1,h=>by
   rcases j0x _ (show l∈fN (BN (d m) (a m)) _ (fN (Bh d a) m z) from h) with h | ⟨j,t,hj,ht,e⟩
   ·rcases m0R m h with h | ⟨i,j,t,hi,hr⟩
    ·exact .inl h
    ·exact .inr ⟨i,j,t,by omega,hr⟩
   ·exact .inr ⟨m,j,t,by omega,hj,ht,e⟩
theorem We(f a b x:Int)(tr:List (Int×Int))(s:List w6):∀k,fN (Ag f a b x tr) k s=s++fN (Ag f a b x tr) k []
 | 0=>(List.append_nil _).symm
 | k+1=>by
   show fN (Ag f a b x tr) k s++[_]=s++(fN (Ag f a b x tr) k []++[_]);rw[We f a b x tr s k,List.append_assoc]
theorem n0F(f:Int)(a:Nat->D8)(s:List w6):∀m,fN (R6 f a) m s=s++Az f a m
 | 0=>(List.append_nil _).symm
 | m+1=>by
   show R6 f a m (fN (R6 f a) m s)=s++R6 f a m (Az f a m);rw[n0F f a s m];unfold R6;rw[We,We _ _ _ _ _ (Az f a m),List.append_assoc]
end Go.Proofs.Xd
end
section
namespace Go.Proofs.YtdjgagoledoaaaaGreatDoor
open Go Go.Proofs Go.Proofs.Sv Go.Proofs.Xv Go.Proofs.Xl Go.Proofs.Xd
theorem Wf(l:List w6)(f t a b k i:Int)(d:0<=f/\f<=1000)(c:0<=t/\t<=1000)(e:0<=a/\a<=1)(g:0<=b/\b<=1)(h:l.length<=100000):Fa l f t a b k i=some (l++[(2*f+a,2*t+b,k,i)]) :=
 gP ⟨oo,oo,oo,oo,⟨by show l.length+1<=_; omega,by show(l.length+1)*32<=_; omega⟩,trivial⟩
def I0r(k s:Int)(x y:Nat):Bool:=if(k==1)=true then s==3||(s==1)==((x:Int)==(y:Int)) else if(k==2)=true then(x:Int)==0 else if(k==3)=true then(x:Int)==1 else false
def Bm(k s f t i:Int)(x y:Nat)(l:List w6):List w6:=if I0r k s x y=true then l++[(2*f+(x:Int),2*t+(y:Int),1,i)] else l
theorem r0m(k s f t i:Int)(x y:Nat)(l:List w6):(Bm k s f t i x y l).length<=l.length+1:=by
 unfold Bm;split
 ·rw[List.length_append]; exact Nat.le_refl _
 ·omega
theorem n0J(k s f t i:Int)(x:Nat)(l:List w6):∀n,(fN (Bm k s f t i x) n l).length<=l.length+n
 | 0=>Nat.le_refl _
 | n+1=>by
   have h:=n0J k s f t i x l n;have:=r0m k s f t i x n (fN (Bm k s f t i x) n l);show(Bm k s f t i x n (fN (Bm k s f t i x) n l)).length<=_;omega
theorem r73(a:z7)(l:List w6)(f t i:Int)(o:0<=f/\f<=1000)(m:0<=t/\t<=1000)(u:l.length<=90000):Gx l a f t i=some (fN (fun x s=>fN (Bm a.1 a.2.2.2.1 f t i x) 2 s) 2 l):=by
 unfold Gx;refine lF (n:=2) (by decide) (fun(x:Nat) (s:List w6)=>((x:Int),s)) (fun x s=>fN (Bm a.1 a.2.2.2.1 f t i x) 2 s) (fun x s=>s.length<=l.length+2*x) (J:=fun s=>some s) (F:=OH f t i a) (fun g x s r b=>?_) (fun x s r b=>?_) (fun g s _=>by
  show OH f t i a g (((2:Nat):Int),s)=_;rw[OH];exact if_neg (by decide)) l (Nat.le_refl _)
 ·have b:s.length<=l.length+2*x:=b;refine(if_pos (decide_eq_true (by omega))).trans ?_;refine(lF (n:=2) (by decide) (fun(y:Nat) (s:List w6)=>((y:Int),s)) (Bm a.1 a.2.2.2.1 f t i x) (fun y s=>s.length<=l.length+2*x+y) (J:=fun s=>Tv (x:Int) g s) (F:=OG f t (x:Int) i a g) (fun c y s q b=>?_) (fun y s q b=>?_) (fun c s _=>by
   show OG f t (x:Int) i a g c (((2:Nat):Int),s)=_;rw[OG];exact if_neg (by decide)) s b).trans ?_
  ·have b:s.length<=l.length+2*x+y:=b;have k:∀v,OF (y:Int) c v=c (((y+1:Nat):Int),v):=fun v=>gP ⟨oo,trivial⟩;have e:∀v,Fb (y:Int) s f t (x:Int) i c v=c (((y+1:Nat):Int),if v=true then s++[(2*f+(x:Int),2*t+(y:Int),1,i)] else s):=fun v=>by
    cases v with
    | true=>rw[Fb,if_pos rfl,if_pos rfl,Wf s f t x y 1 i o m (by omega) (by omega) (by omega),gP ⟨rfl,trivial⟩,vS,lE,k]
    | false=>rw[Fb,if_neg (by simp),if_neg (by simp),k]
   refine(if_pos (decide_eq_true (by omega))).trans ?_;show _=c (((y+1:Nat):Int),Bm a.1 a.2.2.2.1 f t i x y s);unfold Bm I0r;rw[e,e,e,e];by_cases j:(a.1==1)=true
   ·rw[if_pos j,if_pos j]
   rw[if_neg j,if_neg j];by_cases d:(a.1==2)=true
   ·rw[if_pos d,if_pos d]
   rw[if_neg d,if_neg d];by_cases h:(a.1==3)=true
   ·rw[if_pos h,if_pos h]
   rw[if_neg h,if_neg h]
  ·have b:s.length<=l.length+2*x+y:=b;have:=r0m a.1 a.2.2.2.1 f t i x y s;omega
  ·exact gP ⟨oo,trivial⟩
 ·have b:s.length<=l.length+2*x:=b;have:=n0J a.1 a.2.2.2.1 f t i x s 2;omega
theorem Vw{k s:Int}(h:(k=1/\(s=1∨s=2∨s=3))∨k=2∨k=3)(a A B i:Int)(l:List w6):fN (fun x z=>fN (Bm k s (a+A) (a+B) i x) 2 z) 2 l=fN (Ag a A B i (I7 k s)) (I7 k s).length l:=by
 rcases h with ⟨rfl,rfl | rfl | rfl⟩ | rfl | rfl <;> rfl
theorem k0u{b:Nat->Bool}{n m:Nat}(a:m<n)(d:b m=true)(e:∀j,j<m->b j=false):(List.range n).find? b=some m:=by
 rw[List.find?_range_eq_some];refine⟨d,List.mem_range.2 a,fun j c=>?_⟩;rw[e j c]; rfl
theorem r74(d:r6)(o:wf y31 d){l:List m4}(c:DF l d){i k:Nat}(hi:i<d.1.length)(f:k < (m5 d i).2.2.length):X9 d (i:Int) (k:Int)=some ((x9 (m5 d) i+k:Nat):Int)/\x9 (m5 d) i+k < (p6 d).length:=by
 have q:=c.len;have a:x9 (m5 d) i+k < (p6 d).length:=by
  have:=MN (m5 d) hi f;unfold p6;rw[Jp]; omega
 refine⟨?_,a⟩;unfold X9;rw[Dv d o c.fac.ni14 c.fac.np8 c.pin,vS,gP ⟨rfl,trivial⟩,lE];have h:∀j,j < (p6 d).length->((s9 d j).1==(i:Int)&&(s9 d j).2.1==(k:Int))=decide (j=x9 (m5 d) i+k):=fun j b=>s0a d.1.length d.2.2.length (m5 d) (A6 d) (b7 y151) hi f b;have e:=CD (n:=(p6 d).length) (by omega) (fun j=>(s9 d j).1==(i:Int)&&(s9 d j).2.1==(k:Int)) (F:=Zw (p6 d) (i:Int) (k:Int)) (fun g j b=>by
  have m:((j:Int)).toNat=j:=rfl;refine(if_pos (by simpa using b)).trans ?_;rw[m,gP ⟨oo,b,(fun _=>oo),(fun _=>b),trivial⟩,gP ⟨oo,trivial⟩]) (fun g=>aE)
 refine e.trans ?_;rw[k0u a (by rw[h _ a,decide_eq_true rfl]) (fun j b=>by rw[h j (by omega)]; exact decide_eq_false (by omega))]
theorem w0b{b:j7}(n:p7 b=true){t:Nat}(q:t<b.2.2.length):U6 (W4 (s9 b.2.1) t) (p6 b.2.1).length=1:=by
 obtain⟨h,j,_⟩:=U5 n;have e:=R9 h;have f:CC _ _ _ _ _ _ _ _ _=true:=h;unfold CC at f;rw[ba] at f;have o:∀i,i<b.2.1.1.length->1<=(m5 b.2.1 i).2.2.length/\m0 ((m5 b.2.1 i).2.2.getD ((m5 b.2.1 i).2.2.length-1) 0) 0 ((b.2.1.2.1.length:Int)-1)=true:=fun i hi=>by
  have c:=(e.pin i hi).1;exact⟨c,e.fac.net.1 i hi _ (by omega)⟩
 obtain⟨l,k⟩:=q0f (d:=b7 y151) o (fun i hi=>e.fac.net.2 i hi) b.2.1.2.2.length (Nat.le_refl _);have a:=Jg (p:=fun x=>x==1) f.2 (i:=t) (by
  unfold Fx;rw[l]; omega)
 have c:(Fx b.2.1.1.length b.2.1.2.2.length b.2.1.2.1.length (m5 b.2.1) (A6 b.2.1)).getD t 0=1:=beq_iff_eq.1 a;have g:=k t (by omega);unfold Fx at c;rw[c] at g;have m:(p6 b.2.1).length=x9 (m5 b.2.1) b.2.1.1.length+b.2.1.2.2.length:=Jp _ _ _ _;rw[m];exact Int.ofNat.inj g.symm
theorem r75(b:j7)(o:wf l9 b)(e:p7 b=true){t:Nat}(h:t<b.2.2.length):Ky b.2.1 (t:Int)=some (I8 b t)/\0<=I8 b t/\(I8 b t).toNat < (p6 b.2.1).length:=by
 have c:=R9 (U5 e).1;have s:=c.len;obtain⟨i,r,l,m,f⟩:=w0a (w0b e h);have q:I8 b t=(i:Int):=f;refine⟨?_,by omega,by omega⟩;unfold Ky;rw[Dv b.2.1 o.2.1 c.fac.ni14 c.fac.np8 c.pin,vS,gP ⟨rfl,trivial⟩,lE];have d:=CD (n:=(p6 b.2.1).length) (by omega) (W4 (s9 b.2.1) t) (F:=Zr (p6 b.2.1) (t:Int)) (fun g j a=>by
  have k:((j:Int)).toNat=j:=rfl;refine(if_pos (by simpa using a)).trans ?_;rw[k,gP ⟨oo,a,(fun _=>oo),(fun _=>a),trivial⟩,gP ⟨oo,trivial⟩];rfl) (fun g=>aE)
 refine d.trans ?_;rw[k0u r l (fun j a=>by rw[m j (by omega)]; exact decide_eq_false (by omega)),q]
theorem Wg{c:m4}(h:Bi F2 c=true){j:Nat}(a:j<c.2.2.2.1.length):F2 c.2.2.1.length (r4 c) (m8 c j)=true:=by
 grind[T7,F2,GZ]
theorem r0l{n:Nat}{p:Nat->N5}{a:D8}(h:F2 n p a=true)(c:a.1<=3):((a.1=1/\(a.2.2.2.1=1∨a.2.2.2.1=2∨a.2.2.2.1=3))∨a.1=2∨a.1=3)/\C0 a.2.2.2.2.1 true=true/\C0 a.2.2.2.2.2 true=true:=by
 unfold F2 at h;simp only[ba] at h;obtain⟨_,h⟩:=h;by_cases b:a.1=1
 ·rw[if_pos b] at h;simp only[ba] at h
  grind[y9]
 grind
theorem r0O{k s:Int}(h:3<k):I7 k s=[]:=by
 grind[I7]
theorem r0P{k s:Int}(h:0 < (I7 k s).length):k=1∨k=2∨k=3:=by
 grind[I7]
def Hl(b:j7)(i:Nat)(s:List w6):List w6:=s++Az (x9 (m5 b.2.1) i) (m8 (w8 b i)) (w8 b i).2.2.2.1.length
theorem Wh(b:j7):∀n,fN (Hl b) n []=(fN (Bl b) n (0,[])).2
 | 0=>rfl
 | n+1=>by
   show Hl b n (fN (Hl b) n [])=(fN (Bl b) n (0,[])).2++Az (fN (Bl b) n (0,[])).1 (m8 (w8 b n)) (w8 b n).2.2.2.1.length;have a:(fN (Bl b) n (0,[])).1=(x9 (m5 b.2.1) n:Int):=Wd (fun _=>rfl) n;rw[Wh b n,a]; rfl
theorem r0R{b:j7}(a:DF b.1 b.2.1){t:Int}{k:Nat}(c:k < (x7 b.2.1 t).length):0<=(x7 b.2.1 t).getD k 0/\(x7 b.2.1 t).getD k 0<=1000:=by
 have:=ML c;have:=a.len;omega
theorem MO(b:j7)(W:wf l9 b)(r:p7 b=true):u32 b=some (lV b):=by
 obtain⟨H,q,G⟩:=U5 r;have e:=R9 H;have Q:=W.2.1;have aC:=e.fac.ni14;have aA:=e.fac.nn30;have aB:=e.len;unfold u32;refine(lF (n:=b.2.1.1.length) (by omega) (fun(i:Nat) (s:List w6)=>((i:Int),s)) (Hl b) (fun i s=>s.length<=32*i) (J:=OI b) (F:=ZB b) (fun g i s hi c=>?_) (fun i s hi c=>?_) (fun g s _=>aE) [] (Nat.le_refl _)).trans ?_
 ·have c:s.length<=32*i:=c;have e3:((i:Int)).toNat=i:=rfl;obtain⟨V,t,x3⟩:=FB e hi;obtain⟨c1,c2,c3,Y⟩:=Dw t;have a:=fun k d=>r74 b.2.1 Q e (i:=i) (k:=k) hi d;refine(if_pos (by grind)).trans ?_;rw[e3,gP ⟨oo,V,trivial⟩,lE];refine(lF (n:=(w8 b i).2.2.2.1.length) (by omega) (fun(j:Nat) (z:List w6)=>((j:Int),z)) (R6 (x9 (m5 b.2.1) i) (m8 (w8 b i))) (fun j z=>z.length<=s.length+4*j) (J:=Tx (i:Int) g) (F:=ZA (w8 b i) b (i:Int) g) (fun o j z w hz=>?_) (fun j z w hz=>?_) (fun o z _=>aE) s (Nat.le_refl _)).trans ?_
  ·have hz:z.length<=s.length+4*j:=hz;have u:((j:Int)).toNat=j:=rfl;obtain⟨a1,a2,a3,a4⟩:=Y j w;have ha:=Wg t w;have X:∀v,Kz (j:Int) o v=o (((j+1:Nat):Int),v):=fun v=>gP ⟨oo,trivial⟩;refine(if_pos (by grind)).trans ?_;rw[u,gP ⟨oo,trivial⟩];show(if decide ((m8 (w8 b i) j).1<=3)=true then _ else _)=o (((j+1:Nat):Int),R6 (x9 (m5 b.2.1) i) (m8 (w8 b i)) j z);by_cases d:(m8 (w8 b i) j).1<=3
   ·refine(if_pos (decide_eq_true d)).trans ?_;obtain⟨k1,k2,k3⟩:=r0l ha d;obtain⟨A,hA⟩:∃A:Nat,(m8 (w8 b i) j).2.1=(A:Int):=⟨(m8 (w8 b i) j).2.1.toNat,by omega⟩;obtain⟨B,hB⟩:∃B:Nat,(m8 (w8 b i) j).2.2.1=(B:Int):=⟨(m8 (w8 b i) j).2.2.1.toNat,by omega⟩;obtain⟨fA,lA⟩:=a A (by omega);obtain⟨fB,lB⟩:=a B (by omega);have P:=r73 (m8 (w8 b i) j) z ((x9 (m5 b.2.1) i+A:Nat):Int) ((x9 (m5 b.2.1) i+B:Nat):Int) (j:Int) (by omega) (by omega) (by omega);have T:=Vw k1 (x9 (m5 b.2.1) i:Int) (A:Int) (B:Int) (j:Int) z;rw[<- Int.natCast_add,<- Int.natCast_add] at T;rw[T] at P;show gd (ix (j:Int) (w8 b i).2.2.2.1.length/\ix (j:Int) (w8 b i).2.2.2.1.length/\(X9 b.2.1 (i:Int) (m8 (w8 b i) j).2.1).isSome=true/\ix (j:Int) (w8 b i).2.2.2.1.length/\(X9 b.2.1 (i:Int) (m8 (w8 b i) j).2.2.1).isSome=true/\(Gx z (m8 (w8 b i) j) (vl (X9 b.2.1 (i:Int) (m8 (w8 b i) j).2.1)) (vl (X9 b.2.1 (i:Int) (m8 (w8 b i) j).2.2.1)) (j:Int)).isSome=true/\True) (lt (vl (Gx z (m8 (w8 b i) j) (vl (X9 b.2.1 (i:Int) (m8 (w8 b i) j).2.1)) (vl (X9 b.2.1 (i:Int) (m8 (w8 b i) j).2.2.1)) (j:Int))) fun v=>Kz (j:Int) o v)=_;rw[hA,hB,fA,fB,vS,vS,P,vS,gP ⟨oo,oo,rfl,oo,rfl,rfl,trivial⟩,lE,X]
    grind[R6]
   ·refine(if_neg (by grind)).trans ?_;rw[X];unfold R6;rw[r0O (by omega)];rfl
  ·grind[VF]
  ·rw[n0F];exact gP ⟨oo,trivial⟩
 ·have c:s.length<=32*i:=c;obtain⟨V,t,x3⟩:=FB e hi;have c3:=(Dw t).2.2.1;have:=MC (x9 (m5 b.2.1) i) (m8 (w8 b i)) (w8 b i).2.2.2.1.length
  grind[Hl,List.length_append]
 ·have f:(fN (Hl b) b.2.1.1.length []).length<=500:=by
   have:=Wb e b.2.1.1.length (Nat.le_refl _);rw[Wh];omega
  have x:fN (Hl b) b.2.1.1.length []=Jo b:=Wh b _;unfold lV;rw[x] at f ⊢;generalize Jo b=z at f ⊢;unfold OI;rw[q];refine lF (n:=b.2.1.2.1.length) (by omega) (fun(i:Nat) (s:List w6)=>((i:Int),s)) (Bh (I8 b) (fun i=>x7 b.2.1 i)) (fun i s=>s.length<=500+160*i) (J:=fun s=>some s) (F:=Zz b) (fun g i s hi c=>?_) (fun i s hi c=>?_) (fun g s _=>aE) z f
  ·have c:s.length<=500+160*i:=c;have l:i<b.2.2.length:=by omega
   have h:=(Bk r l).s78;obtain⟨d1,d2,d3⟩:=r75 b W r l;have es:T4 b.2.1 (i:Int)=some (x7 b.2.1 i):=VY b.2.1 Q e _;refine(if_pos (by grind)).trans ?_;rw[d1,vS,gP ⟨rfl,trivial⟩,lE,es,vS,gP ⟨rfl,trivial⟩,lE];refine(lF (n:=(x7 b.2.1 i).length) (by omega) (fun(k:Nat) (y:List w6)=>((k:Int),y)) (BN (I8 b i) (x7 b.2.1 i)) (fun k y=>y.length=s.length+2*k) (J:=Tw (i:Int) g) (F:=Zy (I8 b i) (x7 b.2.1 i) (i:Int) g) (fun g8 k y d E=>?_) (fun k y d E=>?_) (fun g8 y _=>aE) s rfl).trans ?_
   ·have E:y.length=s.length+2*k:=E;have u:((k:Int)).toNat=k:=rfl;have m:=r0R e d;have p1:=Wf y (I8 b i) ((x7 b.2.1 i).getD k 0) 0 0 2 (k:Int) (by omega) m oo oo (by omega);have p2:=Wf (y++[(2*I8 b i+0,2*(x7 b.2.1 i).getD k 0+0,2,(k:Int))]) (I8 b i) ((x7 b.2.1 i).getD k 0) 1 1 2 (k:Int) (by omega) m oo oo (by grind);refine(if_pos (by grind)).trans ?_;rw[u,p1,vS,gP ⟨oo,d,rfl,trivial⟩,lE,p2,vS,gP ⟨oo,d,rfl,trivial⟩,lE];exact gP ⟨oo,trivial⟩
   ·grind[VJ]
   ·exact gP ⟨oo,trivial⟩
  ·have c:s.length<=500+160*i:=c;have h:=(Bk r (show i<b.2.2.length by omega)).s78;unfold Bh
   grind[Qx]
theorem P6{b:j7}(a:p7 b=true):(lV b).length<=6000:=by
 have d:=R9 (U5 a).1;have f:=d.fac.ni14;have k:=Wb d b.2.1.1.length (Nat.le_refl _);have h:=q0y (I8 b) (fun i=>x7 b.2.1 i) (Jo b) (n:=b.2.2.length) (c:=78) (fun i hi=>(Bk a hi).s78) b.2.2.length (Nat.le_refl _);have j:=(U5 a).2.1;have e:=d.fac.nn30;have g:(Jo b).length=(fN (Bl b) b.2.1.1.length (0,[])).2.length:=rfl
 grind[lV]
theorem Wi{b:j7}{l:w6}(h:l∈lV b):(∃i j t,i<b.2.1.1.length/\j < (w8 b i).2.2.2.1.length/\t < (I7 (m8 (w8 b i) j).1 (m8 (w8 b i) j).2.2.2.1).length/\l=Hk (x9 (m5 b.2.1) i:Int) (m8 (w8 b i) j) j t) ∨
  ∃i k t,i<b.2.2.length/\k < (x7 b.2.1 i).length/\t<2/\l=Dy (I8 b i) ((x7 b.2.1 i).getD k 0) k t:=by
 rcases m0R _ h with h | h
 ·exact .inl (k0q (fun _=>rfl) _ h)
 grind
end Go.Proofs.YtdjgagoledoaaaaGreatDoor
end
section
namespace Go.Proofs.Xd
open Go Go.Proofs.Xv Go.Proofs.Xl
theorem z0O{xs:List Int}(h:F7 xs=true):∀i,0<i->i<xs.length->xs.getD (i-1) 0<xs.getD i 0:=by
 simp only[F7,ba,dq] at h;intro i a hi;have:=BL.1 h.2 i hi;simp only[Bool.and_eq_false_iff,decide_eq_false_iff_not] at this;omega
theorem w0A{xs:List Int}(h:F7 xs=true):∀k i,i+k<xs.length->0<k->xs.getD i 0<xs.getD (i+k) 0:=by
 intro k
 induction k with
 | zero=>intro i _ d; omega
 | succ k b =>
   intro i hi _;have a:=z0O h (i+(k+1)) (by omega) hi;have e:i+(k+1)-1=i+k:=by omega
   rw[e] at a;by_cases c:k=0
   ·subst c; exact a
   ·have:=b i (by omega) (by omega); omega
theorem CF{xs:List Int}(h:F7 xs=true){i j:Nat}(a:i<j)(b:j<xs.length):xs.getD i 0<xs.getD j 0:=by
 have:=w0A h (j-i) i (by omega) (by omega);have e:i+(j-i)=j:=by omega
 rwa [e] at this
theorem MP{xs:List Int}(h:F7 xs=true){i:Nat}(hi:i<xs.length):0<=xs.getD i 0/\xs.getD i 0<=100000:=by
 simp only[F7,ba,dq] at h;have a:=h.1.2;rw[List.all_eq_true] at a;have e:xs.getD i 0=xs[i]:=by rw[gq,List.getElem?_eq_getElem hi]; rfl
 rw[e];exact y9.1 (a _ (List.getElem_mem hi))
theorem p0H{t:Dq}(h:C3 t=true){i:Nat}(hi:i<t.2.2.length) : -1000000<=t.2.2.getD i 0/\t.2.2.getD i 0<=1000000:=by
 simp only[C3,ba,dq] at h;have a:=h.2;rw[List.all_eq_true] at a;have e:t.2.2.getD i 0=t.2.2[i]:=by rw[gq,List.getElem?_eq_getElem hi]; rfl
 rw[e];exact y9.1 (a _ (List.getElem_mem hi))
theorem w0B{xs:List Int}(h:F7 xs=true){x:Int}(_:xs.getD 0 0<=x)(n:x<=xs.getD (xs.length-1) 0):∃p,p<xs.length/\(∀i,i<p->xs.getD i 0<x)/\(∀i,p<=i->i<xs.length->x<=xs.getD i 0):=by
 have c:∀m,m<=xs.length->(∃p,p<m/\(∀i,i<p->xs.getD i 0<x)/\x<=xs.getD p 0)∨∀i,i<m->xs.getD i 0<x:=by
  intro m
  induction m with
  | zero=>exact fun _=>.inr fun i hi=>by omega
  | succ m g =>
    intro l;rcases g (by omega) with ⟨p,e,a,b⟩ | a
    ·exact .inl ⟨p,by omega,a,b⟩
    ·by_cases k:x<=xs.getD m 0
     ·exact .inl ⟨m,by omega,a,k⟩
     ·exact .inr fun i hi=>by
       by_cases d:i=m
       ·subst d; omega
       ·exact a i (by omega)
 have o:=CA h;rcases c xs.length (Nat.le_refl _) with ⟨p,e,a,b⟩ | a
 ·refine⟨p,e,a,fun i f hi=>?_⟩;by_cases j:p=i
  ·subst j; exact b
  ·have:=CF h (by omega:p<i) hi; omega
 ·have:=a (xs.length-1) (by omega); omega
theorem FC{a ρ:Type}{F:(a->Option ρ)->a->Option ρ}{s:a}{r:Option ρ}(k:Nat)(b:k<=9223372036854775807)(h:∀n,I9 F (n+k) s=r):lp F s=r:=by
 have e:U7=(U7-k)+k:=by have:=QG b; omega
 unfold lp;rw[e];exact h _
theorem D0N(i j:Nat):((i:Int)+(j:Int)).fdiv ((2:Int) ^ Int.toNat (1:Int))=((((i+j) / 2:Nat)):Int):=by
 have e:(2:Int) ^ Int.toNat (1:Int)=2:=by decide
 rw[e,Int.fdiv_eq_ediv_of_nonneg _ (by omega)];omega
theorem J8{x y A B:Int}(f : -A<=x)(e:x<=A)(a:0<=y)(c:y<=B)(b:0<=A) : -(A*B)<=x*y/\x*y<=A*B:=by
 have g:x*y<=A*y:=Int.mul_le_mul_of_nonneg_right e a;have h:A*y<=A*B:=Int.mul_le_mul_of_nonneg_left c b;have d : -A*y<=x*y:=Int.mul_le_mul_of_nonneg_right f a;rw[Int.neg_mul] at d;omega
theorem QH{p q b a:Nat}(c:p<b)(e:q<a):p*a+q<b*a:=by
 have d:(p+1)*a<=b*a:=Nat.mul_le_mul_right _ c;rw[Nat.add_mul,Nat.one_mul] at d;omega
end Go.Proofs.Xd
end
section
namespace Go.Proofs.Xd
open Go Go.Proofs Go.Proofs.Xl
def u0(a b m:Int):Int:=if(decide (a.tmod b<0)&&m==0)=true then a.tdiv b-1 else if(decide (0<a.tmod b)&&m==1)=true then a.tdiv b+1 else a.tdiv b
theorem FD{a b K:Int}(m:Int)(c:0<b)(r : -(K*b)<=a)(l:a<=K*b) : -K<=u0 a b m/\u0 a b m<=K:=by
 have e:=Int.mul_tdiv_add_tmod a b;have k:=Int.tmod_lt_of_pos a c;have o:=Int.lt_tmod_of_pos a c;have j:b*K=K*b:=Int.mul_comm _ _;have i:∀q:Int,b*q<b*K+b->q<=K:=fun q h=>by
  have:b*q<b*(K+1):=by rw[Int.mul_add,Int.mul_one]; exact h
  have:=Int.lt_of_mul_lt_mul_left this (Int.le_of_lt c);omega
 have f:∀q:Int,-(b*K)-b<b*q -> -K<=q:=fun q h=>by
  have:b*(-K-1)<b*q:=by rw[Int.mul_sub,Int.mul_one,Int.mul_neg]; exact h
  have:=Int.lt_of_mul_lt_mul_left this (Int.le_of_lt c);omega
 have d:∀q:Int,b*q<b*K->q<K:=fun q h=>Int.lt_of_mul_lt_mul_left h (Int.le_of_lt c);have g:∀q:Int,-(b*K)<b*q -> -K<q:=fun q h=>by
  have:b*(-K)<b*q:=by rw[Int.mul_neg]; exact h
  exact Int.lt_of_mul_lt_mul_left this (Int.le_of_lt c)
 have s:=i (a.tdiv b) (by omega);have n:=f (a.tdiv b) (by omega);unfold u0;split
 ·rename_i h;rw[ba,dq] at h;have:=g (a.tdiv b) (by omega);omega
 ·split
  ·rename_i h;rw[ba,dq] at h;have:=d (a.tdiv b) (by omega);omega
  ·omega
theorem Wj{a ρ:Type}{F:(a->Option ρ)->a->Option ρ}{J:a->Option ρ}(d:a->Nat)(I:a->Prop)(c:a->Bool)(nx:a->a)
  (h:∀g s,I s->F g s=if c s=true then g (nx s) else J s) (j:∀s,I s->c s=true->I (nx s)/\d (nx s)<d s) (s:a) (b:I s) (t:d s<=9223372036854775806):∃s',I s'/\c s'=false/\lp F s=J s':=by
 have f:∀(n:Nat) (s:a),d s<=n->I s->∃s',I s'/\c s'=false/\∀k,I9 F (k+(n+1)) s=J s':=by
  intro n
  induction n with
  | zero =>
    intro s q b;cases hc:c s with
    | true=>have:=(j s b hc).2; omega
    | false=>exact⟨s,b,hc,fun k=>by show F (I9 F k) s=_; rw[h _ _ b,hc]; rfl⟩
  | succ n o =>
    intro s q b;cases hc:c s with
    | true =>
      obtain⟨i,l⟩:=j s b hc;obtain⟨s',e,m,r⟩:=o (nx s) (by omega) i;refine⟨s',e,m,fun k=>?_⟩;show F (I9 F (k+(n+1))) s=_;rw[h _ _ b,hc,if_pos rfl];exact r k
    | false=>exact⟨s,b,hc,fun k=>by show F (I9 F (k+(n+1))) s=_; rw[h _ _ b,hc]; rfl⟩
 obtain⟨s',i,l,e⟩:=f (d s) s (Nat.le_refl _) b;exact⟨s',i,l,FC (d s+1) (by omega) e⟩
def Bn(n r:Int):Prop:=0<=r/\r*r<=n/\n < (r+1)*(r+1)
theorem D0q{a b:Int}(c:0<=a)(h:a<=b):a*a<=b*b:=Int.mul_le_mul h h c (Int.le_trans c h)
theorem Wk{a b:Int}(c:0<=a)(h:a<b):a*a<b*b:=by
 have:=Int.mul_le_mul (show a+1<=b by omega) (show a+1<=b by omega) (by omega) (by omega);have e:(a+1)*(a+1)=a*a+2*a+1:=by rw[Int.add_mul,Int.mul_add,Int.one_mul,Int.mul_one]; omega
 omega
theorem q0z{a b:Int}(d:0<=b)(h:a*a<b*b):a<b:=by
 by_cases c:a<b
 ·exact c
 ·have:=D0q d (show b<=a by omega); omega
theorem Wl{l h:Int}(b:0<=l)(a:l<h):(l+h+1).tdiv 2=(l+h+1) / 2/\l < (l+h+1) / 2/\(l+h+1) / 2<=h:=by
 refine⟨Int.tdiv_eq_ediv_of_nonneg (by omega),by omega,by omega⟩
end Go.Proofs.Xd
end
section
namespace Go.Proofs.YtdjgagoledoaaaaGreatDoor
open Go Go.Proofs Go.Proofs.Xv Go.Proofs.Xl Go.Proofs.Xd
theorem U8(a b m:Int)(h : -1000000000000000000<=a)(i:a<=1000000000000000000)(e:0<b):BF a b m=some (u0 a b m)/\V4 a b m=some (u0 a b m):=by
 have j:a.tdiv b<=1000000000000000000 /\ -1000000000000000000<=a.tdiv b:=by
  have k:(a.tdiv b).natAbs<=a.natAbs:=by
   rw[Int.natAbs_tdiv];exact Nat.div_le_self _ _
  omega
 have f:c9 (a.tdiv b-1)/\True:=⟨oo,trivial⟩;have g:c9 (a.tdiv b+1)/\True:=⟨oo,trivial⟩;unfold BF V4 u0;rw[gP (V:=0<b/\0<b/\True) ⟨e,e,trivial⟩,gP (V:=0<b/\True) ⟨e,trivial⟩,gP (V:=0<b/\True) ⟨e,trivial⟩,gP f,gP g,Bool.and_comm (m==0),Bool.and_comm (m==1)];by_cases c:(decide (a.tmod b<0)&&m==0)=true
 ·rw[if_pos c,if_pos c]; exact⟨rfl,rfl⟩
 ·by_cases d:(decide (0<a.tmod b)&&m==1)=true
  ·rw[if_neg c,if_pos d,if_neg c,if_pos d]; exact⟨rfl,rfl⟩
  ·rw[if_neg c,if_neg d,if_neg c,if_neg d]; exact⟨rfl,rfl⟩
end Go.Proofs.YtdjgagoledoaaaaGreatDoor
end
section
namespace Go.Proofs.YtdjgagoledoaaaaGreatDoor
open Go Go.Proofs Go.Proofs.Sv Go.Proofs.Xv Go.Proofs.Xl Go.Proofs.Xd
theorem N0w(l:List m4)(d:r6)(a:DF l d){p:A9}(b:p∈p6 d):Gr l d p=some (FA l d p):=by
 unfold Gr FA;rcases Wa a b with h | ⟨h1,h2,h3,h4,h5,h6⟩
 ·grind
 ·refine(if_neg (by grind)).trans ?_;rw[if_neg (by omega),gP ⟨oo,⟨h3,by grind⟩,⟨h5,by grind⟩,trivial⟩];rfl
theorem N0M(xs:List Int)(h:xs.length<=1048576):K1 xs=some xs:=gP ⟨oo,trivial⟩
theorem M0b(b:j7)(y:wf l9 b){i:Nat}(h:NetOk b i):Au b (i:Int)=some (z6 b i):=by
 have r:=y.2.1;have df:=h.df;have hb:=y.2.2.1;have hi:=h.lt;have n1:=h.wf.n1;have n8:=h.wf.n8;have Y:=h.sn;have hs:=h.s78;have H:=h.wf.cap;unfold Au;have P:((i:Int)).toNat=i:=rfl;have V:T4 b.2.1 (i:Int)=some (x7 b.2.1 i):=VY b.2.1 r df _;rw[gP ⟨oo,trivial⟩,lE,P,N0M _ (by grind),vS,gP ⟨rfl,trivial⟩,lE,Dv b.2.1 r df.fac.ni14 df.fac.np8 df.pin,vS,gP ⟨rfl,trivial⟩,lE,V,vS,gP ⟨rfl,trivial⟩,lE];have q:=lF (n:=(x7 b.2.1 i).length) (by omega) (fun k (s:List Int)=>((k:Int),s)) (BM (u6 b i) (W3 b i)) (fun k v=>Low v (m3 b i).1.length (500*((m3 b i).1.length:Int)+500*(k:Int))) (J:=OA (m3 b i)) (F:=Zb b (p6 b.2.1) (x7 b.2.1 i) (m3 b i)) (fun g k v c a=>by
  have z:((k:Int)).toNat=k:=rfl;obtain⟨w,m,t,G⟩:=h.capIn c;obtain⟨T,u⟩:=ML c;have hv:=a.bd (by omega) (u6 b i k).toNat;have j:0<=(m3 b i).2.2.2.getD k 0:=w;have f:((m3 b i).2.2.2.getD k 0).toNat<v.length:=by rw[a.len]; exact m
  refine(if_pos (by grind)).trans ?_;rw[z,N0w b.1 b.2.1 df (QD u),vS];rw[gP ⟨oo,⟨j,by omega⟩,f,oo,c,⟨T,by omega⟩,u,rfl,⟨by grind[u6,W3],by grind[u6,W3]⟩,⟨j,by omega⟩,f,trivial⟩,lE];exact gP ⟨oo,trivial⟩) (fun k v c a=>by
  obtain⟨w,m,t,G⟩:=h.capIn c;have:=a.add m t;refine⟨this.len,this.pos,Int.le_trans this.sum ?_⟩;omega) (fun g s _=>aE) (m3 b i).2.2.1 (by
  have:=h.low 0 (Nat.zero_le _);exact this)
 refine q.trans ?_;have l:=(h.low _ (Nat.le_refl _)).len;have e:=h.pull 0 (Nat.zero_le _);have E:z6 b i=fN (V8 (S0 b i) (m3 b i).1.length) ((m3 b i).1.length-1) (fN (BM (u6 b i) (W3 b i)) (x7 b.2.1 i).length (m3 b i).2.2.1):=rfl;rw[E];have o:=h.pull;generalize fN (BM (u6 b i) (W3 b i)) (x7 b.2.1 i).length (m3 b i).2.2.1=v0 at l e o ⊢;rw[OA,l,gP ⟨oo,trivial⟩];have e5:(((m3 b i).1.length:Int)-1,v0)=(fun(k:Nat) (s:List Int)=>(((m3 b i).1.length:Int)-1-(k:Int),s)) 0 v0:=by simp
 rw[e5];exact lF (n:=(m3 b i).1.length-1) (by omega) (fun(k:Nat) (s:List Int)=>(((m3 b i).1.length:Int)-1-(k:Int),s)) (V8 (S0 b i) (m3 b i).1.length) (fun k v=>Ji v (m3 b i).1.length k 43000) (J:=fun s=>some s) (F:=Io (m3 b i)) (fun g k v c a=>by
  have hp:=h.wf.par ((m3 b i).1.length-1-k) (by omega) (by omega);have d:0<=(m3 b i).1.getD ((m3 b i).1.length-1-k) 0/\((m3 b i).1.getD ((m3 b i).1.length-1-k) 0).toNat < (m3 b i).1.length-1-k:=hp;have x:=a.len;have X:((m3 b i).1.length:Int)-1-(k:Int)=(((m3 b i).1.length-1-k:Nat):Int):=by omega
  have W:((((m3 b i).1.length-1-k:Nat):Int)).toNat=(m3 b i).1.length-1-k:=rfl;have b1:=a.pos ((m3 b i).1.getD ((m3 b i).1.length-1-k) 0).toNat;have b2:=a.bd ((m3 b i).1.getD ((m3 b i).1.length-1-k) 0).toNat;have b3:=a.pos ((m3 b i).1.length-1-k);have b4:=a.bd ((m3 b i).1.length-1-k);have e8:((m3 b i).1.length:Int)-1-((k+1:Nat):Int)=(((m3 b i).1.length-1-k:Nat):Int)-1:=by omega
  show Io (m3 b i) g (((m3 b i).1.length:Int)-1-(k:Int),v)=g (((m3 b i).1.length:Int)-1-((k+1:Nat):Int),V8 (S0 b i) (m3 b i).1.length k v);rw[e8,X];refine(if_pos (decide_eq_true (by omega))).trans ?_;rw[W,gP ⟨oo,⟨d.1,by omega⟩,by omega,oo,by omega,oo,⟨d.1,by omega⟩,by omega,trivial⟩,lE];exact gP ⟨oo,trivial⟩) (fun k v c a=>VC a c (h.wf.par _ (by omega) (by omega))) (fun g s _=>by
  have Q:((m3 b i).1.length:Int)-1-(((m3 b i).1.length-1:Nat):Int)=0:=by omega
  show Io (m3 b i) g (((m3 b i).1.length:Int)-1-(((m3 b i).1.length-1:Nat):Int),s)=some s;rw[Q];have:Io (m3 b i) g (0,s)=Tm s:=by
   rw[Io];exact if_neg (by decide)
  exact this.trans rfl) v0 e
theorem M0a(b:j7)(l:wf l9 b){i:Nat}(h:NetOk b i):Co b (i:Int)=some (A7 b i):=by
 have hi:=h.lt;have z:=l.2.2.1;have n1:=h.wf.n1;have n8:=h.wf.n8;have y:=h.wf.res;obtain⟨E,f⟩:=h.loads;have t:((i:Int)).toNat=i:=rfl;unfold Co;rw[M0b b l h,vS,gP ⟨oo,trivial⟩,lE,gP ⟨rfl,trivial⟩,lE,t];have v:((1:Int),[(0:Int)])=(fun(k:Nat) (s:List Int)=>(((k+1:Nat):Int),s)) 0 [0]:=rfl;rw[v];refine(lF (n:=(m3 b i).1.length-1) (by omega) (fun(k:Nat) (s:List Int)=>(((k+1:Nat):Int),s)) (R5 (S0 b i) (BP b i) (fun k=>(z6 b i).getD k 0)) (fun k s=>s.length=k+1/\∀j,0<=s.getD j 0/\s.getD j 0<=1000*43000*(k:Int)) (J:=fun s=>some s) (F:=To (m3 b i) (z6 b i)) (fun g k s q d=>?_) (fun k s q d=>?_) (fun g s d=>?_) [0] ?_)
 ·obtain⟨w,e⟩:=d;have u:=h.wf.par (k+1) (by omega) (by omega);have m:(((k+1:Nat):Int)).toNat=k+1:=rfl;have a:=h.wf.resIn (k+1) (by omega);have c:=f (k+1);have r:=MA a.1 a.2 c.1 c.2;have x:=e ((m3 b i).1.getD (k+1) 0).toNat;refine(if_pos (by grind)).trans ?_;rw[m,gP ⟨oo,⟨u.1,by omega⟩,by omega,oo,oo,by omega,oo,oo,⟨by grind,by grind⟩,trivial⟩,lE];exact gP ⟨oo,trivial⟩
 ·obtain⟨w,e⟩:=d;have a:=h.wf.resIn (k+1) (by omega);have c:=f (k+1);have r:=MA a.1 a.2 c.1 c.2
  grind[S0,R5,List.length_append,BP,z6,Nat.lt_or_ge,Jj,VD,List.getD_cons_zero,List.getD_cons_succ,List.getD_nil]
 ·have o:(m3 b i).1.length-1+1=(z6 b i).length:=by omega
  show To (m3 b i) (z6 b i) g ((((m3 b i).1.length-1+1:Nat):Int),s)=some s;rw[o];exact aE
 grind
def QJ(b:j7)(i:Nat)(m:Int):List Int:=fN (AA fun k=>u0 ((A7 b i).getD (u6 b i k).toNat 0) 1000 m) (x7 b.2.1 i).length []
theorem N0I(b:j7)(e:wf l9 b){i:Nat}(h:NetOk b i)(m:Int):Gw b (i:Int) m=some (QJ b i m):=by
 have hi:=h.lt;have w:=e.2.2.1;have d:=h.sn;have u:=h.s78;obtain⟨t,f⟩:=h.delays;have l:((i:Int)).toNat=i:=rfl;unfold Gw;rw[M0a b e h,vS,gP ⟨rfl,trivial⟩,lE];unfold QJ;rw[<- d];refine lF (n:=(m3 b i).2.2.2.length) (by omega) (fun(k:Nat) (s:List Int)=>((k:Int),s)) (AA fun k=>u0 ((A7 b i).getD (u6 b i k).toNat 0) 1000 m) (fun k s=>s.length=k) (J:=fun s=>some s) (F:=Zh (A7 b i) b (i:Int) m) (fun g k s c a=>?_) (fun k s c a=>?_) (fun g s _=>?_) [] rfl
 ·have j:((k:Int)).toNat=k:=rfl;have r:0<=(b.2.2.getD i (b7 l6)).2.2.2.getD k 0/\((b.2.2.getD i (b7 l6)).2.2.2.getD k 0).toNat < (A7 b i).length:=by rw[t]; exact h.wf.snkIn k c
  have o:k < (b.2.2.getD i (b7 l6)).2.2.2.length:=c;have a:s.length=k:=a;have v:=f ((m3 b i).2.2.2.getD k 0).toNat;have q:=(U8 ((A7 b i).getD ((m3 b i).2.2.2.getD k 0).toNat 0) 1000 m (by omega) (by omega) (by decide)).2;refine(gP ⟨oo,trivial⟩).trans ?_;refine(if_pos (by grind)).trans ?_;rw[l,j,q,vS,gP ⟨oo,oo,⟨r.1,by omega⟩,by omega,rfl,⟨by grind,by grind⟩,trivial⟩,lE];exact gP ⟨oo,trivial⟩
 ·grind[AA,List.length_append]
 ·refine(gP ⟨oo,trivial⟩).trans ?_;exact aE
theorem u0C{b:j7}{i k:Nat}{m:Int}(a:k < (x7 b.2.1 i).length):(QJ b i m).getD k 0=u0 ((A7 b i).getD (u6 b i k).toNat 0) 1000 m:=MD _ 0 _ k a
theorem u0B(b:j7)(i:Nat)(m:Int):(QJ b i m).length=(x7 b.2.1 i).length:=Fz _ _
end Go.Proofs.YtdjgagoledoaaaaGreatDoor
end
section
namespace Go.Proofs.Xd
open Go Go.Proofs Go.Proofs.Xl
def Hm(n:Int)(s:Int×Int):Int×Int:=if decide ((s.1+s.2+1).tdiv 2*(s.1+s.2+1).tdiv 2<=n)=true then((s.1+s.2+1).tdiv 2,s.2) else(s.1,(s.1+s.2+1).tdiv 2-1)
theorem v0t{F:(Int×Int->Option Int)->Int×Int->Option Int}{J:Int->Option Int}{n H:Int}(x:0<=n)(o:n < (H+1)*(H+1))(f:0<=H)(m:H<=3000000000)
  (t:∀g (s:Int×Int),0<=s.1->s.1<=s.2->s.2<=H->F g s=if decide (s.1<s.2)=true then g (Hm n s) else J s.1):∃r,Bn n r/\r<=H/\lp F (0,H)=J r:=by
 obtain⟨d,⟨i,i2,i3,i4,i5⟩,b,k⟩:=Wj (J:=fun s:Int×Int=>J s.1) (fun s=>(s.2-s.1).toNat) (fun s=>0<=s.1/\s.1<=s.2/\s.2<=H/\s.1*s.1<=n/\n < (s.2+1)*(s.2+1)) (fun s=>decide (s.1<s.2)) (Hm n)
  (fun g s c=>t g s c.1 c.2.1 c.2.2.1) (fun s c b=>by
    obtain⟨h,y,l,v,j⟩:=c;have b:=of_decide_eq_true b;obtain⟨u,w,q⟩:=Wl h b;unfold Hm;rw[u];split
    ·rename_i a;have a:=of_decide_eq_true a;exact⟨⟨by show 0<=(s.1+s.2+1) / 2; omega,q,l,a,j⟩,by show(s.2-(s.1+s.2+1) / 2).toNat < (s.2-s.1).toNat; omega⟩
    ·rename_i a;have a:n < (s.1+s.2+1) / 2*((s.1+s.2+1) / 2):=by
      rw[dq] at a;omega
     refine⟨⟨h,by show s.1<=(s.1+s.2+1) / 2-1; omega,by show(s.1+s.2+1) / 2-1<=H; omega,v,?_⟩,by show((s.1+s.2+1) / 2-1-s.1).toNat < (s.2-s.1).toNat; omega⟩;show n < ((s.1+s.2+1) / 2-1+1)*((s.1+s.2+1) / 2-1+1);rw[Int.sub_add_cancel];exact a) (0,H) ⟨Int.le_refl _,f,Int.le_refl _,by show(0:Int)*0<=n; omega,o⟩ (by show(H-0).toNat<=_; omega)
 have b:=of_decide_eq_false b;have e:d.1=d.2:=by omega
 exact⟨d.1,⟨i,i4,by rw[e]; exact i5⟩,by omega,k⟩
theorem u0M{n R Z:Int}(h:Bn n R)(k:Bn (4*n) Z):(Z=2*R∨Z=2*R+1)/\(R*R=n->Z=2*R/\Z*Z=4*n)/\(R*R<n->(Z=2*R/\Z*Z<4*n)∨(Z=2*R+1/\Z*Z<4*n)):=by
 obtain⟨c,d,e⟩:=h;obtain⟨o,i,l⟩:=k;have a:(2*R)*(2*R)=4*(R*R):=by rw[Int.mul_assoc,<- Int.mul_assoc R 2 R,Int.mul_comm R 2,Int.mul_assoc 2 R R]; omega
 have j:(2*R+2)*(2*R+2)=4*((R+1)*(R+1)):=by
  rw[show 2*R+2=2*(R+1) by omega,Int.mul_assoc,<- Int.mul_assoc (R+1) 2 (R+1),Int.mul_comm (R+1) 2,Int.mul_assoc 2 (R+1) (R+1)]; omega
 have f:(2*R+1)*(2*R+1)=4*(R*R)+4*R+1:=by
  rw[Int.add_mul,Int.mul_add,a]; omega
 have m:2*R<Z+1:=q0z (by omega) (by omega);have g:Z<2*R+2:=q0z (by omega) (by omega);have hz:Z=2*R∨Z=2*R+1:=by omega
 refine⟨hz,fun b=>?_,fun b=>?_⟩
 ·rcases hz with rfl | rfl
  ·exact⟨rfl,by omega⟩
  ·omega
 ·rcases hz with rfl | rfl
  ·exact .inl ⟨rfl,by omega⟩
  ·exact .inr ⟨rfl,by omega⟩
theorem Dz{a b:Int}(c:0<=a)(d:0<b):u0 a b 0=a / b:=by
 unfold u0;rw[Int.tdiv_eq_ediv_of_nonneg c,Int.tmod_eq_emod_of_nonneg c,if_neg,if_neg]
 ·simp
 ·have:=Int.emod_nonneg a (Int.ne_of_gt d);simp;omega
theorem Bo{a b:Int}(c:0<=a)(_:0<b):u0 a b 1=if 0<a % b then a / b+1 else a / b:=by
 unfold u0;rw[Int.tdiv_eq_ediv_of_nonneg c,Int.tmod_eq_emod_of_nonneg c,if_neg (by simp)];by_cases h:0<a % b
 ·rw[if_pos h,if_pos (by simp[h])]
 ·rw[if_neg h,if_neg (by simp[h])]
def N8(n m R:Int):Int:=if(m==1&&decide (R*R<n))=true then R.tdiv 500+1 else u0 R 500 m
def DA(N m Z:Int):Int:=if(m==1&&decide (Z*Z<N))=true then Z+1 else Z
theorem x0e{n R Z m:Int}(h:Bn n R)(k:Bn (4*n) Z)(c:m=0∨m=1):N8 n m R=u0 (DA (4*n) m Z) 1000 m:=by
 obtain⟨i,d,f⟩:=u0M h k;have a:=h.1;have g:=h.2.1;unfold N8 DA;rcases c with rfl | rfl
 ·rw[if_neg (by simp),if_neg (by simp),Dz a (by decide),Dz k.1 (by decide)];omega
 ·by_cases b:R*R<n
  ·rw[if_pos (by simp[b]),Int.tdiv_eq_ediv_of_nonneg a];rcases f b with ⟨e,hz⟩ | ⟨e,hz⟩
   ·rw[if_pos (by simp[hz]),Bo (by omega) (by decide),e];split <;> omega
   ·rw[if_pos (by simp[hz]),Bo (by omega) (by decide),e];split <;> omega
  ·obtain⟨e,hz⟩:=d (by omega);rw[if_neg (by simp[b]),if_neg (by simp[hz]),Bo a (by decide),Bo k.1 (by decide),e];split <;> split <;> omega
end Go.Proofs.Xd
end
section
namespace Go.Proofs.YtdjgagoledoaaaaGreatDoor
open Go Go.Proofs Go.Proofs.Sv Go.Proofs.Xv Go.Proofs.Xl Go.Proofs.Xd
theorem p0G{q r:Int}(h:0<=q)(a:r=0∨r=1):(2*q+r).tdiv 2=q/\((2*q+r).tmod 2=0∨(2*q+r).tmod 2=1):=by
 grind
structure MQ(b:j7)(l:w6)(a:D8)(n:Nat):Prop where
 kind:l.2.2.1=1
 pix:ix (l.2.1.tdiv 2) (p6 b.2.1).length
 plt:(l.2.1.tdiv 2).toNat < (p6 b.2.1).length
 iix:ix (s9 b.2.1 (l.2.1.tdiv 2).toNat).1 b.2.1.1.length
 cix:ix (m5 b.2.1 (s9 b.2.1 (l.2.1.tdiv 2).toNat).1.toNat).2.1 b.1.length
 aix:ix l.2.2.2 (b.1.getD (m5 b.2.1 (s9 b.2.1 (l.2.1.tdiv 2).toNat).1.toNat).2.1.toNat (b7 y64)).2.2.2.1.length
 arc:(b.1.getD (m5 b.2.1 (s9 b.2.1 (l.2.1.tdiv 2).toNat).1.toNat).2.1.toNat (b7 y64)).2.2.2.1.getD l.2.2.2.toNat (b7 y67)=a
 net:(s9 b.2.1 (l.2.1.tdiv 2).toNat).2.2.1=(n:Int)
 nlt:n<b.2.2.length
 trs:l.2.1.tmod 2=0∨l.2.1.tmod 2=1
 del:C0 a.2.2.2.2.1 true=true
 slw:C0 a.2.2.2.2.2 true=true
structure J0a(b:j7)(l:w6)(n k:Nat):Prop where
 kind:l.2.2.1=2
 pix:ix (l.2.1.tdiv 2) (p6 b.2.1).length
 plt:(l.2.1.tdiv 2).toNat < (p6 b.2.1).length
 net:(s9 b.2.1 (l.2.1.tdiv 2).toNat).2.2.1=(n:Int)
 nlt:n<b.2.2.length
 idx:l.2.2.2=(k:Int)
 klt:k < (x7 b.2.1 n).length
theorem x0K{k s:Int}{t:Nat}(h:t < (I7 k s).length):(((I7 k s).getD t (0,0)).2=0∨((I7 k s).getD t (0,0)).2=1):=by
 grind[Qw,F0]
theorem Hn{b:j7}(Q:p7 b=true){l:w6}(h:l∈lV b):(∃a n,MQ b l a n)∨∃n k,J0a b l n k:=by
 obtain⟨H,E,_⟩:=U5 Q;have y:=R9 H;rcases Wi h with ⟨i,j,t,hi,x,s,rfl⟩ | ⟨i,k,t,hi,hk,s,rfl⟩
 ·obtain⟨V,z,x3⟩:=FB y hi;obtain⟨c1,X,W,F⟩:=Dw z;obtain⟨a1,a2,a3,a4⟩:=F j x;obtain⟨B,P⟩:∃B:Nat,(m8 (w8 b i) j).2.2.1=(B:Int):=⟨(m8 (w8 b i) j).2.2.1.toNat,by omega⟩;have f:B < (m5 b.2.1 i).2.2.length:=by omega
  have Y:x9 (m5 b.2.1) i+B < (p6 b.2.1).length:=by
   have:=MN (m5 b.2.1) hi f;unfold p6;rw[Jp]; omega
  have g:=QF b.2.1.1.length b.2.1.2.2.length (m5 b.2.1) (A6 b.2.1) (b7 y151) hi f;have g:s9 b.2.1 (x9 (m5 b.2.1) i+B)=((i:Int),(B:Int),(m5 b.2.1 i).2.2.getD B 0,(B:Int)==((m5 b.2.1 i).2.2.length:Int)-1):=g;have hn:=y9.1 (y.fac.net.1 i hi B f);obtain⟨n,v⟩:∃n:Nat,(m5 b.2.1 i).2.2.getD B 0=(n:Int):=⟨((m5 b.2.1 i).2.2.getD B 0).toNat,by omega⟩;have u:(m8 (w8 b i) j).1<=3:=by have:=r0P (Nat.lt_of_le_of_lt (Nat.zero_le _) s); omega
  obtain⟨_,G,T⟩:=r0l (Wg z x) u;have e:=p0G (q:=((x9 (m5 b.2.1) i+B:Nat):Int)) (Int.natCast_nonneg _) (x0K s);have o:(Hk (x9 (m5 b.2.1) i:Int) (m8 (w8 b i) j) j t).2.1=2*((x9 (m5 b.2.1) i+B:Nat):Int)+((I7 (m8 (w8 b i) j).1 (m8 (w8 b i) j).2.2.2.1).getD t (0,0)).2:=by
   show 2*((x9 (m5 b.2.1) i:Int)+(m8 (w8 b i) j).2.2.1)+_=_;rw[P,Int.natCast_add]
  refine .inl ⟨m8 (w8 b i) j,n,?_⟩;have c:((Hk (x9 (m5 b.2.1) i:Int) (m8 (w8 b i) j) j t).2.1.tdiv 2)=((x9 (m5 b.2.1) i+B:Nat):Int):=by rw[o]; exact e.1
  have m:((x9 (m5 b.2.1) i+B:Nat):Int).toNat=x9 (m5 b.2.1) i+B:=rfl;refine⟨rfl,?_,?_,?_,?_,?_,?_,?_,by omega,by rw[o]; omega,G,T⟩
  ·rw[c]; exact oo
  ·omega
  ·rw[c,m,g]; exact⟨Int.natCast_nonneg _,by omega⟩
  ·rw[c,m,g]; exact V
  ·rw[c,m,g]; exact⟨Int.natCast_nonneg _,by show(j:Int) < ((w8 b i).2.2.2.1.length:Int); omega⟩
  ·rw[c,m,g]; rfl
  ·rw[c,m,g]; exact v
 ·obtain⟨q,w,h2,h3,_⟩:=MB (s9 b.2.1) i (p6 b.2.1).length _ (F0 (d:=0) hk);have w:(x7 b.2.1 i).getD k 0=(q:Int):=w;have o:(Dy (I8 b i) ((x7 b.2.1 i).getD k 0) k t).2.1=2*(q:Int)+(t:Int):=by
   show 2*(x7 b.2.1 i).getD k 0+_=_;rw[w]
  have e:=p0G (q:=(q:Int)) (r:=(t:Int)) (Int.natCast_nonneg _) (by omega);have c:((Dy (I8 b i) ((x7 b.2.1 i).getD k 0) k t).2.1.tdiv 2)=(q:Int):=by rw[o]; exact e.1
  have m:((q:Int)).toNat=q:=rfl;refine .inr ⟨i,k,rfl,?_,?_,?_,hi,rfl,hk⟩
  ·rw[c]; exact oo
  ·omega
  grind
theorem AB{l:List Dq}{p:Bool}(h:C0 l p=true){x:Int}(b:x=0∨x=1):ix x l.length/\C3 (l.getD x.toNat (b7 y70))=true:=by
 unfold C0 at h;rw[ba,dq] at h;have a:x.toNat<l.length:=by omega
 refine⟨oo,?_⟩
 grind
section
variable {b:j7}
theorem Ho{l:w6}{a:D8}{n:Nat}(h:MQ b l a n):BH (o3 b) l=some a:=by
 unfold BH;refine(gP ⟨by decide,h.pix,h.iix,trivial⟩).trans ?_;rw[lE];refine(gP ⟨h.cix,h.aix,trivial⟩).trans ?_;rw[lE];exact congrArg some h.arc
theorem Z0{l:w6}{n:Nat}(a:ix (l.2.1.tdiv 2) (p6 b.2.1).length)(c:(s9 b.2.1 (l.2.1.tdiv 2).toNat).2.2.1=(n:Int)):Cv (o3 b) l=some (n:Int):=by
 unfold Cv;refine(gP ⟨by decide,a,trivial⟩).trans ?_;rw[lE];exact congrArg some c
theorem M0d(f:wf l9 b)(e:p7 b=true){l:w6}{a:D8}{n:Nat}(h:MQ b l a n):Gu b l=some (a,(z6 b n).getD 0 0):=by
 have c:=R9 (U5 e).1;have d:=Bk e h.nlt;have n1:=d.wf.n1;have g:=d.loads.1;unfold Gu;rw[Dv b.2.1 f.2.1 c.fac.ni14 c.fac.np8 c.pin,vS,gP ⟨rfl,by decide,h.pix,h.plt,trivial⟩,lE];show gd (ix (s9 b.2.1 (l.2.1.tdiv 2).toNat).1 b.2.1.1.length/\ix (m5 b.2.1 (s9 b.2.1 (l.2.1.tdiv 2).toNat).1.toNat).2.1 b.1.length/\ix l.2.2.2 (b.1.getD (m5 b.2.1 (s9 b.2.1 (l.2.1.tdiv 2).toNat).1.toNat).2.1.toNat (b7 y64)).2.2.2.1.length/\(Au b (s9 b.2.1 (l.2.1.tdiv 2).toNat).2.2.1).isSome=true/\ix (0:Int) (vl (Au b (s9 b.2.1 (l.2.1.tdiv 2).toNat).2.2.1)).length/\Int.toNat (0:Int) < (vl (Au b (s9 b.2.1 (l.2.1.tdiv 2).toNat).2.2.1)).length/\True) (lt (vl (Au b (s9 b.2.1 (l.2.1.tdiv 2).toNat).2.2.1),(b.1.getD (m5 b.2.1 (s9 b.2.1 (l.2.1.tdiv 2).toNat).1.toNat).2.1.toNat (b7 y64)).2.2.2.1.getD l.2.2.2.toNat (b7 y67)) fun x=>match x with | (v2,v3)=>some (v3,v2.getD (Int.toNat (0:Int)) (0:Int)))=_;rw[h.net,M0b b f d,vS,gP ⟨h.iix,h.cix,h.aix,rfl,⟨by decide,by omega⟩,by omega,trivial⟩,lE,h.arc];rfl
theorem M0c(d:wf l9 b)(c:p7 b=true){l:w6}{n k:Nat}(h:J0a b l n k):BA b l=some (n:Int):=by
 have a:=R9 (U5 c).1;unfold BA;rw[Dv b.2.1 d.2.1 a.fac.ni14 a.fac.np8 a.pin,vS,gP ⟨rfl,by decide,h.pix,h.plt,trivial⟩,lE];exact congrArg some h.net
end
theorem Wm{n:Int}(e:0<=n)(k:n<=1000000000000000000):∃r,Bn n r/\r<=3000000000/\LA n=some r:=by
 unfold LA;refine v0t (J:=fun r=>some r) (n:=n) (H:=3000000000) e (by omega) (by decide) (by decide) (fun g s b d c=>?_);obtain⟨lo,hi⟩:=s;have b:0<=lo:=b;have d:lo<=hi:=d;have c:hi<=3000000000:=c;show Um n g (lo,hi)=if decide (lo<hi)=true then g (Hm n (lo,hi)) else some lo
 rw[Um];by_cases a:lo<hi
 ·obtain⟨j,f,i⟩:=Wl b a;have h:=J8 (A:=3000000000) (B:=3000000000) (x:=(lo+hi+1).tdiv 2) (y:=(lo+hi+1).tdiv 2) (by omega) (by omega) (by omega) (by omega) (by decide);rw[if_pos (decide_eq_true a),if_pos (decide_eq_true a),gP ⟨oo,oo,by decide,trivial⟩,gP ⟨oo,trivial⟩];unfold Hm;show(if _ then _ else _)=g (if decide ((lo+hi+1).tdiv 2*(lo+hi+1).tdiv 2<=n)=true then((lo+hi+1).tdiv 2,hi) else(lo,(lo+hi+1).tdiv 2-1));split
  ·rfl
  ·exact gP ⟨oo,trivial⟩
 ·rw[if_neg (by grind),if_neg (by grind)];rfl
theorem N0y{n m:Int}(h:0<=n)(u:n<=2000000000000000000)(_:m=0∨m=1):∃r,Bn n r/\r<=2000000000/\Cn n m=some (DA n m r):=by
 unfold Cn;obtain⟨r,e,a,k⟩:=v0t (J:=fun r=>Kt m n r) (F:=Ox n m) (n:=n) (H:=2000000000) h (by omega) (by decide) (by decide) (fun g s c f d=>by
  obtain⟨lo,hi⟩:=s;have c:0<=lo:=c;have f:lo<=hi:=f;have d:hi<=2000000000:=d;show Ox n m g (lo,hi)=if decide (lo<hi)=true then g (Hm n (lo,hi)) else Kt m n lo
  rw[Ox];by_cases b:lo<hi
  ·obtain⟨t,l,q⟩:=Wl c b;have o:=J8 (A:=3000000000) (B:=3000000000) (x:=(lo+hi+1).tdiv 2) (y:=(lo+hi+1).tdiv 2) (by omega) (by omega) (by omega) (by omega) (by decide);rw[if_pos (decide_eq_true b),if_pos (decide_eq_true b),gP ⟨oo,oo,by decide,trivial⟩,gP ⟨oo,trivial⟩];unfold Hm;show(if _ then _ else _)=g (if decide ((lo+hi+1).tdiv 2*(lo+hi+1).tdiv 2<=n)=true then((lo+hi+1).tdiv 2,hi) else(lo,(lo+hi+1).tdiv 2-1));split
   ·rfl
   ·exact gP ⟨oo,trivial⟩
  grind)
 refine⟨r,e,a,k.trans ?_⟩;have i:=e.1;have j:=J8 (A:=2000000000) (B:=2000000000) (x:=r) (y:=r) (by omega) (by omega) (by omega) (by omega) (by decide);rw[Kt,gP ⟨(fun _=>oo),trivial⟩];unfold DA;split
 ·rw[gP ⟨oo,trivial⟩]; rfl
 ·rfl
theorem QK(s d:Int):500*s*500*s=250000*(s*s)/\1000000*s*s=1000000*(s*s)/\4*d*d=4*(d*d):=by
 grind
theorem K0E{s d m:Int}(i:0<=s)(X:s<=1000000)(h:0<=d)(V:d<=301000000)(f:m=0∨m=1):∃r z,V7 s d m=some r/\Cn (1000000*s*s+4*d*d) m=some z/\V4 z 1000 m=some r/\0<=r/\r<=3000000001:=by
 obtain⟨q,W,Y⟩:=QK s d;have Q:=J8 (A:=1000000) (B:=1000000) (x:=s) (y:=s) (by omega) (by omega) (by omega) (by omega) (by decide);have T:=J8 (A:=301000000) (B:=301000000) (x:=d) (y:=d) (by omega) (by omega) (by omega) (by omega) (by decide);have o:0<=s*s:=Int.mul_nonneg i i;have P:0<=d*d:=Int.mul_nonneg h h;obtain⟨R,j,H,E⟩:=Wm (n:=250000*(s*s)+d*d) (by omega) (by omega);obtain⟨Z,g,t,u⟩:=N0y (n:=4*(250000*(s*s)+d*d)) (m:=m) (by omega) (by omega) f;have c:=j.1;have v:=g.1;have F:=x0e j g f;have l:1000000*s*s+4*d*d=4*(250000*(s*s)+d*d):=by omega
 have G:0<=DA (4*(250000*(s*s)+d*d)) m Z/\DA (4*(250000*(s*s)+d*d)) m Z<=3000000000:=by
  unfold DA;split <;> omega
 have w:=FD (a:=DA (4*(250000*(s*s)+d*d)) m Z) (b:=1000) (K:=3000000) m (by decide) (by omega) (by omega);have k:=J8 (A:=3000000000) (B:=3000000000) (x:=R) (y:=R) (by omega) (by omega) (by omega) (by omega) (by decide);have e:0<=N8 (250000*(s*s)+d*d) m R:=by
  unfold N8;rcases f with rfl | rfl
  ·rw[if_neg (by simp),Dz c (by decide)]; omega
  ·split
   ·rw[Int.tdiv_eq_ediv_of_nonneg c]; omega
   ·rw[Bo c (by decide)]; split <;> omega
 refine⟨N8 (250000*(s*s)+d*d) m R,DA (4*(250000*(s*s)+d*d)) m Z,?_,by rw[l]; exact u,?_,e,by omega⟩
 ·unfold V7;rw[q,E,vS,gP ⟨oo,oo,oo,oo,oo,trivial⟩,gP ⟨rfl,trivial⟩,lE,gP ⟨(fun _=>oo),trivial⟩];unfold N8;split
  ·have:R.tdiv 500=R / 500:=Int.tdiv_eq_ediv_of_nonneg c;exact gP ⟨by decide,oo,trivial⟩
  ·rw[(U8 R 500 m (by omega) (by omega) (by decide)).1,vS,gP ⟨rfl,trivial⟩,lE]
 ·rw[F];exact(U8 _ 1000 m (by omega) (by omega) (by decide)).2
end Go.Proofs.YtdjgagoledoaaaaGreatDoor
end
section
namespace Go.Proofs.YtdjgagoledoaaaaGreatDoor
open Go Go.Proofs Go.Proofs.Xv Go.Proofs.Xl Go.Proofs.Xd
theorem N0v(a b:Int):LB a b=some (decide (a<b)):=by
 unfold LB;have e:∀a,GK a=some (a != a):=fun _=>rfl;rw[e,e,gP ⟨rfl,fun _=>rfl,trivial⟩,vS,vS];simp
theorem MR{xs:List Int}{x:Int}(y:xs.length<=4611686018427387903){p:Nat}(t:p<xs.length)(v:∀i,i<p->xs.getD i 0<x)(s:∀i,p<=i->i<xs.length->x<=xs.getD i 0):LD xs x=some ((p:Int),xs.getD p 0==x):=by
 have l:∀(m i j:Nat),i<=p->p<=j->j<=xs.length->j-i<m->I9 (LC xs x) m ((i:Int),(j:Int))=some ((p:Int),xs.getD p 0==x):=by
  intro m
  induction m with
  | zero=>intro i j _ _ _ h; omega
  | succ m n =>
    intro i j hi u k w;show LC xs x (I9 (LC xs x) m) ((i:Int),(j:Int))=_;rw[LC];by_cases d:i<j
    ·have c:(i+j) / 2<xs.length:=by omega
     have g:((((i+j) / 2:Nat)):Int).toNat=(i+j) / 2:=rfl;rw[if_pos (by simpa using d),D0N,gP ⟨oo,oo,⟨⟨by decide,by decide⟩,by omega,by omega⟩,oo,trivial⟩,g,N0v,gP ⟨oo,rfl,trivial⟩,vS];by_cases q:xs.getD ((i+j) / 2) 0<x
     ·rw[if_pos (by simpa using q),gP ⟨oo,trivial⟩];have f:(i+j) / 2<p:=by
       apply Nat.lt_of_not_le;intro b;have:=s _ b c; omega
      have:=n ((i+j) / 2+1) j (by omega) u k (by omega);simpa using this
     ·rw[if_neg (by simpa using q)];have f:p<=(i+j) / 2:=by
       apply Nat.le_of_not_lt;intro b;have:=v _ b; omega
      exact n i ((i+j) / 2) hi f (by omega) (by omega)
    ·have e:i=p:=by omega
     subst e;rw[if_neg (by simpa using d),Un];have g:((i:Int)).toNat=i:=rfl;have r:decide ((i:Int) < (xs.length:Int))=true:=by simpa using t
     have o:∀a,GJ a=some (a != a):=fun _=>rfl;rw[g,r,o,o,gP ⟨fun _=>oo,fun _=>oo,fun _=>rfl,fun _=>rfl,trivial⟩,vS,vS];simp
 unfold LD;have:=l U7 0 xs.length (by omega) (by omega) (Nat.le_refl _) (by simp only[U7]; omega);exact this
def A3(xs:List Int)(x:Int):Int:=min (max x (xs.getD 0 0)) (xs.getD (xs.length-1) 0)
theorem N0G{xs:List Int}(x:Int)(h:F7 xs=true):∃(p:Nat) (a b:Int),p<xs.length/\Df xs x=some ((p:Int),a,b) /\
  ((a=1/\b=0/\O6 xs x=some ([((p:Int),1)],1)) ∨
    (p+1<xs.length/\0<a/\0<b/\a+b<=100000/\O6 xs x=some ([((p:Int),a),((p:Int)+1,b)],a+b))):=by
 obtain⟨l1,l4⟩:=CA h;have o:((xs.length:Int)-1).toNat=xs.length-1:=by omega
 have V:xs.getD 0 0<=A3 xs x:=by
  have:xs.getD 0 0<=xs.getD (xs.length-1) 0:=by
   by_cases l:xs.length=1
   ·rw[l]; exact Int.le_refl _
   ·have:=CF h (by omega:0<xs.length-1) (by omega); omega
  unfold A3; omega
 have T:A3 xs x<=xs.getD (xs.length-1) 0:=by unfold A3; omega
 obtain⟨p,e,E,t⟩:=w0B h V T;have c:∀(q:Nat) (r:Option (Int×Int×Int)),(∀g,De xs (A3 xs x) g (q:Int)=r)->(∀i,q<i->i<xs.length->A3 xs x<xs.getD i 0)->q<xs.length->lp (De xs (A3 xs x)) ((xs.length:Int)-1)=r:=by
  intro q r y d j;have z:∀(m k:Nat),q+k<xs.length->k<m->I9 (De xs (A3 xs x)) m ((q+k:Nat):Int)=r:=by
   intro m
   induction m with
   | zero=>intro k _ h; omega
   | succ m G =>
     intro k H Y;show De xs (A3 xs x) (I9 (De xs (A3 xs x)) m) ((q+k:Nat):Int)=r;by_cases u:k=0
     ·subst u; exact y _
     ·have hg:=d (q+k) (by omega) H;have f:(((q+k:Nat):Int)).toNat=q+k:=rfl;have s:¬(A3 xs x=xs.getD (q+k) 0):=by omega
      have W:¬(xs.getD (q+k) 0<A3 xs x):=by omega
      rw[De,if_pos (by simp; omega),gP ⟨oo,trivial⟩,f,if_neg (by simpa using s),gP ⟨oo,trivial⟩,if_neg (by simpa using W),gP ⟨oo,trivial⟩];have F:(((q+k:Nat):Int))-1=((q+(k-1):Nat):Int):=by omega
      rw[F];exact G (k-1) (by omega) (by omega)
  have:=z U7 (xs.length-1-q) (by omega) (by simp only[U7]; omega);have X:((q+(xs.length-1-q):Nat):Int)=(xs.length:Int)-1:=by omega
  rw[X] at this;exact this
 have f:∀n:Nat,((n:Int)).toNat=n:=fun _=>rfl;by_cases v:xs.getD p 0=A3 xs x
 ·refine⟨p,1,0,e,?_,.inl ⟨rfl,rfl,?_⟩⟩
  ·unfold Df;rw[gP ⟨oo,trivial⟩,gP ⟨oo,oo,trivial⟩,o];change lt (A3 xs x) _=_;rw[lE,gP ⟨oo,trivial⟩];refine c p _ (fun g=>?_) (fun i hi l=>?_) e
   ·rw[De,if_pos (by simp),gP ⟨oo,trivial⟩,f,if_pos (by simpa using v.symm)]
   ·have:=CF h hi l; omega
  ·unfold O6;rw[gP ⟨oo,oo,oo,trivial⟩,o];change lt (A3 xs x) _=_;rw[lE,MR (by omega) e E t,gP ⟨rfl,trivial⟩,vS,lE,if_pos (by simpa using v)]
 ·have d:A3 xs x<xs.getD p 0:=by have:=t p (Nat.le_refl _) e; omega
  have Q:0<p:=by
   apply Nat.pos_of_ne_zero;intro u; subst u; omega
  obtain⟨q,rfl⟩:∃q,p=q+1:=⟨p-1,by omega⟩;have j:=E q (by omega);have b1:=MP h e;have b2:=MP h (by omega:q<xs.length);refine⟨q,xs.getD (q+1) 0-A3 xs x,A3 xs x-xs.getD q 0,by omega,?_,.inr ⟨e,by omega,by omega,by omega,?_⟩⟩
  ·unfold Df;rw[gP ⟨oo,trivial⟩,gP ⟨oo,oo,trivial⟩,o];change lt (A3 xs x) _=_;rw[lE,gP ⟨oo,trivial⟩];refine c q _ (fun g=>?_) (fun i hi l=>?_) (by omega)
   ·have w:((q:Int)+1).toNat=q+1:=by omega
    have s:¬(A3 xs x=xs.getD q 0):=by omega
    rw[De,if_pos (by simp),gP ⟨oo,trivial⟩,f,if_neg (by simpa using s),gP ⟨oo,trivial⟩,if_pos (by simpa using j),w,gP ⟨oo,oo,oo,oo,oo,trivial⟩]
   ·by_cases y:i=q+1
    ·subst y; exact d
    ·have:=CF h (by omega:q+1<i) l; omega
  ·have w:(((q+1:Nat):Int)-1).toNat=q:=by omega
   have P:((q+1:Nat):Int)-1=(q:Int):=by omega
   unfold O6;rw[gP ⟨oo,oo,oo,trivial⟩,o];change lt (A3 xs x) _=_;rw[lE,MR (by omega) e E t,gP ⟨rfl,trivial⟩,vS,lE,if_neg (by simpa using v),w,f,gP ⟨oo,oo,oo,oo,oo,oo,oo,oo,oo,oo,trivial⟩,lE,P];congr 2;omega
end Go.Proofs.YtdjgagoledoaaaaGreatDoor
end

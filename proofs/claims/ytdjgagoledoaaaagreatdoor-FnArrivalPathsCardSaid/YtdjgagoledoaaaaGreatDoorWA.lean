/- Plain words on names: no program in sight. -/
import Derived.Test.YtdjgagoledoaaaaGreatDoorXA
import Derived.Lib.SlTrimSet
import Derived.Lib.Bytealg
import Derived.Test.YtdjgagoledoaaaaGreatDoorXF
import Derived.Test.YtdjgagoledoaaaaGreatDoorF86c
import Derived.Test.YtdjgagoledoaaaaGreatDoorG86
set_option maxHeartbeats 0
section
namespace Go.Proofs.Sv
open Go
def Be(c:Int):Bool:=decide (c≥97)&&decide (c<=122)
def Jz(c:Int):Bool:=decide (c≥48)&&decide (c<=57)
def FF(c:Int)(i:Nat):Bool:=Be c||(Jz c&&decide (0<i))
def Bf(s:ByteArray):Nat->Bool
 | 0=>true
 | k+1=>Bf s k&&FF (F0 s k) k
def I6(s:ByteArray):Bool:=Bf s s.size&&decide ((s.size:Int)≥1)&&decide ((s.size:Int)<=8)
theorem v0m(s:ByteArray)(k:Nat):∀j,k<=j->Bf s j=true->Bf s k=true:=by
 intro j c h
 induction j with
 | zero=>have:k=0:=by omega
         subst this; rfl
 | succ j b =>
   by_cases a:k=j+1
   ·subst a; exact h
   ·simp only[Bf,ba] at h;exact b (by omega) h.1
def low26:List UInt8:=[97,98,99,100,101,102,103,104,105,106,107,108,109,110,111,112,113,114,115,116,117,118,119,120,121,122]
def low36:List UInt8:=[97,98,99,100,101,102,103,104,105,106,107,108,109,110,111,112,113,114,115,116,117,118,119,120,121,122,48,49,50,51,52,53,54,55,56,57]
theorem v0A:∀n:Fin 256,low26.contains (UInt8.ofNat n.val)=Be (n.val:Int):=by decide +kernel
theorem v0y:∀n:Fin 256,low36.contains (UInt8.ofNat n.val)=(Be (n.val:Int)||Jz (n.val:Int)):=by decide +kernel
theorem v0z(b:UInt8):low26.contains b=Be (b.toNat:Int):=by
 have:=v0A ⟨b.toNat,b.toNat_lt⟩;simpa using this
theorem n0d(b:UInt8):low36.contains b=(Be (b.toNat:Int)||Jz (b.toNat:Int)):=by
 have:=v0y ⟨b.toNat,b.toNat_lt⟩;simpa using this
theorem f0R(c:UInt8):∀l:List UInt8,decide (0<=Lib.indexByte l c)=l.contains c
 | []=>by simp[Lib.indexByte]
 | b :: l=>by
   have f:=f0R c l;have i:=Lib.indexByte_ge l c;unfold Lib.indexByte;by_cases a:b=c
   ·subst a; simp
   ·have d:¬c=b:=fun h=>a h.symm;have g:(b==c)=false:=by simpa using a
    rw[g,List.contains_cons,show(c==b)=false by simpa using d,<- f];by_cases e:Lib.indexByte l c = -1
    ·simp[e]
    ·have:(Lib.indexByte l c == -1)=false:=by simpa using e
     rw[this];simp only[Bool.false_eq_true,if_false,Bool.false_or];rw[Bool.eq_iff_iff]; simp only[dq]; omega
theorem f0W{a:Type}(p:a->Bool):∀l:List a,l.dropWhile p=[]↔∀x∈l,p x=true
 | []=>by simp
 | x :: r=>by
   rw[List.dropWhile_cons];by_cases h:p x=true
   ·simp[h,f0W p r]
   ·simp[h]
theorem f0H{a:Type}(p:a->Bool)(x:a):∀l:List a,x∈l.takeWhile p->p x=true
 | [],h=>by cases h
 | y :: r,h=>by
   rw[List.takeWhile_cons] at h;by_cases b:p y=true
   ·rw[if_pos b] at h;rcases List.mem_cons.1 h with rfl | h
    ·exact b
    ·exact f0H p x r h
   ·rw[if_neg b] at h; cases h
theorem u0j(l cs:List UInt8):Lib.trimS l cs=[]↔∀b∈l,cs.contains b=true:=by
 unfold Lib.trimS Lib.trimLeftS Lib.trimRightS;rw[f0W];constructor
 ·intro h b a;have e:l=(l.reverse.dropWhile (cs.contains ·)).reverse++(l.reverse.takeWhile (cs.contains ·)).reverse:=by
   rw[<- List.reverse_append,List.takeWhile_append_dropWhile,List.reverse_reverse]
  rw[e] at a;rcases List.mem_append.1 a with a | a
  ·exact h b a
  ·have:=List.mem_reverse.1 a;exact f0H (cs.contains ·) b _ this
 ·intro h b a;exact h b (by have:=(List.dropWhile_sublist _).mem (List.mem_reverse.1 a); exact List.mem_reverse.1 this)
theorem q0F(s:ByteArray)(d:Be (F0 s 0)=true):∀k,k<=s.size->(Bf s k=true↔∀i,i<k->(Be (F0 s i)||Jz (F0 s i))=true)
 | 0,_=>by simp[Bf]
 | k+1,hk=>by
   have e:=q0F s d k (by omega);simp only[Bf,ba,e];constructor
   ·rintro⟨g,a⟩ i hi;by_cases b:i=k
    ·subst b;unfold FF at a;cases hl:Be (F0 s i) with
     | true=>simp
     | false=>rw[hl] at a; simp only[Bool.false_or,ba] at a; simp[a.1]
    ·exact g i (by omega)
   ·intro h;refine⟨fun i hi=>h i (by omega),?_⟩;have:=h k (by omega);unfold FF;by_cases c:k=0
    ·subst c; simp[d]
    ·have f:decide (0<k)=true:=by simp; omega
     rw[f]; simpa using this
theorem x0N(s:ByteArray):Lib.trimS s.data.toList low36=[]↔∀i,i<s.size->(Be (F0 s i)||Jz (F0 s i))=true:=by
 rw[u0j];have c:s.data.toList.length=s.size:=by simp
 constructor
 ·intro h i hi;have a:i<s.data.toList.length:=by rw[c]; exact hi
  have:=h s.data.toList[i] (List.getElem_mem a);rw[n0d] at this;unfold F0;rw[gq,List.getElem?_eq_getElem a];exact this
 ·intro h b d;obtain⟨i,hi,rfl⟩:=List.getElem_of_mem d;have:=h i (by rw[<- c]; exact hi);unfold F0 at this;rw[gq,List.getElem?_eq_getElem hi] at this;rw[n0d]; exact this
theorem y0M(s:ByteArray)(d:1<=s.size)(e:s.size<=8):I6 s=((Lib.trimS s.data.toList low36==[])&&decide (0<=Lib.indexByte low26 (F0 s 0).toNat.toUInt8)):=by
 have b:(F0 s 0).toNat.toUInt8=s.data.toList.getD 0 0:=by unfold F0; simp
 rw[b,f0R,v0z];show I6 s=(_&&Be (F0 s 0));have a:decide ((s.size:Int)≥1)=true:=by simp; omega
 have c:decide ((s.size:Int)<=8)=true:=by simp; omega
 unfold I6;rw[a,c,Bool.and_true,Bool.and_true];cases h0:Be (F0 s 0) with
 | false =>
   rw[Bool.and_false];cases hn:Bf s s.size with
   | false=>rfl
   | true =>
     have:=v0m s 1 s.size d hn;simp[Bf,FF,h0] at this
 | true =>
   rw[Bool.and_true,Bool.eq_iff_iff,q0F s h0 s.size (Nat.le_refl _),beq_iff_eq,x0N]
end Go.Proofs.Sv
end
section
namespace Go.Proofs.Xd
open Go Go.Proofs.Xv Go.Proofs.Xl
abbrev Dt:=List Int×List Int×List Int
abbrev D7:=Int×Int×Int×Int×List Dt×List Dt
abbrev N0:=ByteArray×Int×Int×Bool
abbrev D8:=ByteArray×Int×List Int
abbrev N1:=ByteArray×Int×Int
abbrev Wh:=List Int×List Int×List Int×List Int
def m0(x l h:Int):Bool:=decide (l<=x)&&decide (x<=h)
theorem y9{x l h:Int}:m0 x l h=true↔l<=x/\x<=h:=by simp[m0]
def Du(xs:List Int):Bool:=!(List.range xs.length).any fun i=>decide (0<i)&&decide (xs.getD i 0<=xs.getD (i-1) 0)
def F8(xs:List Int):Bool:=decide (1<=xs.length)&&decide (xs.length<=4)&&xs.all (m0 · 0 100000)&&Du xs
def C5(t:Dt):Bool:=F8 t.1&&F8 t.2.1&&decide (t.2.2.length=t.1.length*t.2.1.length)&&t.2.2.all (m0 · (-1000000) 1000000)
theorem CB{xs:List Int}(h:F8 xs=true):1<=xs.length/\xs.length<=4:=by
 simp only[F8,ba,dq] at h;exact⟨h.1.1.1,h.1.1.2⟩
theorem FG{t:Dt}(h:C5 t=true):1<=t.1.length/\t.1.length<=4/\1<=t.2.1.length/\t.2.1.length<=4/\t.2.2.length=t.1.length*t.2.1.length/\1<=t.2.2.length/\t.2.2.length<=16:=by
 simp only[C5,ba,dq] at h;obtain⟨⟨⟨g,e⟩,f⟩,_⟩:=h;obtain⟨a,d⟩:=CB g;obtain⟨c,b⟩:=CB e;have i:1*1<=t.1.length*t.2.1.length:=Nat.mul_le_mul a c;have j:t.1.length*t.2.1.length<=4*4:=Nat.mul_le_mul d b;exact⟨a,d,c,b,f,by omega,by omega⟩
def AB(xs:List Int):Int:=fN (fun i m=>min m (xs.getD (i+1) 0)) (xs.length-1) (xs.getD 0 0)
def F9(l:List Dt)(p:Bool):Bool:=decide (l.length=2)&&l.all fun t=>C5 t&&!(p&&decide (AB t.2.2<0))
theorem Bg{b:Type}(l:List b)(p:b->Bool):(!l.any fun x=>!p x)=l.all p:=by
 induction l with
 | nil=>rfl
 | cons a r c=>simp only[List.any_cons,List.all_cons,Bool.not_or,Bool.not_not,c]
end Go.Proofs.Xd
end
section
namespace Go.Proofs.Xd
open Go Go.Proofs.Sv Go.Proofs.Xv Go.Proofs.Xl
theorem q0E(s:ByteArray):∀n,Bf s n=!(List.range n).any fun i=>!FF (F0 s i) i
 | 0=>rfl
 | n+1=>by
   rw[Bf,q0E s n,List.range_succ,List.any_append,Bool.not_or];simp
def O6(f:Nat->ByteArray)(i:Nat):Bool:=(List.range i).any fun k=>decide (f k=f i)
def C9(n:Nat)(f:Nat->ByteArray):Bool:=!(List.range n).any fun i=>!I6 (f i)||O6 f i
theorem n0a{n:Nat}{f g:Nat->ByteArray}(h:∀i,i<n->f i=g i):C9 n f=C9 n g:=by
 unfold C9;congr 1;refine Nb fun i hi=>?_;rw[h i hi];congr 1;unfold O6;refine Nb fun k a=>?_;rw[h i hi,h k (by omega)]
theorem x0R(l:List ByteArray)(d:ByteArray)(i:Nat)(h:i<l.length):((l.take i).any fun y=>decide (l.getD i d=y))=O6 (fun k=>l.getD k d) i:=by
 have a:(l.take i).length=i:=by rw[List.length_take]; omega
 rw[<- T5 (l.take i) d (fun y=>decide (l.getD i d=y)),a];unfold O6;refine Nb fun k b=>?_;have:(l.take i).getD k d=l.getD k d:=by
  rw[gq,gq,List.getElem?_take_of_lt b]
 rw[this,decide_eq_decide];exact eq_comm
theorem v0N{a b:Type}(f:a->b)(l:List a)(i:Nat)(d:a)(e:b)(h:i<l.length):(l.map f).getD i e=f (l.getD i d):=by
 rw[gq,gq,List.getElem?_map,List.getElem?_eq_getElem h]; rfl
theorem u0R{a b:Type}(l:List a)(d:a)(f:a->b):(List.range l.length).map (fun i=>f (l.getD i d))=l.map f:=by
 apply List.ext_getElem?;intro i;rw[List.getElem?_map,List.getElem?_map];by_cases h:i<l.length
 ·rw[List.getElem?_range h,List.getElem?_eq_getElem h];show some (f (l.getD i d))=some (f l[i]);rw[gq,List.getElem?_eq_getElem h]; rfl
 ·rw[List.getElem?_eq_none (by simpa using h),List.getElem?_eq_none (by omega)]; rfl
def BK(n:Nat)(q:N0)(i:Nat):Bool:=m0 q.2.2.1 0 500&&(if i+1=n then q.2.1==2&&q.2.2.1==0&&!q.2.2.2 else q.2.1==1)
def AD(n:Nat)(p:Nat->N0):Bool:=decide (2<=n)&&decide (n<=5)&&C9 n (fun i=>(p i).1)&&!(List.range n).any fun i=>!BK n (p i) i
def I2(n:Nat)(p:Nat->N0):Int:=fN (fun i s=>if(p i).2.2.2=true then s+1 else s) n 0
def FH(n:Nat)(p:Nat->N0):Int:=match(List.range n).find? (fun i=>(p i).2.2.2) with | some i=>(i:Int) | none => -1
def JA(a:Nat->D7)(i:Nat):Bool:=(List.range i).any fun k=>(a k).1==(a i).1&&(a k).2.1==(a i).2.1&&(a k).2.2.1==(a i).2.2.1
def F3(n:Nat)(p:Nat->N0)(a:D7):Bool :=
 m0 a.2.1 0 ((n:Int)-1-1)&&m0 a.2.2.1 0 ((n:Int)-1) &&
 if a.1=1 then !(p a.2.1.toNat).2.2.2&&a.2.2.1==(n:Int)-1&&m0 a.2.2.2.1 1 3&&F9 a.2.2.2.2.1 true&&F9 a.2.2.2.2.2 true
 else if a.1=2∨a.1=3 then(p a.2.1.toNat).2.2.2&&a.2.2.1==(n:Int)-1&&a.2.2.2.1==0&&F9 a.2.2.2.2.1 true&&F9 a.2.2.2.2.2 true
 else if a.1=4∨a.1=5 then(p a.2.1.toNat).2.2.2&&decide (a.2.2.1 < (n:Int)-1)&&!(p a.2.2.1.toNat).2.2.2&&a.2.2.2.1==0&&F9 a.2.2.2.2.1 false&&(a.2.2.2.2.2.length:Int)==0
 else false
def Dv(n:Nat)(p:Nat->N0)(a:D7):Bool :=
 if a.1=4∨a.1=5 then a.2.2.2.1==0&&(a.2.2.2.2.2.length:Int)==0&&F9 a.2.2.2.2.1 false&&a.2.1==FH n p&&decide (0<=a.2.1)&&m0 a.2.2.1 0 ((n:Int)-1-1)&&a.2.2.1 != a.2.1
 else F9 a.2.2.2.2.1 true&&F9 a.2.2.2.2.2 true&&a.2.2.1==(n:Int)-1&&m0 a.2.1 0 ((n:Int)-1-1) &&
  if a.1=1 then !(p a.2.1.toNat).2.2.2&&m0 a.2.2.2.1 1 3
  else if a.1=2∨a.1=3 then(p a.2.1.toNat).2.2.2&&a.2.2.2.1==0
  else false
theorem w0n(p:Nat->N0):∀n,0<=I2 n p/\I2 n p<=n
 | 0=>⟨Int.le_refl _,Int.le_refl _⟩
 | n+1=>by
   have:=w0n p n
   grind[I2,fN]
theorem r0g{p:Nat->N0}:∀{n i:Nat},i<n->(p i).2.2.2=true->1<=I2 n p
 | n+1,i,hi,h=>by
   have b:=(w0n p n).1;have c:i<n->1<=I2 n p:=fun a=>r0g a h;unfold I2 at *
   rw[fN]
   grind
theorem r0f{p:Nat->N0}:∀{n i j:Nat},i<j->j<n->(p i).2.2.2=true->(p j).2.2.2=true->2<=I2 n p
 | n+1,i,j,hij,hj,h,k=>by
   have b:j<n->2<=I2 n p:=fun a=>r0f hij a h k;have c:i<n->1<=I2 n p:=fun a=>r0g a h;unfold I2 at *
   rw[fN]
   grind
theorem E0Q{p:Nat->N0}{n i:Nat}(f:I2 n p<=1)(hi:i<n):(p i).2.2.2=decide (FH n p=(i:Int)):=by
 unfold FH;cases h:(List.range n).find? (fun i=>(p i).2.2.2) with
 | none =>
   grind
 | some j =>
   have c:=List.find?_some h;have d:=List.mem_range.1 (List.mem_of_find?_eq_some h);show _=decide ((j:Int)=(i:Int));by_cases e:j=i
   ·grind
   ·rw[decide_eq_false (by omega),<- Bool.not_eq_true];intro b;rcases Nat.lt_or_gt_of_ne e with a | a
    ·have:=r0f (p:=p) a hi c b; omega
    simp_all
theorem E0P{p:Nat->N0}{n:Nat}:FH n p<n:=by
 grind[FH,List.range,List.mem_of_find?_eq_some]
theorem JB{p:Nat->N0}{n:Nat}(h:AD n p=true):2<=n/\n<=5/\(p (n-1)).2.2.2=false:=by
 grind[AD,BK]
theorem Wi{p:Nat->N0}{n:Nat}(h:AD n p=true)(k:I2 n p<=1)(a:D7):Dv n p a=F3 n p a:=by
 obtain⟨l,t,g⟩:=JB h;obtain⟨b,r,s,q,de,o⟩:=a;rw[Bool.eq_iff_iff];unfold Dv F3;dsimp only;have d:∀x:Int,0<=x->x<=(n:Int)-1->(p x.toNat).2.2.2=decide (FH n p=x):=fun x m u=>by
  rw[E0Q k (by omega)];rw[decide_eq_decide]; omega
 have f:FH n p≠(n:Int)-1:=fun e=>by
  have:=d ((n:Int)-1) (by omega) (by omega);have j:((n:Int)-1).toNat=n-1:=by omega
  rw[j,g,decide_eq_true e] at this;cases this
 have i:=E0P (p:=p) (n:=n);by_cases Cr:b=4∨b=5
 ·rw[if_pos Cr,if_neg (by omega),if_neg (by omega),if_pos Cr];simp only[ba,y9,dq,beq_iff_eq,bne_iff_ne,Bool.not_eq_true']
  grind
 ·rw[if_neg Cr];by_cases c:b=1
  ·rw[if_pos c,if_pos c];simp only[ba,y9,beq_iff_eq]
   grind
  ·rw[if_neg c,if_neg c];by_cases Qj:b=2∨b=3
   ·rw[if_pos Qj,if_pos Qj];simp only[ba,y9,beq_iff_eq]
    grind
   grind
def B9(m:Nat)(a:Nat->D7)(k:Int):Bool:=(List.range m).any fun i=>(a i).1==k
def JC(k:Int)(n:Nat)(p:Nat->N0)(m:Nat)(a:Nat->D7)(tr:List Int):Bool :=
 if k=1 then I2 n p==0&&(tr.length:Int)==1*2 ^ (n-1)&&tr.all (m0 · 0 1)
 else if k=2 then I2 n p==1&&(tr.length:Int)==0&&!B9 m a 1&&!(B9 m a 2==B9 m a 3)
 else if k=3 then I2 n p==1&&(tr.length:Int)==0&&B9 m a 1&&B9 m a 2&&!B9 m a 3
 else false
theorem y0Z{k:Int}{n:Nat}{p:Nat->N0}{m:Nat}{a:Nat->D7}{tr:List Int}(h:JC k n p m a tr=true):I2 n p<=1:=by
 grind[JC]
def Hy(q:D7->Bool)(m:Nat)(a:Nat->D7):Bool:=decide (m<=8)&&!(List.range m).any fun i=>!q (a i)||JA a i
def V5(q:Nat->(Nat->N0)->D7->Bool)(nm:ByteArray)(k:Int)(n:Nat)(p:Nat->N0)(m:Nat)(a:Nat->D7)(tr:List Int)(lk en:Int):Bool :=
 I6 nm&&AD n p&&Hy (q n p) m a&&m0 lk 0 100000&&m0 en 0 100000&&JC k n p m a tr
theorem E0T(nm:ByteArray)(k:Int)(n:Nat)(p:Nat->N0)(m:Nat)(a:Nat->D7)(tr:List Int)(lk b:Int):V5 Dv nm k n p m a tr lk b=V5 F3 nm k n p m a tr lk b:=by
 unfold V5;cases hp:AD n p with
 | false=>simp
 | true =>
   cases hk:JC k n p m a tr with
   | false=>simp
   | true =>
     have:Dv n p=F3 n p:=funext fun x=>Wi hp (y0Z hk) x;rw[this]
theorem u0l{a:Type}(l:List a)(d:a)(q:a->Bool)(i:Nat)(h:i<=l.length):(l.take i).any q=(List.range i).any fun k=>q (l.getD k d):=by
 have b:(l.take i).length=i:=by rw[List.length_take]; omega
 rw[<- T5 (l.take i) d q,b];refine Nb fun k c=>?_;rw[gq,gq,List.getElem?_take_of_lt c]
theorem n0M{n:Nat}{p:Nat->N0}{a:D7}(h:F3 n p a=true):1<=a.1/\a.1<=5:=by
 grind[F3]
theorem B0T{n:Nat}(h:n<=5) : -9223372036854775808<=(1:Int)*2 ^ (n-1)/\(1:Int)*2 ^ (n-1)<=9223372036854775807:=by
 have:∀k:Fin 6,-9223372036854775808<=(1:Int)*2 ^ (k.val-1)/\(1:Int)*2 ^ (k.val-1)<=9223372036854775807:=by decide
 exact this ⟨n,by omega⟩
def Hz(a:Nat->D7)(k:Int)(m:Nat):Int:=fN (fun i s=>if(a i).1=k then s+1 else s) m 0
theorem Nc(a:Nat->D7)(k:Int):∀m,0<=Hz a k m/\Hz a k m<=m
 | 0=>⟨Int.le_refl _,Int.le_refl _⟩
 | m+1=>by
   have:=Nc a k m
   grind[Hz,fN]
theorem JD(a:Nat->D7)(k:Int):∀m,B9 m a k=decide (0<Hz a k m)
 | 0=>rfl
 | m+1=>by
   have c:=JD a k m;have b:=(Nc a k m).1
   grind[B9,Hz,fN]
def HA(a:Nat->D7)(i:Nat)(v:List Int):List Int:=v.set (a i).1.toNat (v.getD (a i).1.toNat 0+1)
theorem Wj(a:Nat->D7):∀m,(∀i,i<m->1<=(a i).1/\(a i).1<=5)->(fN (HA a) m (List.replicate 6 0)).length=6/\∀k:Nat,k<6->(fN (HA a) m (List.replicate 6 0)).getD k 0=Hz a k m
 | 0,_=>⟨by simp[fN],fun k b=>by
   have:∀k:Fin 6,(List.replicate 6 (0:Int)).getD k.val 0=0:=by decide
   exact this ⟨k,b⟩⟩
 | m+1,h=>by
   obtain⟨d,c⟩:=Wj a m (fun i hi=>h i (by omega))
   grind[fN,HA,Hz]
def BL(v:List Int)(x:Int):List Int:=v.set x.toNat (v.getD x.toNat 0+1)
def Ab(v:List Int)(n b:Nat):Prop:=v.length=n/\∀k:Nat,0<=v.getD k 0/\v.getD k 0<=(b:Int)
theorem Rb(n b:Nat):Ab (List.replicate n 0) n b:=by
 refine⟨List.length_replicate,fun k=>?_⟩;rw[gq,List.getElem?_replicate];split <;> (show(0:Int)<=0/\(0:Int)<=b; omega)
theorem JE{v:List Int}{n b:Nat}(h:Ab v n b)(x:Int):Ab (BL v x) n (b+1):=by
 refine⟨by unfold BL; rw[List.length_set]; exact h.1,fun k=>?_⟩;have c:=h.2 x.toNat;have a:=h.2 k;unfold BL;rw[gq,List.getElem?_set];by_cases e:x.toNat=k
 ·rw[if_pos e];split
  ·rw[Option.getD_some]; omega
  ·show(0:Int)<=0/\(0:Int)<=_; omega
 ·rw[if_neg e,<- gq]; omega
theorem Wk{v:List Int}{n b a:Nat}(h:Ab v n b)(c:b<=a):Ab v n a:=⟨h.1,fun k=>by have:=h.2 k; omega⟩
theorem y0Q{v:List Int}{n b:Nat}(h:Ab v n b){x:Int}(a:m0 x 0 ((n:Int)-1)=true):ix x v.length/\x.toNat<v.length:=by
 rw[y9] at a;rw[ix,h.1];omega
def CC(n:Nat)(ok:Nat->Bool)(nm:Nat->ByteArray):Bool:=!((List.range n).any fun i=>!ok i||O6 nm i)&&decide (n<=8)
theorem I0s{n:Nat}{a:Nat->Bool}{nm:Nat->ByteArray}(h:∀i,i<n->a i=true->I6 (nm i)=true):(if((List.range n).any fun i=>!a i)=true then false else decide (n<=8)&&C9 n nm)=CC n a nm:=by
 unfold CC C9;have e:((List.range n).any fun i=>!a i||O6 nm i)=(((List.range n).any fun i=>!a i)||(List.range n).any fun i=>O6 nm i):=Rc _ _;rw[e];cases ha:(List.range n).any fun i=>!a i with
 | true=>rfl
 | false =>
   have b:=(BM (n:=n) (c:=fun i=>!a i)).1 (by rw[ha]; rfl);have:((List.range n).any fun i=>!I6 (nm i)||O6 nm i)=(List.range n).any fun i=>O6 nm i:=Nb fun i hi=>by
    have:=b i hi;rw[Bool.not_eq_false'] at this;rw[h i hi this]; rfl
   rw[this,if_neg (by simp),Bool.false_or,Bool.and_comm]
def Q7(nc:Nat)(pins:Int->Nat)(nn:Nat)(x:D8):Bool:=m0 x.2.1 0 ((nc:Int)-1)&&(x.2.2.length:Int)==(pins x.2.1:Int)&&x.2.2.all fun y=>m0 y 0 ((nn:Int)-1)
def Q8(nn:Nat)(x:N1):Bool:=m0 x.2.1 1 2&&m0 x.2.2 0 ((nn:Int)-1)
def T6(x:Nat->D8)(i:Nat)(v:List Int):List Int:=BL v ((x i).2.2.getD ((x i).2.2.length-1) 0)
def M0(x:Nat->N1)(i:Nat)(v:List Int):List Int:=if(x i).2.1=1 then BL v (x i).2.2 else v
def FI(ni np nn:Nat)(x:Nat->D8)(y:Nat->N1):List Int:=fN (M0 y) np (fN (T6 x) ni (List.replicate nn 0))
theorem Wl(x:Nat->D8)(a:Nat):∀i,Ab (fN (T6 x) i (List.replicate a 0)) a i
 | 0=>Rb a 0
 | i+1=>JE (Wl x a i) _
def CD(lib:Bool)(nc:Nat)(pins:Int->Nat)(ni np nn:Nat)(x:Nat->D8)(y:Nat->N1)(nets:Nat->ByteArray):Bool :=
 lib&&decide (ni<=14)&&decide (nn<=30)&&decide (np<=8)&&C9 ni (fun i=>(x i).1)&&C9 nn nets&&C9 np (fun i=>(y i).1) &&
  !((List.range ni).any fun i=>!Q7 nc pins nn (x i))&&!((List.range np).any fun i=>!Q8 nn (y i))&&(FI ni np nn x y).all (·==1)
def Bh(w:Wh)(n:Int):Bool :=
 decide (1<=w.1.length)&&decide (w.1.length<=8)&&decide (w.2.1.length=w.1.length)&&decide (w.2.2.1.length=w.1.length)&&(w.2.2.2.length:Int)==n &&
  w.2.1.all (m0 · 0 1000)&&w.2.2.1.all (m0 · 0 500)&&w.2.2.2.all (m0 · 0 ((w.1.length:Int)-1)) &&
  !(List.range w.1.length).any fun i=>(i==0&&(w.1.getD i 0 != -1||w.2.1.getD 0 0 != 0))||(decide (0<i)&&!m0 (w.1.getD i 0) 0 ((i:Int)-1))
abbrev B2:=Int×Int×Int×Bool
def T7(x:D8)(i:Int)(k:Nat)(s:List B2):List B2:=s++[(i,(k:Int),x.2.2.getD k 0,(k:Int)==(x.2.2.length:Int)-1)]
def P1(y:Nat->N1)(i:Nat)(s:List B2):List B2:=s++[(-1,(i:Int),(y i).2.2,(y i).2.1==1)]
def O7(x:Nat->D8)(i:Nat)(s:List B2):List B2:=fN (T7 (x i) i) (x i).2.2.length s
def L7(ni np:Nat)(x:Nat->D8)(y:Nat->N1):List B2:=fN (P1 y) np (fN (O7 x) ni [])
theorem HB(x:D8)(i:Int)(s:List B2):∀k,(fN (T7 x i) k s).length=s.length+k
 | 0=>rfl
 | k+1=>by
   rw[fN,T7,List.length_append,HB x i s k]; rfl
theorem Nd(y:Nat->N1)(s:List B2):∀k,(fN (P1 y) k s).length=s.length+k
 | 0=>rfl
 | k+1=>by
   rw[fN,P1,List.length_append,Nd y s k]; rfl
def Dw(pl:Nat->B2)(i:Nat)(v:List Int):List Int:=if(pl i).2.2.2=false then BL v (pl i).2.2.1 else v
def Y1(pl:Nat->B2)(t:Int)(m:Nat):Int:=fN (fun i s=>if((pl i).2.2.1==t&&!(pl i).2.2.2)=true then s+1 else s) m 0
theorem w0k(pl:Nat->B2)(t:Int):∀m,0<=Y1 pl t m/\Y1 pl t m<=m
 | 0=>⟨Int.le_refl _,Int.le_refl _⟩
 | m+1=>by
   have:=w0k pl t m;unfold Y1 at *
   rw[fN];split <;> omega
theorem m0F(pl:Nat->B2)(n:Nat):∀m,(∀i,i<m->m0 (pl i).2.2.1 0 ((n:Int)-1)=true)->(fN (Dw pl) m (List.replicate n 0)).length=n/\∀k:Nat,k<n->(fN (Dw pl) m (List.replicate n 0)).getD k 0=Y1 pl k m
 | 0,_=>⟨by simp[fN],fun k b=>by
   show(List.replicate n (0:Int)).getD k 0=0;rw[gq,List.getElem?_replicate,if_pos b]; rfl⟩
 | m+1,h=>by
   obtain⟨d,c⟩:=m0F pl n m (fun i hi=>h i (by omega));have f:=y9.1 (h m (by omega));rw[fN];generalize fN (Dw pl) m (List.replicate n 0)=v at *
   unfold Dw;have e:∀k:Nat,Y1 pl k (m+1)=if((pl m).2.2.1==(k:Int)&&!(pl m).2.2.2)=true then Y1 pl k m+1 else Y1 pl k m:=fun k=>by unfold Y1; rw[fN]
   cases hd:(pl m).2.2.2 with
   | true =>
     refine⟨by rw[if_neg (by simp)]; exact d,fun k b=>?_⟩;rw[if_neg (by simp),c k b,e,hd,if_neg (by simp)]
   | false =>
     rw[if_pos rfl];unfold BL;refine⟨by rw[List.length_set]; exact d,fun k b=>?_⟩;rw[e,hd,gq,List.getElem?_set];by_cases a:(pl m).2.2.1.toNat=k
     ·rw[if_pos a,if_pos (by rw[d]; omega),if_pos (by simp; omega),Option.getD_some,a,c k b]
     ·rw[if_neg a,if_neg (by simp; omega),<- gq,c k b]
def N2(pl:Nat->B2)(t:Int)(i:Nat)(s:List Int):List Int:=if((pl i).2.2.1==t&&!(pl i).2.2.2)=true then s++[(i:Int)] else s
theorem Nf(pl:Nat->B2)(t:Int):∀m,((fN (N2 pl t) m []).length:Int)=Y1 pl t m
 | 0=>rfl
 | m+1=>by
   have:=Nf pl t m;rw[fN];unfold Y1 at *
   rw[fN];unfold N2 at *
   split
   ·rw[List.length_append];show((_+1:Nat):Int)=_;omega
   ·exact this
def JF(n:Nat)(s:List B2):Prop:=∀p∈s,m0 p.2.2.1 0 ((n:Int)-1)=true
theorem q0Q{n:Nat}{x:D8}{i:Int}(a:∀k,k<x.2.2.length->m0 (x.2.2.getD k 0) 0 ((n:Int)-1)=true){s:List B2}(b:JF n s):∀k,k<=x.2.2.length->JF n (fN (T7 x i) k s)
 | 0,_=>b
 | k+1,hk=>by
   rw[fN,T7];intro p c;rcases List.mem_append.1 c with h | h
   ·exact q0Q a b k (by omega) p h
   ·cases List.mem_singleton.1 h;exact a k (by omega)
theorem k0k{n:Nat}{x:Nat->D8}{ni:Nat}(a:∀i,i<ni->∀k,k < (x i).2.2.length->m0 ((x i).2.2.getD k 0) 0 ((n:Int)-1)=true):∀i,i<=ni->JF n (fN (O7 x) i [])
 | 0,_=>fun p b=>by cases b
 | i+1,hi=>by
   rw[fN,O7];exact q0Q (a i (by omega)) (k0k a i (by omega)) _ (Nat.le_refl _)
theorem q0n{n:Nat}{y:Nat->N1}{np:Nat}(b:∀i,i<np->m0 (y i).2.2 0 ((n:Int)-1)=true){s:List B2}(a:JF n s):∀k,k<=np->JF n (fN (P1 y) k s)
 | 0,_=>a
 | k+1,hk=>by
   rw[fN,P1];intro p c;rcases List.mem_append.1 c with h | h
   ·exact q0n b a k (by omega) p h
   ·cases List.mem_singleton.1 h;exact b k (by omega)
theorem Rd{x:Nat->D8}{ni:Nat}(a:∀i,i<ni->(x i).2.2.length<=5):∀i,i<=ni->(fN (O7 x) i []).length<=5*i
 | 0,_=>Nat.le_refl _
 | i+1,hi=>by
   rw[fN,O7,HB];have:=Rd a i (by omega);have:=a i (by omega);omega
theorem G6{a:Type}{l:List a}{i:Nat}{d:a}(h:i<l.length):l.getD i d∈l:=by
 rw[gq,List.getElem?_eq_getElem h];exact List.getElem_mem h
theorem JG{l:List Int}{p:Int->Bool}(h:l.all p=true){i:Nat}(hi:i<l.length):p (l.getD i 0)=true:=List.all_eq_true.1 h _ (G6 hi)
structure DesignFacts(nc:Nat)(pins:Int->Nat)(ni np nn:Nat)(x:Nat->D8)(y:Nat->N1):Prop where
 ni14:ni<=14
 np8:np<=8
 nn30:nn<=30
 inst:∀i,i<ni->Q7 nc pins nn (x i)=true
 port:∀i,i<np->Q8 nn (y i)=true
theorem n0z{a:Bool}{d:Nat}{pins:Int->Nat}{ni np c:Nat}{x:Nat->D8}{y:Nat->N1}{b:Nat->ByteArray}(h:CD a d pins ni np c x y b=true):a=true/\DesignFacts d pins ni np c x y:=by
 unfold CD at h;simp only[ba,dq] at h;obtain⟨⟨⟨⟨⟨⟨⟨⟨⟨f,k⟩,j⟩,g⟩,_⟩,_⟩,_⟩,e⟩,l⟩,_⟩:=h;refine⟨f,k,g,j,fun i hi=>?_,fun i hi=>?_⟩
 ·have:=BM.1 e i hi
  rwa [Bool.not_eq_false'] at this
 ·have:=BM.1 l i hi
  rwa [Bool.not_eq_false'] at this
theorem DesignFacts.net{b:Nat}{pins:Int->Nat}{ni np a:Nat}{x:Nat->D8}{y:Nat->N1}(h:DesignFacts b pins ni np a x y):(∀i,i<ni->∀k,k < (x i).2.2.length->m0 ((x i).2.2.getD k 0) 0 ((a:Int)-1)=true)/\∀i,i<np->m0 (y i).2.2 0 ((a:Int)-1)=true:=by
 refine⟨fun i hi k c=>?_,fun i hi=>?_⟩
 ·have:=h.inst i hi;unfold Q7 at this;rw[ba] at this;exact JG (p:=fun y=>m0 y 0 ((a:Int)-1)) this.2 c
 ·have:=h.port i hi;unfold Q8 at this;rw[ba] at this;exact this.2
end Go.Proofs.Xd
end
section
namespace Go.Proofs.Xd
open Go Go.Proofs Go.Proofs.Xl
def FJ(v:List Int)(i:Nat)(x:Int):List Int:=v.set i (v.getD i 0+x)
theorem n0R{v:List Int}{i:Nat}{x:Int}:(FJ v i x).length=v.length:=by grind[FJ]
theorem Re{v:List Int}{i j:Nat}{x:Int}(hi:i<v.length):(FJ v i x).getD j 0=if j=i then v.getD i 0+x else v.getD j 0:=by
 grind[FJ]
def Ac(v:List Int)(k:Nat):Int:=fN (fun i s=>s+v.getD i 0) k 0
theorem JH(v:List Int)(k:Nat):Ac v (k+1)=Ac v k+v.getD k 0:=rfl
theorem Wm{v:List Int}{i:Nat}{x:Int}(hi:i<v.length):∀k,Ac (FJ v i x) k=Ac v k+if i<k then x else 0
 | 0=>by simp[Ac,fN]
 | k+1=>by
   rw[JH,JH,Wm hi k,Re hi];by_cases h:k=i
   ·subst h; simp; omega
   ·rw[if_neg h];by_cases a:i<k
    ·rw[if_pos a,if_pos (by omega)]; omega
    ·rw[if_neg a,if_neg (by omega)]; omega
theorem m0x{v:List Int}(a:∀j,0<=v.getD j 0):∀k,0<=Ac v k
 | 0=>by simp[Ac,fN]
 | k+1=>by have:=m0x a k; grind[JH]
theorem Wn{v:List Int}(a:∀j,0<=v.getD j 0):∀{k j:Nat},j<k->v.getD j 0<=Ac v k
 | k+1,j,h=>by
   rw[JH];have c:=m0x a k;have b:=a k;by_cases e:j=k
   ·grind
   ·have:=Wn a (k:=k) (j:=j) (by omega); omega
structure Low(v:List Int)(n:Nat)(S:Int):Prop where
 len:v.length=n
 pos:∀j,0<=v.getD j 0
 sum:Ac v n<=S
theorem p0T{v:List Int}{c:Int}(a:∀j,v.getD j 0<=c):∀k:Nat,Ac v k<=c*(k:Int)
 | 0=>by simp[Ac,fN]
 | k+1=>by
   have:=p0T a k
   grind[JH,Int.natCast_add,Int.mul_add]
theorem E0g{v:List Int}{n:Nat}(b:v.length=n)(h:v.all (m0 · 0 500)=true):Low v n (500*(n:Int)):=by
 have a:∀j,0<=v.getD j 0/\v.getD j 0<=500:=fun j=>by
  grind[Nat.lt_or_ge,y9,JG,m0,List.getElem?_eq_none]
 exact⟨b,fun j=>(a j).1,p0T (fun j=>(a j).2) n⟩
theorem Low.bd{v:List Int}{n:Nat}{S:Int}(h:Low v n S)(b:0<=S)(j:Nat):0<=v.getD j 0/\v.getD j 0<=S:=by
 refine⟨h.pos j,?_⟩;rcases Nat.lt_or_ge j n with a | a
 ·exact Int.le_trans (Wn h.pos a) h.sum
 ·rw[gq,List.getElem?_eq_none (by rw[h.len]; exact a)]; exact b
theorem Low.add{v:List Int}{n:Nat}{S:Int}(h:Low v n S){i:Nat}(hi:i<n){x:Int}(b:0<=x):Low (FJ v i x) n (S+x):=by
 have a:i<v.length:=by rw[h.len]; exact hi
 refine⟨by rw[n0R]; exact h.len,fun j=>?_,?_⟩
 ·rw[Re a];have:=h.pos i;have:=h.pos j;omega
 ·rw[Wm a,if_pos hi]; have:=h.sum; omega
def BN(s c:Nat->Int)(i:Nat)(v:List Int):List Int:=FJ v (s i).toNat (c i)
theorem r0i{s c:Nat->Int}{v:List Int}{n:Nat}{S:Int}(h:Low v n S):∀m,(∀i,i<m->0<=s i/\(s i).toNat<n/\0<=c i/\c i<=500)->Low (fN (BN s c) m v) n (S+500*(m:Int))
 | 0,_=>⟨h.len,h.pos,by have:=h.sum; show Ac v n<=_; omega⟩
 | m+1,hm=>by
   have b:=r0i h m (fun i hi=>hm i (by omega));obtain⟨f,a,d,e⟩:=hm m (by omega);have:=b.add a d;refine⟨this.len,this.pos,?_⟩;have:=this.sum;rw[Int.natCast_add,Int.mul_add];refine Int.le_trans this ?_;omega
def V6(P:Nat->Int)(n k:Nat)(v:List Int):List Int:=FJ v (P (n-1-k)).toNat (v.getD (n-1-k) 0)
structure JI(v:List Int)(n k:Nat)(S:Int):Prop where
 len:v.length=n
 pos:∀j,0<=v.getD j 0
 bd:∀j,v.getD j 0<=S
 sum:Ac v (n-k)<=S
theorem Wo{P:Nat->Int}{v:List Int}{n k:Nat}{S:Int}(h:JI v n k S)(_:k<n-1)(f:0<=P (n-1-k)/\(P (n-1-k)).toNat<n-1-k):JI (V6 P n k v) n (k+1) S:=by
 have b:(P (n-1-k)).toNat<v.length:=by rw[h.len]; omega
 have a:∀j,0<=(V6 P n k v).getD j 0:=fun j=>by
  unfold V6;rw[Re b];have:=h.pos (P (n-1-k)).toNat;have:=h.pos (n-1-k);have:=h.pos j;omega
 have d:Ac (V6 P n k v) (n-(k+1))<=S:=by
  unfold V6;have e:n-(k+1)=n-1-k:=by omega
  rw[Wm b,e,if_pos f.2];have:=h.sum;rw[show n-k=(n-1-k)+1 by omega,JH] at this;exact this
 refine⟨by unfold V6; rw[n0R]; exact h.len,a,fun j=>?_,d⟩;by_cases e:j=(P (n-1-k)).toNat
 ·have c:j<n-(k+1):=by omega
  exact Int.le_trans (Wn a c) d
 ·unfold V6;rw[Re b,if_neg e];exact h.bd j
theorem m0O{P:Nat->Int}{v:List Int}{n:Nat}{S:Int}(h:Low v n S)(a:0<=S)(b:∀i,0<i->i<n->0<=P i/\(P i).toNat<i):∀k,k<=n-1->JI (fN (V6 P n) k v) n k S
 | 0,_=>⟨h.len,h.pos,fun j=>(h.bd a j).2,h.sum⟩
 | k+1,hk=>Wo (m0O h a b k (by omega)) (by omega) (b _ (by omega) (by omega))
def I0q(cap:List Int)(n m:Nat)(s c P:Nat->Int):List Int:=fN (V6 P n) (n-1) (fN (BN s c) m cap)
theorem JJ{a:Type}{l r:List a}{d:a}{i:Nat}(h:i<l.length):(l++r).getD i d=l.getD i d:=by
 grind
theorem Wp{a:Type}{l r:List a}{d:a}{i:Nat}(h:l.length<=i):(l++r).getD i d=r.getD (i-l.length) d:=by
 grind
def Q9(P R L:Nat->Int)(k:Nat)(s:List Int):List Int:=s++[s.getD (P (k+1)).toNat 0+R (k+1)*L (k+1)]
def E0H(n:Nat)(P R L:Nat->Int):List Int:=fN (Q9 P R L) (n-1) [0]
theorem Ng{a b A B:Int}(c:0<=a)(d:a<=A)(e:0<=b)(f:b<=B):0<=a*b/\a*b<=A*B :=
 ⟨Int.mul_nonneg c e,Int.mul_le_mul d f e (Int.le_trans c d)⟩
theorem w0g{P R L:Nat->Int}{n:Nat}{S:Int}(a:∀i,i<n->0<=R i/\R i<=1000)(b:∀i,i<n->0<=L i/\L i<=S)(g:0<=S):∀k,k<=n-1->(fN (Q9 P R L) k [0]).length=k+1/\∀j,0<=(fN (Q9 P R L) k [0]).getD j 0/\(fN (Q9 P R L) k [0]).getD j 0<=1000*S*(k:Int)
 | 0,_=>⟨rfl,fun j=>by
   grind[fN]⟩
 | k+1,hk=>by
   obtain⟨h,c⟩:=w0g a b g k (by omega);have l:=Ng (a (k+1) (by omega)).1 (a (k+1) (by omega)).2 (b (k+1) (by omega)).1 (b (k+1) (by omega)).2;have d:0<=1000*S*(k:Int):=Int.mul_nonneg (by omega) (by omega);have e:1000*S*((k+1:Nat):Int)=1000*S*(k:Int)+1000*S:=by rw[Int.natCast_add,Int.mul_add]; simp
   have f:fN (Q9 P R L) (k+1) [0]=Q9 P R L k (fN (Q9 P R L) k [0]):=rfl;rw[f];generalize fN (Q9 P R L) k [0]=s at h c
   grind[Q9,List.length_append,Nat.lt_or_ge,JJ,Wp,List.getD_cons_zero,List.getD_cons_succ,List.getD_nil]
theorem z0C{s:List Int}{k n:Nat}{x:Int}(a:s.length=k+1)(b:k+1<n):(s++List.replicate (n-1-k) 0).set (k+1) x=(s++[x])++List.replicate (n-1-(k+1)) 0:=by
 have e:n-1-k=(n-1-(k+1))+1:=by omega
 rw[e,List.replicate_succ,List.set_append_right _ _ (by omega),a,Nat.sub_self,List.set_cons_zero,List.append_assoc];rfl
theorem z0D{s:List Int}{k n p:Nat}(b:s.length=k+1)(a:p<k+1):(s++List.replicate (n-1-k) 0).getD p 0=s.getD p 0:=JJ (by omega)
def HC(D:List Int)(S:Nat->Int)(i:Nat)(s:List Int):List Int:=s++[D.getD (S i).toNat 0]
theorem Wq(D:List Int)(S:Nat->Int):∀i,(fN (HC D S) i []).length=i
 | 0=>rfl
 | i+1=>by
   have:=Wq D S i
   grind[HC,fN,List.length_append]
theorem v0X(D:List Int)(S:Nat->Int):∀n i,i<n->(fN (HC D S) n []).getD i 0=D.getD (S i).toNat 0
 | n+1,i,h=>by
   have a:=Wq D S n;have b:=v0X D S n i
   grind[HC,fN]
def JK(ni np:Nat)(x:Nat->D8)(p:B2):Prop:=(p.1 = -1/\0<=p.2.1/\p.2.1.toNat<np)∨(0<=p.1/\p.1.toNat<ni/\0<=p.2.1/\p.2.1.toNat < (x p.1.toNat).2.2.length)
theorem k0q{ni np:Nat}{x:Nat->D8}{i:Nat}(hi:i<ni){s:List B2}(b:∀p∈s,JK ni np x p):∀k,k<=(x i).2.2.length->∀p∈fN (T7 (x i) i) k s,JK ni np x p
 | 0,_=>b
 | k+1,hk=>fun p a=>by
   have a:p∈T7 (x i) i k (fN (T7 (x i) i) k s):=a;unfold T7 at a;rcases List.mem_append.1 a with a | a
   ·exact k0q hi b k (by omega) p a
   ·cases List.mem_singleton.1 a;exact .inr ⟨Int.natCast_nonneg _,by omega,Int.natCast_nonneg _,by grind⟩
theorem g0N{ni np:Nat}{x:Nat->D8}:∀i,i<=ni->∀p∈fN (O7 x) i [],JK ni np x p
 | 0,_=>fun p a=>by cases a
 | i+1,hi=>k0q (by omega) (g0N i (by omega)) _ (Nat.le_refl _)
theorem k0j{ni np:Nat}{x:Nat->D8}{y:Nat->N1}{s:List B2}(b:∀p∈s,JK ni np x p):∀k,k<=np->∀p∈fN (P1 y) k s,JK ni np x p
 | 0,_=>b
 | k+1,hk=>fun p a=>by
   have a:p∈P1 y k (fN (P1 y) k s):=a;unfold P1 at a;rcases List.mem_append.1 a with a | a
   ·exact k0j b k (by omega) p a
   ·cases List.mem_singleton.1 a;exact .inl ⟨rfl,Int.natCast_nonneg _,by grind⟩
theorem o0z(ni np:Nat)(x:Nat->D8)(y:Nat->N1):∀p∈L7 ni np x y,JK ni np x p:=k0j (g0N ni (Nat.le_refl _)) np (Nat.le_refl _)
theorem Nh(pl:Nat->B2)(t:Int):∀m,∀x∈fN (N2 pl t) m [],∃j:Nat,x=(j:Int)/\j<m/\(pl j).2.2.1=t/\(pl j).2.2.2=false
 | 0,x,h=>by cases h
 | m+1,x,h=>by
   have a:=Nh pl t m x;have h:x∈N2 pl t m (fN (N2 pl t) m []):=h;generalize fN (N2 pl t) m []=s at a h;unfold N2 at h;split at h
   ·rename_i d;rw[ba,beq_iff_eq,Bool.not_eq_true'] at d;rcases List.mem_append.1 h with h | h
    ·obtain⟨j,c,e,b⟩:=a h;exact⟨j,c,by omega,b⟩
    ·cases List.mem_singleton.1 h;exact⟨m,rfl,by omega,d⟩
   ·obtain⟨j,c,e,b⟩:=a h;exact⟨j,c,by omega,b⟩
structure n0T(w:Wh)(n:Int):Prop where
 n1:1<=w.1.length
 n8:w.1.length<=8
 res:w.2.1.length=w.1.length
 cap:w.2.2.1.length=w.1.length
 snk:(w.2.2.2.length:Int)=n
 resIn:∀i,i<w.1.length->0<=w.2.1.getD i 0/\w.2.1.getD i 0<=1000
 capOk:w.2.2.1.all (m0 · 0 500)=true
 snkIn:∀i,i<w.2.2.2.length->0<=w.2.2.2.getD i 0/\(w.2.2.2.getD i 0).toNat<w.1.length
 par:∀i,0<i->i<w.1.length->0<=w.1.getD i 0/\(w.1.getD i 0).toNat<i
theorem r0z{w:Wh}{n:Int}(h:Bh w n=true):n0T w n:=by
 unfold Bh at h;simp only[ba,dq,beq_iff_eq] at h;obtain⟨⟨⟨⟨⟨⟨⟨⟨e,j⟩,g⟩,f⟩,c⟩,l⟩,d⟩,b⟩,k⟩:=h;refine⟨e,j,g,f,c,fun i hi=>?_,d,fun i hi=>?_,fun i m hi=>?_⟩
 ·exact y9.1 (JG (p:=fun x=>m0 x 0 1000) l (by omega))
 ·have:=y9.1 (JG (p:=fun x=>m0 x 0 ((w.1.length:Int)-1)) b hi);omega
 ·have:=BM.1 k i hi;rw[Bool.or_eq_false_iff] at this;have a:=this.2;rw[Bool.and_eq_false_iff,decide_eq_false_iff_not,Bool.not_eq_false',y9] at a;rcases a with h | h
  ·omega
  ·omega
abbrev w6:=Int×Int×Int×Int
def I7(k s:Int):List (Int×Int):=if(k==2)=true then [(0,0),(0,1)] else if(k==3)=true then [(1,0),(1,1)] else if(k != 1)=true then [] else if(s==1)=true then [(0,0),(1,1)] else if(s==2)=true then [(0,1),(1,0)] else [(0,0),(0,1),(1,0),(1,1)]
theorem Rf(k s:Int):(I7 k s).length<=4/\∀t∈I7 k s,0<=t.1/\t.1<=1/\0<=t.2/\t.2<=1:=by
 unfold I7;split
 ·grind
 split
 ·grind
 split
 ·grind
 grind
def Ad(f a b x:Int)(tr:List (Int×Int))(k:Nat)(s:List w6):List w6:=s++[(2*(f+a)+(tr.getD k (0,0)).1,2*(f+b)+(tr.getD k (0,0)).2,1,x)]
theorem k0D(f a b x:Int)(tr:List (Int×Int))(s:List w6):∀k,(fN (Ad f a b x tr) k s).length=s.length+k
 | 0=>rfl
 | k+1=>by
   have:=k0D f a b x tr s k
   grind[Ad,fN,List.length_append]
def R1(f:Int)(arcs:Nat->D7)(j:Nat)(s:List w6):List w6:=fN (Ad f (arcs j).2.1 (arcs j).2.2.1 (j:Int) (I7 (arcs j).1 (arcs j).2.2.2.1)) (I7 (arcs j).1 (arcs j).2.2.2.1).length s
theorem Ws(f:Int)(a:Nat->D7)(j:Nat)(s:List w6):(R1 f a j s).length<=s.length+4:=by
 grind[R1,k0D,Rf]
def AE(f:Int)(arcs:Nat->D7)(m:Nat):List w6:=fN (R1 f arcs) m []
theorem Ni(f:Int)(a:Nat->D7):∀m,(AE f a m).length<=4*m
 | 0=>Nat.le_refl _
 | m+1=>by
   have c:=Ni f a m;have b:=Ws f a m (AE f a m);show(R1 f a m (AE f a m)).length<=_;omega
def V7(nets:Nat->Nat)(arcs:Nat->Nat->D7)(ms:Nat->Nat)(i:Nat)(s:Int×List w6):Int×List w6:=(s.1+(nets i:Int),s.2++AE s.1 (arcs i) (ms i))
theorem n0k{a:Nat->Nat}{b:Nat->Nat->D7}{c:Nat->Nat}{n:Nat}(h:∀i,i<n->a i<=5/\c i<=8):∀m,m<=n->0<=(fN (V7 a b c) m (0,[])).1/\(fN (V7 a b c) m (0,[])).1<=5*(m:Int)/\(fN (V7 a b c) m (0,[])).2.length<=32*m
 | 0,_=>⟨Int.le_refl _,Int.le_refl _,Nat.le_refl _⟩
 | m+1,hm=>by
   obtain⟨e,d,f⟩:=n0k h m (by omega);obtain⟨g,j⟩:=h m (by omega);show 0<=(V7 a b c m (fN (V7 a b c) m (0,[]))).1/\(V7 a b c m (fN (V7 a b c) m (0,[]))).1<=_/\(V7 a b c m (fN (V7 a b c) m (0,[]))).2.length<=_;generalize fN (V7 a b c) m (0,[])=z at e d f
   grind[V7,Ni,AE,List.length_append]
def Y2(pl:Nat->B2)(i:Nat)(s:List (List Int)×List Int):List (List Int)×List Int:=if(pl i).2.2.2=true then(s.1,s.2.set (pl i).2.2.1.toNat (i:Int)) else(s.1.set (pl i).2.2.1.toNat (s.1.getD (pl i).2.2.1.toNat []++[(i:Int)]),s.2)
def T9(pl:Nat->B2)(t:Int)(m:Nat):Int:=fN (fun i s=>if((pl i).2.2.1==t&&(pl i).2.2.2)=true then(i:Int) else s) m 0
theorem Wt(pl:Nat->B2)(t:Int):∀m,0<=T9 pl t m/\T9 pl t m<=m
 | 0=>⟨Int.le_refl _,Int.le_refl _⟩
 | m+1=>by
   have:=Wt pl t m;have e:T9 pl t (m+1)=if((pl m).2.2.1==t&&(pl m).2.2.2)=true then(m:Int) else T9 pl t m:=rfl
   omega
theorem k0f(pl:Nat->B2)(t:Int)(m:Nat):fN (N2 pl t) (m+1) []=if((pl m).2.2.1==t&&!(pl m).2.2.2)=true then fN (N2 pl t) m []++[(m:Int)] else fN (N2 pl t) m []:=rfl
theorem Wu{a:Type}{l:List a}{i j:Nat}{x d:a}(hi:i<l.length):(l.set i x).getD j d=if j=i then x else l.getD j d:=by
 grind
theorem n0n(pl:Nat->B2)(n:Nat):∀m,(∀i,i<m->m0 (pl i).2.2.1 0 ((n:Int)-1)=true)->(fN (Y2 pl) m (List.replicate n [],List.replicate n 0)).1.length=n/\(fN (Y2 pl) m (List.replicate n [],List.replicate n 0)).2.length=n /\
  ∀k:Nat,k<n->(fN (Y2 pl) m (List.replicate n [],List.replicate n 0)).1.getD k []=fN (N2 pl k) m []/\(fN (Y2 pl) m (List.replicate n [],List.replicate n 0)).2.getD k 0=T9 pl k m
 | 0,_=>⟨List.length_replicate,List.length_replicate,fun k d=>by
   constructor
   ·show(List.replicate n ([]:List Int)).getD k []=[]
    grind
   ·show(List.replicate n (0:Int)).getD k 0=0
    grind⟩
 | m+1,h=>by
   obtain⟨f,a,j⟩:=n0n pl n m (fun i hi=>h i (by omega));have l:=y9.1 (h m (by omega));have e:fN (Y2 pl) (m+1) (List.replicate n [],List.replicate n 0)=Y2 pl m (fN (Y2 pl) m (List.replicate n [],List.replicate n 0)):=rfl;rw[e];generalize fN (Y2 pl) m (List.replicate n [],List.replicate n 0)=z at f a j;have g:(pl m).2.2.1.toNat<n:=by omega
   have c:∀k:Nat,T9 pl k (m+1)=if((pl m).2.2.1==(k:Int)&&(pl m).2.2.2)=true then(m:Int) else T9 pl k m:=fun _=>rfl
   have b:∀k:Nat,((pl m).2.2.1==(k:Int))=decide (k=(pl m).2.2.1.toNat):=fun k=>by
    grind
   unfold Y2;cases hd:(pl m).2.2.2 with
   | true =>
     rw[if_pos rfl];refine⟨f,by grind,fun k d=>?_⟩;rw[k0f,c k,b,hd]
     grind
   | false =>
     rw[if_neg (by simp)];refine⟨by grind,a,fun k d=>?_⟩;rw[k0f,c k,b,hd]
     grind
def Wv(d s x:Int)(t:Nat)(z:List w6):List w6:=z++[(2*d+(t:Int),2*s+(t:Int),2,x)]
def BO(d:Int)(sn:List Int)(k:Nat)(z:List w6):List w6:=fN (Wv d (sn.getD k 0) (k:Int)) 2 z
theorem Ww(d:Int)(a:List Int)(k:Nat)(z:List w6):(BO d a k z).length=z.length+2:=by
 show((z++_)++_).length=_
 grind
def Bi(d:Nat->Int)(sn:Nat->List Int)(i:Nat)(z:List w6):List w6:=fN (BO (d i) (sn i)) (sn i).length z
theorem Rg(d:Int)(a:List Int)(z:List w6):∀k,(fN (BO d a) k z).length=z.length+2*k
 | 0=>rfl
 | k+1=>by
   have:=Rg d a z k
   grind[BO,fN,Ww]
theorem q0G(d:Nat->Int)(a:Nat->List Int)(z:List w6){n c:Nat}(h:∀i,i<n->(a i).length<=c):∀m,m<=n->(fN (Bi d a) m z).length<=z.length+2*(c*m)
 | 0,_=>by simp[fN]
 | m+1,hm=>by
   have b:=q0G d a z h m (by omega)
   grind[fN,BO,Bi,Rg,Nat.mul_add]
def AF{α:Type}(f:Nat->α)(i:Nat)(s:List α):List α:=s++[f i]
theorem FK{a:Type}(f:Nat->a):∀n,(fN (AF f) n []).length=n
 | 0=>rfl
 | n+1=>by
   have:=FK f n
   grind[AF,fN,List.length_append]
theorem JL{a:Type}(f:Nat->a)(d:a):∀n i,i<n->(fN (AF f) n []).getD i d=f i
 | n+1,i,h=>by
   have b:=FK f n;have c:=JL f d n i
   grind[AF,fN]
end Go.Proofs.Xd
end
section
namespace Go.Proofs.YtdjgagoledoaaaaGreatDoor
open Go Go.Proofs Go.Proofs.Xv Go.Proofs.Xl Go.Proofs.Xd
theorem V8(a b c:Int):A4 a b c=some (m0 a b c):=rfl
theorem R2(a b c:Int):r9 a b c=some (m0 a b c):=rfl
theorem O0d(a b c:Int):LK a b c=some (!m0 a b c):=by
 unfold LK;rw[V8,gP ⟨rfl,trivial⟩,vS]
theorem y0y(xs:List Int)(b c:Int)(h:xs.length<=9223372036854775807):PF xs (b,c)=some (xs.any fun x=>!m0 x b c):=by
 have a:PE xs (b,c)=_:=CE h (fun i=>!m0 (xs.getD i 0) b c) (fun g i hi=>HD hi h (O0d _ _ _)) (fun g=>aE);have:=HE a;rw[T5 xs 0 (fun x=>!m0 x b c)] at this;exact this
theorem HF(xs:List Int)(b c:Int)(h:xs.length<=9223372036854775807):I0 xs b c=some (xs.all (m0 · b c)):=by
 unfold I0;rw[y0y _ _ _ h,gP ⟨rfl,trivial⟩,vS,Bg]
theorem Wx(xs:List Int)(h:xs.length<=9223372036854775807)(b:1<=xs.length):Cw xs=some (Du xs):=by
 have a:=E0f h (fun i=>decide (xs.getD i 0<=xs.getD (i-1) 0)) (some false) (e:=some true) (F:=B0w xs) 1 b (fun g i c hi=>by
  have e:((i:Int)-1).toNat=i-1:=by omega
  refine(BP hi h ⟨oo,oo,oo,trivial⟩).trans ?_;rw[e]; rfl) (fun g=>aE)
 refine a.trans ?_;unfold Du
 grind
theorem M0l(xs:List Int)(h:xs.length<=9223372036854775807):AZ xs=some (F8 xs):=by
 unfold AZ;have e:D5 xs=some (xs.length:Int):=rfl;have b:∀a:Bool,(a=true->1<=xs.length)->(a=true/\True->(Cw xs).isSome=true):=fun a f c=>by grind[Wx]
 rw[e,vS,V8,vS,HF xs 0 100000 h,vS,gP ⟨rfl,rfl,fun _=>rfl,b _ (fun c=>by
  grind[m0]),trivial⟩]
 congr 1;unfold F8;by_cases d:1<=xs.length
 ·rw[Wx xs h d,vS]
  grind[m0]
 grind[decide,m0]
theorem M0w(xs:List Int)(h:xs.length<=9223372036854775807):Dk xs=some (F8 xs):=by
 have c:=F1 (n:=xs.length) h (fun i=>!m0 (xs.getD i 0) 0 100000||decide (0<i)&&decide (xs.getD i 0<=xs.getD (i-1) 0)) (some false) (e:=Pq xs ()) (F:=B0L xs) (fun g i hi=>by
  have e:((i:Int)-1).toNat=i-1:=by omega
  have k:decide ((0:Int) < (i:Int))=decide (0<i):=by rw[decide_eq_decide]; omega
  refine(BP hi h ⟨oo,rfl,fun f=>oo,fun f=>⟨by have:=f.1; simp at this; omega,by omega⟩,fun f=>oo,trivial⟩).trans ?_;rw[e,R2,vS,k]; rfl) (fun g=>aE)
 refine c.trans ?_;unfold F8 Pq;have j:((List.range xs.length).any fun i=>!m0 (xs.getD i 0) 0 100000||decide (0<i)&&decide (xs.getD i 0<=xs.getD (i-1) 0))=!(xs.all (m0 · 0 100000)&&Du xs):=by
  rw[<- Bg,<- T5 xs 0 (fun x=>!m0 x 0 100000),Du,<- Bool.not_or,Bool.not_not];rw[Bool.eq_iff_iff,Bool.or_eq_true,List.any_eq_true,List.any_eq_true,List.any_eq_true];constructor
  ·rintro⟨i,a,b⟩;rcases Bool.or_eq_true _ _ ▸ b with d | d
   ·exact .inl ⟨i,a,d⟩
   ·exact .inr ⟨i,a,d⟩
  ·rintro(⟨i,a,b⟩ | ⟨i,a,b⟩)
   ·exact⟨i,a,by rw[b]; rfl⟩
   ·exact⟨i,a,by rw[b,Bool.or_true]⟩
 rw[j];cases hA:(xs.all (m0 · 0 100000)&&Du xs) with
 | false=>grind
 | true =>
   rw[if_neg (by simp),Bool.and_assoc,hA,Bool.and_true];refine congrArg some ?_
   grind
theorem N0J(t:u1)(d:wf y70 t):Jc t=some (C5 t):=by
 obtain⟨⟨i,_⟩,⟨b,_⟩,g,_⟩:=d;unfold Jc;have c:(F8 t.1&&F8 t.2.1)=true/\True->c9 ((t.1.length:Int)*(t.2.1.length:Int)):=fun a=>by
  have a:=a.1;rw[ba] at a;obtain⟨j,h⟩:=CB a.1;obtain⟨k,f⟩:=CB a.2;have l:t.1.length*t.2.1.length<=4*4:=Nat.mul_le_mul h f;have e:(t.1.length:Int)*(t.2.1.length:Int)=((t.1.length*t.2.1.length:Nat):Int):=by simp
  rw[e];exact oo
 rw[M0l _ i,M0l _ b,HF _ _ _ g,vS,vS,vS,gP ⟨rfl,fun _=>rfl,c,fun _=>rfl,trivial⟩];congr 1
 grind[C5]
theorem r45(t:u1)(j:wf y70 t):Lh t=some (C5 t):=by
 obtain⟨⟨o,_⟩,⟨d,_⟩,c,_⟩:=j;unfold Lh;have f:(!F8 t.1||!F8 t.2.1)=false/\True->c9 ((t.1.length:Int)*(t.2.1.length:Int)):=fun a=>by
  have a:=a.1;simp only[Bool.or_eq_false_iff,Bool.not_eq_false'] at a;obtain⟨q,m⟩:=CB a.1;obtain⟨r,l⟩:=CB a.2;have s:t.1.length*t.2.1.length<=4*4:=Nat.mul_le_mul m l;have e:(t.1.length:Int)*(t.2.1.length:Int)=((t.1.length*t.2.1.length:Nat):Int):=by simp
  rw[e];exact oo
 rw[M0w _ o,M0w _ d,vS,vS,gP ⟨rfl,fun _=>rfl,f,trivial⟩];have b:=F1 (n:=t.2.2.length) c (fun i=>!m0 (t.2.2.getD i 0) (-1000000) 1000000) (some false) (e:=some true) (F:=G0J t) (fun g i hi=>BP hi c ⟨oo,rfl,trivial⟩) (fun g=>aE);rw[b,T5 t.2.2 0 (fun x=>!m0 x (-1000000) 1000000)];have e:((t.2.2.length:Int) != (t.1.length:Int)*(t.2.1.length:Int))=!decide (t.2.2.length=t.1.length*t.2.1.length):=by
  rw[Bool.eq_iff_iff];simp only[bne_iff_ne,Bool.not_eq_true',decide_eq_false_iff_not,ne_eq];constructor
  ·intro h k; exact h (by exact_mod_cast k)
  ·intro h k; exact h (by exact_mod_cast k)
 grind[C5,Bg,F8,decide,m0]
end Go.Proofs.YtdjgagoledoaaaaGreatDoor
end
section
namespace Go.Proofs.YtdjgagoledoaaaaGreatDoor
open Go Go.Proofs Go.Proofs.Sv Go.Proofs.Xv Go.Proofs.Xl Go.Proofs.Xd
theorem Rh(s:ByteArray)(h:s.size<=9223372036854775807):Z9 s=some (I6 s):=by
 have a:=F1 (n:=s.size) h (fun i=>!FF (F0 s i) i) (some false) (e:=Pm s ()) (F:=B0t s) (fun g i hi=>by
  refine(F0b hi h ⟨oo,fun _=>oo,trivial⟩ ⟨oo,fun _=>oo,trivial⟩).trans ?_;have b:decide ((0:Int) < (i:Int))=decide (0<i):=by rw[decide_eq_decide]; omega
  have c:((i:Int)).toNat=i:=rfl;rw[b,c];unfold FF Be Jz;rw[Bool.not_or]) (fun g=>aE)
 refine a.trans ?_;unfold I6 Pm;rw[q0E];cases(List.range s.size).any fun i=>!FF (F0 s i) i
 ·rfl
 ·rfl
theorem Wy(s:ByteArray)(h:s.size<=9223372036854775807):P9 s=some (I6 s):=by
 unfold P9;have f:Fx s ⟨#[97,98,99,100,101,102,103,104,105,106,107,108,109,110,111,112,113,114,115,116,117,118,119,120,121,122,48,49,50,51,52,53,54,55,56,57]⟩=some ⟨(Lib.trimS s.data.toList low36).toArray⟩:=if_pos ⟨by decide,by decide⟩;have g:∀c,PL ⟨#[97,98,99,100,101,102,103,104,105,106,107,108,109,110,111,112,113,114,115,116,117,118,119,120,121,122]⟩ c=some (Lib.indexByte low26 c.toNat.toUInt8):=fun _=>rfl;rw[f,g,V8,vS,vS,vS,gP ⟨rfl,fun _=>rfl,fun d=>⟨by decide,by
  have:=d.1;rw[ba,y9] at this;omega⟩,fun _=>rfl,trivial⟩,lE]
 refine congrArg some ?_;show(m0 (s.size:Int) 1 8&&decide ((⟨(Lib.trimS s.data.toList low36).toArray⟩:ByteArray)=⟨#[]⟩)&&decide (0<=Lib.indexByte low26 (F0 s (Int.toNat 0)).toNat.toUInt8))=I6 s;by_cases e:1<=s.size/\s.size<=8
 ·rw[y0M s e.1 e.2];have a:m0 (s.size:Int) 1 8=true:=by rw[y9]; omega
  have b:decide ((⟨(Lib.trimS s.data.toList low36).toArray⟩:ByteArray)=⟨#[]⟩)=(Lib.trimS s.data.toList low36==[]):=by
   rw[Bool.eq_iff_iff,dq,beq_iff_eq];constructor
   ·intro h;injection h with h;have:=congrArg Array.toList h;simpa using this
   ·intro h; rw[h]
  rw[a,b,Bool.true_and];rfl
 ·have a:m0 (s.size:Int) 1 8=false:=by rw[<- Bool.not_eq_true,y9]; omega
  have b:I6 s=false:=by
   rw[<- Bool.not_eq_true];intro d;simp only[I6,ba,dq] at d;omega
  rw[a,b]; rfl
theorem N0U(xs:List ByteArray)(x:ByteArray)(h:xs.length<=9223372036854775807):PK xs x=some (xs.any fun y=>decide (x=y)):=by
 have a:PJ xs x=_:=CE h (fun i=>decide (x=xs.getD i (b7 .str))) (fun g i hi=>by
  refine(if_pos (by simpa using hi)).trans ?_;rw[gP ⟨oo,trivial⟩,gP ⟨oo,trivial⟩];rfl) (fun g=>aE)
 have:=HE a;rw[T5 xs (b7 .str) (fun y=>decide (x=y))] at this;exact this
theorem Nj(xs:List ByteArray)(b:wf (.sl .str) xs):Y0 xs=some (C9 xs.length fun i=>xs.getD i (b7 .str)):=by
 have h:=b.1;have a:=F1 (n:=xs.length) h (fun i=>!I6 (xs.getD i (b7 .str))||O6 (fun i=>xs.getD i (b7 .str)) i) (some false) (e:=some true) (F:=A0M xs) (fun g i hi=>by
  have l:=Y3 (d:=b7 .str) hi b;have f:(xs.take i).length<=9223372036854775807:=by rw[List.length_take]; omega
  have j:=Wy _ l;have c:=N0U (xs.take i) (xs.getD i (b7 .str)) f;rw[x0R xs (b7 .str) i hi] at c;have k:((i:Int)).toNat=i:=rfl;refine(if_pos (by simpa using hi)).trans ?_;rw[k,j,c,vS,vS,gP ⟨oo,trivial⟩,gP ⟨rfl,fun _=>⟨by omega,by omega,by omega⟩,fun _=>rfl,trivial⟩,gP ⟨oo,trivial⟩]) (fun g=>aE)
 refine a.trans ?_;unfold C9;cases(List.range xs.length).any fun i=>!I6 (xs.getD i (b7 .str))||O6 (fun i=>xs.getD i (b7 .str)) i <;> rfl
theorem Wz(xs:List ByteArray)(c:wf (.sl .str) xs):BC xs=some (C9 xs.length fun i=>xs.getD i (b7 .str)):=by
 have h:=c.1;have b:=F1 (n:=xs.length) h (fun i=>!I6 (xs.getD i (b7 .str))||O6 (fun i=>xs.getD i (b7 .str)) i) (some false) (e:=some true) (F:=A0V xs) (fun g i hi=>by
  have m:=Y3 (d:=b7 .str) hi c;have j:=Rh _ m;have l:((i:Int)).toNat=i:=rfl;have a:=F1 (n:=i) (by omega) (fun k=>decide (xs.getD k (b7 .str)=xs.getD i (b7 .str))) (some false) (e:=g ((i:Int)+1)) (F:=A0U xs (i:Int) g) (fun f k o=>by
   refine(BP o (by omega) ⟨oo,oo,trivial⟩).trans ?_;rfl) (fun f=>by
   refine aE.trans ?_;unfold Ue;exact gP ⟨oo,trivial⟩)
  refine(if_pos (by simpa using hi)).trans ?_;rw[l,j,vS,gP ⟨oo,rfl,trivial⟩,a];unfold O6;cases I6 (xs.getD i (b7 .str)) <;> cases(List.range i).any fun k=>decide (xs.getD k (b7 .str)=xs.getD i (b7 .str)) <;> rfl) (fun g=>aE)
 refine b.trans ?_;unfold C9;cases(List.range xs.length).any fun i=>!I6 (xs.getD i (b7 .str))||O6 (fun i=>xs.getD i (b7 .str)) i <;> rfl
theorem M0m(xs:List Int)(h:xs.length<=9223372036854775807)(b:1<=xs.length):Jb xs=some (AB xs):=by
 unfold Jb;rw[if_neg (by simp; omega)];unfold UM;rw[gP ⟨oo,trivial⟩];have a:=lF (n:=xs.length-1) (by omega) (fun i (m:Int)=>(m,((i+1:Nat):Int))) (fun i m=>min m (xs.getD (i+1) 0)) (fun _ _=>True) (J:=fun m=>some m) (F:=UL xs) (fun g i s hi _=>by
  refine(if_pos (by simp; omega)).trans ?_;rw[gP ⟨oo,trivial⟩,gP ⟨oo,trivial⟩];rfl) (fun _ _ _ _=>trivial) (fun g s _=>by
  have e:xs.length-1+1=xs.length:=by omega
  show UL xs g (s,((xs.length-1+1:Nat):Int))=some s;rw[e];exact aE) (xs.getD 0 0) trivial
 exact a
theorem N0K(t:u1)(p:Bool)(a:wf y70 t):LS t p=some (!C5 t||p&&decide (AB t.2.2<0)):=by
 unfold LS;have b:p=true/\(!C5 t)=false/\True->(Jb t.2.2).isSome=true:=fun c=>by
  have d:C5 t=true:=by simpa using c.2.1
  rw[M0m _ a.2.2.1 (FG d).2.2.2.2.2.1]; rfl
 rw[N0J t a,vS,gP ⟨rfl,b,trivial⟩,lE];refine congrArg some ?_;cases hT:C5 t with
 | false=>rfl
 | true=>rw[M0m _ a.2.2.1 (FG hT).2.2.2.2.2.1,vS]
theorem WA(l:List u1)(p:Bool)(b:wf (.sl y70) l):V2 l p=some (F9 l p):=by
 have h:=b.1;have c:PS l p=_:=CE h (fun i=>!C5 (l.getD i (b7 y70))||p&&decide (AB (l.getD i (b7 y70)).2.2<0)) (fun g i hi=>HD hi h (N0K _ _ (Y3 hi b))) (fun g=>aE);have a:PT l p=_:=HE c;rw[T5 l (b7 y70) (fun t=>!C5 t||p&&decide (AB t.2.2<0))] at a;unfold V2;rw[a,vS,gP ⟨fun _=>rfl,trivial⟩];refine congrArg some ?_;unfold F9;have e:((l.length:Int)==2)=decide (l.length=2):=by
  rw[Bool.eq_iff_iff,beq_iff_eq,dq]; omega
 rw[e,<- Bg];congr 3;funext t;rw[Bool.not_and,Bool.not_not]
theorem q0S(xs:List Int):∀n,(fN (fun i (s:Int×Int)=>(min s.1 (xs.getD (i+1) 0),max s.2 (xs.getD (i+1) 0))) n (xs.getD 0 0,xs.getD 0 0)).1=fN (fun i m=>min m (xs.getD (i+1) 0)) n (xs.getD 0 0)
 | 0=>rfl
 | n+1=>by rw[fN,fN,q0S xs n]
theorem N0L(t:u1)(b:wf y70 t):∃l,Li t=some (if C5 t=true then((AB t.2.2,l),0) else((0,0),1)):=by
 unfold Li;rw[r45 t b,vS,gP ⟨rfl,trivial⟩];cases hT:C5 t with
 | false=>exact⟨0,rfl⟩
 | true =>
   have c:=(FG hT).2.2.2.2.2.1;have h:=b.2.2.1;have a:=lF (n:=t.2.2.length-1) (by omega) (fun i (s:Int×Int)=>(((i+1:Nat):Int),s.1,s.2)) (fun i s=>(min s.1 (t.2.2.getD (i+1) 0),max s.2 (t.2.2.getD (i+1) 0))) (fun _ _=>True) (J:=fun s=>some ((s.1,s.2),(0:Int))) (F:=Uf t) (fun g i s hi _=>by
    refine(if_pos (by simp; omega)).trans ?_;rw[gP ⟨oo,trivial⟩,gP ⟨oo,trivial⟩,gP ⟨oo,trivial⟩];rfl) (fun _ _ _ _=>trivial) (fun g s _=>by
    have e:t.2.2.length-1+1=t.2.2.length:=by omega
    show Uf t g (((t.2.2.length-1+1:Nat):Int),s.1,s.2)=_;rw[e];exact aE) (t.2.2.getD 0 0,t.2.2.getD 0 0) trivial
   rw[if_neg (by simp),gP ⟨oo,oo,trivial⟩];rw[q0S] at a;exact⟨_,a⟩
theorem Nk(l:List u1)(p:Bool)(d:wf (.sl y70) l):X8 l p=some (F9 l p):=by
 unfold X8;have e:((l.length:Int) != 2)=!decide (l.length=2):=by
  rw[Bool.eq_iff_iff]; simp; omega
 rw[e];unfold F9;by_cases a:l.length=2
 ·have b:=F1 (n:=2) (by decide) (fun i=>!C5 (l.getD i (b7 y70))||p&&decide (AB (l.getD i (b7 y70)).2.2<0)) (some false) (e:=some true) (F:=Ug p l) (fun g i hi=>by
   obtain⟨m,c⟩:=N0L (l.getD i (b7 y70)) (Y3 (by omega) d);have h:((i:Int)).toNat=i:=rfl;refine(if_pos (by simp; omega)).trans ?_;rw[h,c,vS,gP ⟨oo,rfl,trivial⟩,lE,gP ⟨oo,trivial⟩];cases C5 (l.getD i (b7 y70)) <;> rfl) (fun g=>by
   unfold Ug;exact if_neg (by decide))
  rw[decide_eq_true a,if_neg (by simp)];refine b.trans ?_;have:=T5 l (b7 y70) (fun t=>!C5 t||p&&decide (AB t.2.2<0));rw[a] at this;rw[this,<- Bg,Bool.true_and];have f:(fun t:u1=>!(C5 t&&!(p&&decide (AB t.2.2<0))))=fun t=>!C5 t||p&&decide (AB t.2.2<0):=by
   funext t; rw[Bool.not_and,Bool.not_not]
  rw[f];cases l.any fun t=>!C5 t||p&&decide (AB t.2.2<0) <;> rfl
 ·rw[decide_eq_false a]; rfl
abbrev s9(c:m6)(i:Nat):H9:=c.2.2.1.getD i (b7 y233)
abbrev o3(c:m6)(i:Nat):A9:=c.2.2.2.1.getD i (b7 y67)
theorem WB(c:m6)(a:wf y64 c):V0 c=some ((c.2.2.1.length:Int)-1):=by
 have h:=a.2.2.1.1;have e:Cv c.2.2.1=some (c.2.2.1.length:Int):=rfl;unfold V0;rw[e,vS,gP ⟨rfl,oo,trivial⟩,lE]
theorem M0n(c:m6)(a:wf y64 c)(x:Int):GW c x=some (m0 x 0 ((c.2.2.1.length:Int)-1-1)):=by
 have h:=a.2.2.1.1;unfold GW;rw[WB c a,vS,V8,vS,gP ⟨rfl,oo,rfl,trivial⟩]
theorem N0M(c:m6)(a:wf y64 c):Jd c=some (FH c.2.2.1.length (s9 c)):=by
 have h:=a.2.2.1.1;have b:PU c.2.2.1=_:=CE h (fun i=>(s9 c i).2.2.2) (fun g i hi=>HD hi h rfl) (fun g=>aE);unfold Jd;rw[b,vS,gP ⟨rfl,trivial⟩,lE];rfl
theorem WC(c:m6)(b:wf y64 c)(k:Int):O4 c k=some (B9 c.2.2.2.1.length (o3 c) k):=by
 have h:=b.2.2.2.1.1;have d:PN c.2.2.2.1 k=_:=CE h (fun i=>(o3 c i).1==k) (fun g i hi=>HD hi h rfl) (fun g=>aE);have a:PO c.2.2.2.1 k=_:=HE d;unfold O4;rw[a,vS,gP ⟨rfl,trivial⟩];rfl
theorem N0P(c:m6)(a:A9)(e:wf y64 c)(t:wf y67 a):GX c a=some (Dv c.2.2.1.length (s9 c) a):=by
 obtain⟨_,_,_,_,k,r⟩:=t;have s:PV a.1=some (a.1==4||a.1==5):=rfl;have n:m0 a.2.1 0 ((c.2.2.1.length:Int)-1-1)=true->ix a.2.1 c.2.2.1.length:=fun h=>by
  rw[y9] at h; exact oo
 unfold GX;rw[s,WA _ _ k,WA _ _ k,WA _ _ r,N0M c e,M0n c e,M0n c e,WB c e]
 repeat rw[vS]
 rw[gP ⟨rfl,trivial⟩];unfold Dv;by_cases Cr:a.1=4∨a.1=5
 ·have g:(a.1==4||a.1==5)=true:=by simpa using Cr
  rw[if_pos g,if_pos Cr,gP ⟨fun _=>rfl,fun _=>rfl,fun _=>rfl,trivial⟩,lE]
 ·have g:(a.1==4||a.1==5)=false:=by
   rw[<- Bool.not_eq_true]; simpa using Cr
  rw[g,if_neg (by simp),if_neg Cr,gP ⟨rfl,fun _=>rfl,fun _=>rfl,fun _=>rfl,trivial⟩,lE];by_cases f:F9 a.2.2.2.2.1 true=true/\F9 a.2.2.2.2.2 true=true/\a.2.2.1=(c.2.2.1.length:Int)-1/\m0 a.2.1 0 ((c.2.2.1.length:Int)-1-1)=true
  ·obtain⟨o,m,l,d⟩:=f;have q:(F9 a.2.2.2.2.1 true&&F9 a.2.2.2.2.2 true&&a.2.2.1==(c.2.2.1.length:Int)-1&&m0 a.2.1 0 ((c.2.2.1.length:Int)-1-1))=true:=by
    rw[o,m,d,l]; simp
   have u:(!F9 a.2.2.2.2.1 true||!F9 a.2.2.2.2.2 true||a.2.2.1 != (c.2.2.1.length:Int)-1||!m0 a.2.1 0 ((c.2.2.1.length:Int)-1-1))=false:=by
    rw[o,m,d,l]; simp
   rw[q,Bool.true_and];refine(if_neg (by rw[u]; simp)).trans ?_;by_cases i:a.1=1
   ·rw[if_pos (beq_iff_eq.2 i),if_pos i,V8,gP ⟨n d,fun _=>rfl,trivial⟩];rfl
   ·rw[if_neg (by grind),if_neg i];have j:∀b,LU c a b=some (if b=true then(s9 c a.2.1.toNat).2.2.2&&a.2.2.2.1==0 else false):=fun b=>by
     unfold LU;cases b with
     | false=>rfl
     | true=>rw[if_pos rfl,if_pos rfl,gP ⟨n d,trivial⟩]
    grind
  grind
theorem N0S(c:m6)(a:A9)(l:wf y64 c)(k:wf y67 a):Ll c a=some (F3 c.2.2.1.length (s9 c) a):=by
 obtain⟨_,_,_,_,e,i⟩:=k;have h:=l.2.2.1.1;unfold Ll;rw[gP ⟨oo,trivial⟩,R2,R2]
 repeat rw[vS]
 rw[gP ⟨oo,rfl,fun _=>rfl,trivial⟩];unfold F3;by_cases d:m0 a.2.1 0 ((c.2.2.1.length:Int)-1-1)=true/\m0 a.2.2.1 0 ((c.2.2.1.length:Int)-1)=true
 ·obtain⟨j,g⟩:=d;have o:=y9.1 j;have m:=y9.1 g;rw[j,g,if_neg (by simp),gP ⟨oo,trivial⟩,lE,Bool.true_and,Bool.true_and];by_cases f:a.1=1
  ·rw[if_pos (beq_iff_eq.2 f),if_pos f,R2,Nk _ _ e,Nk _ _ i,gP ⟨fun _=>rfl,fun _=>rfl,fun _=>rfl,trivial⟩];rfl
  ·rw[if_neg (by grind),if_neg f];have q:∀b,Lj (s9 c a.2.1.toNat) a c b=some (if b=true then(s9 c a.2.1.toNat).2.2.2&&decide (a.2.2.1 < (c.2.2.1.length:Int)-1)&&!(s9 c a.2.2.1.toNat).2.2.2&&a.2.2.2.1==0&&F9 a.2.2.2.2.1 false&&(a.2.2.2.2.2.length:Int)==0 else false):=fun b=>by
    unfold Lj;cases b with
    | false=>rfl
    | true =>
      rw[if_pos rfl,if_pos rfl,Nk _ _ e,gP ⟨fun _=>oo,fun _=>rfl,trivial⟩];rfl
   have n:∀b,Lk (s9 c a.2.1.toNat) a c b=some (if b=true then(s9 c a.2.1.toNat).2.2.2&&a.2.2.1==(c.2.2.1.length:Int)-1&&a.2.2.2.1==0&&F9 a.2.2.2.2.1 true&&F9 a.2.2.2.2.2 true else if a.1=4∨a.1=5 then(s9 c a.2.1.toNat).2.2.2&&decide (a.2.2.1 < (c.2.2.1.length:Int)-1)&&!(s9 c a.2.2.1.toNat).2.2.2&&a.2.2.2.1==0&&F9 a.2.2.2.2.1 false&&(a.2.2.2.2.2.length:Int)==0 else false):=fun b=>by
    unfold Lk;cases b with
    | true =>
      rw[if_pos rfl,if_pos rfl,Nk _ _ e,Nk _ _ i,gP ⟨fun _=>rfl,fun _=>rfl,trivial⟩];rfl
    | false =>
      grind
   grind
 grind
theorem WD{c:m6}(a:wf y64 c):wf (.sl y233) c.2.2.1:=a.2.2.1
theorem WG{c:m6}(a:wf y64 c):wf (.sl y67) c.2.2.2.1:=a.2.2.2.1
theorem JM{a:Type}(l:List a)(f:a->ByteArray)(d:a)(e:ByteArray):C9 (l.map f).length (fun i=>(l.map f).getD i e)=C9 l.length fun i=>f (l.getD i d):=by
 grind[List.length_map,n0a,hi,v0N]
theorem JN{a:Type}{l:List a}{f:a->ByteArray}(h:l.length<=9223372036854775807)(c:∀x∈l,(f x).size<=9223372036854775807):wf (.sl .str) (l.map f):=by
 refine⟨by grind,fun x b=>?_⟩;obtain⟨y,d,rfl⟩:=List.mem_map.1 b;exact c y d
def Y4(f:Nat->ByteArray)(i:Nat)(s:List ByteArray):List ByteArray:=s++[f i]
theorem v0P(f:Nat->ByteArray):∀n,fN (Y4 f) n []=(List.range n).map f
 | 0=>rfl
 | n+1=>by
   rw[fN,v0P f n,List.range_succ,List.map_append]; rfl
theorem JO{a:Type}(l:List a)(d:a)(f:a->ByteArray):fN (Y4 fun i=>f (l.getD i d)) l.length []=l.map f:=by
 rw[v0P,u0R]
theorem Ri{n i b:Nat}(h:i<n)(c:n<=1048576)(a:b<=4096):i+1<=9223372036854775807/\(i+1)*b<=140737488355328:=by
 have:(i+1)*b<=1048576*4096:=Nat.mul_le_mul (by omega) a;exact oo
theorem N0X(l:List H9)(d:wf (.sl y233) l)(t:l.length<=1048576):Fy l=some (AD l.length fun i=>l.getD i (b7 y233)):=by
 have h:=d.1;have c:=Nl (n:=l.length) h (fun i (s:List ByteArray)=>(s,(i:Int))) (Y4 fun i=>(l.getD i (b7 y233)).1) (fun i=>!BK l.length (l.getD i (b7 y233)) i) (some false) (fun i s=>s.length=i) (J:=LW l) (F:=A0A l) (fun g i s hi o=>by
  refine(if_pos (by simpa using hi)).trans ?_;have m:((i:Int)).toNat=i:=rfl;have G:(s++[(l.getD i (b7 y233)).1]).length<=9223372036854775807:=by rw[List.length_append]; show s.length+1<=_; omega
  have P:=Ri (b:=16) hi t (by decide);have w:∀a,PY (i:Int) g a=g (a,((i+1:Nat):Int)):=fun a=>gP ⟨oo,trivial⟩;rw[m,gP ⟨oo,trivial⟩,lE,gP ⟨⟨by show s.length+1<=_; omega,by show(s.length+1)*16<=_; omega⟩,trivial⟩,gP ⟨oo,trivial⟩,w,V8,gP ⟨fun _=>rfl,trivial⟩,vS];unfold BK Y4;dsimp only;by_cases f:i+1=l.length
  ·have y:((i:Int)==(l.length:Int)-1)=true:=by rw[beq_iff_eq]; omega
   rw[if_pos y,if_pos f];generalize l.getD i (b7 y233)=q;have H:(q.2.1 != 2)=!(q.2.1==2):=rfl;have E:(q.2.2.1 != 0)=!(q.2.2.1==0):=rfl
   grind[m0]
  grind) (fun i s hi o _=>by grind[Y4,List.length_append]) (fun g s _=>aE) [] rfl
 refine c.trans ?_;rw[JO];have r:wf (.sl .str) (l.map fun q:H9=>q.1):=JN h fun x k=>(d.2 x k).1;have u:Cv l=some (l.length:Int):=rfl;have z:∀v:List ByteArray,wf (.sl .str) v->LW l v=some (m0 (l.length:Int) 2 5&&C9 v.length fun i=>v.getD i (b7 .str)):=fun v e=>by
  rw[LW];rw[u,Nj _ e]
  repeat rw[vS]
  rw[V8,vS,gP ⟨rfl,rfl,fun _=>rfl,trivial⟩]
 rw[z _ r,JM l (fun q:H9=>q.1) (b7 y233)];unfold AD;have j:m0 (l.length:Int) 2 5=(decide (2<=l.length)&&decide (l.length<=5)):=by
  rw[Bool.eq_iff_iff,y9]; simp; omega
 rw[j];cases(List.range l.length).any fun i=>!BK l.length (l.getD i (b7 y233)) i
 ·simp
 ·simp
theorem N0T(c:m6)(w:wf y64 c):Lm c=some (if AD c.2.2.1.length (s9 c)=true then(I2 c.2.2.1.length (s9 c),true) else(0,false)):=by
 have o:=WD w;have h:=o.1;unfold Lm;by_cases b:2<=c.2.2.1.length/\c.2.2.1.length<=5
 ·have l:(decide ((c.2.2.1.length:Int)<2)||decide (5 < (c.2.2.1.length:Int)))=false:=by
   rw[<- Bool.not_eq_true]; simp; omega
  rw[l,if_neg (by simp)];have j:=Nl (n:=c.2.2.1.length) h (fun i (s:Int)=>(s,(i:Int))) (fun i s=>if(s9 c i).2.2.2=true then s+1 else s) (fun i=>(!I6 (s9 c i).1||O6 (fun i=>(s9 c i).1) i)||!BK c.2.2.1.length (s9 c i) i) (some ((0:Int),false)) (fun i s=>0<=s/\s<=i) (J:=Uh) (F:=A0x c) (fun g i s hi z=>by
   refine(if_pos (by simpa using hi)).trans ?_;have y:((i:Int)).toNat=i:=rfl;have E:(s9 c i).1.size<=9223372036854775807:=(Y3 (d:=b7 y233) hi o).1;rw[y,gP ⟨oo,trivial⟩,lE];have a:=F1 (n:=i) (by omega) (fun k=>decide ((s9 c k).1=(s9 c i).1)) (some ((0:Int),false)) (e:=Ps (i:Int) s (s9 c i) c g ()) (F:=A0w c (s9 c i) (i:Int) s g) (fun v k Q=>BP Q (by omega) ⟨oo,trivial⟩) (fun v=>aE);refine a.trans ?_;have P:Ps (i:Int) s (s9 c i) c g ()=if(!I6 (s9 c i).1||!BK c.2.2.1.length (s9 c i) i)=true then some ((0:Int),false) else g (if(s9 c i).2.2.2=true then s+1 else s,((i+1:Nat):Int)):=by
    have m:∀f,Pr (i:Int) g f=g (f,((i+1:Nat):Int)):=fun f=>gP ⟨oo,trivial⟩;show gd _ (if(!vl (Z9 (s9 c i).1)||!vl (r9 (s9 c i).2.2.1 0 500))=true then _ else gd _ (if _=true then _ else if _=true then gd _ _ else _))=_;rw[Rh _ E,R2,vS,vS,gP ⟨rfl,fun _=>rfl,trivial⟩,gP ⟨oo,fun _=>oo,trivial⟩,gP ⟨oo,trivial⟩,m,m];generalize s9 c i=q;have x:((i:Int)==(c.2.2.1.length:Int)-1)=decide (i+1=c.2.2.1.length):=by
     rw[Bool.eq_iff_iff,beq_iff_eq,dq]; omega
    have G:decide ((i:Int) < (c.2.2.1.length:Int)-1)=!decide (i+1=c.2.2.1.length):=by
     rw[Bool.eq_iff_iff]; simp; omega
    rw[x,G];have hz:BK c.2.2.1.length q i=(m0 q.2.2.1 0 500&&(if decide (i+1=c.2.2.1.length)=true then q.2.1==2&&q.2.2.1==0&&!q.2.2.2 else q.2.1==1)):=by
     unfold BK;by_cases W:i+1=c.2.2.1.length
     ·grind
     ·grind
    rw[hz];have T:(q.2.1 != 2)=!(q.2.1==2):=rfl;have t:(q.2.2.1 != 0)=!(q.2.2.1==0):=rfl;have n3:(q.2.1 != 1)=!(q.2.1==1):=rfl;rw[T,t,n3];cases I6 q.1 <;> cases m0 q.2.2.1 0 500 <;> cases decide (i+1=c.2.2.1.length) <;> cases q.2.1==2 <;> cases q.2.2.1==0 <;> cases q.2.1==1 <;> cases q.2.2.2 <;> rfl
   rw[P];have V:O6 (fun i=>(s9 c i).1) i=(List.range i).any fun k=>decide ((s9 c k).1=(s9 c i).1):=rfl
   grind) (fun i s hi z _=>by
   omega) (fun g s _=>aE) 0 oo
  refine j.trans ?_;rw[Rc];unfold AD C9;rw[decide_eq_true b.1,decide_eq_true b.2];cases(List.range c.2.2.1.length).any (fun i=>!I6 (s9 c i).1||O6 (fun i=>(s9 c i).1) i) <;> cases(List.range c.2.2.1.length).any (fun i=>!BK c.2.2.1.length (s9 c i) i) <;> rfl
 ·have l:(decide ((c.2.2.1.length:Int)<2)||decide (5 < (c.2.2.1.length:Int)))=true:=by
   simp; omega
  have X:¬AD c.2.2.1.length (s9 c)=true:=fun u=>by
   obtain⟨H,r,_⟩:=JB u;exact b ⟨H,r⟩
  grind
theorem N0W(c:m6)(j:wf y64 c):GY c=some (Hy (Dv c.2.2.1.length (s9 c)) c.2.2.2.1.length (o3 c)):=by
 have k:=WG j;have h:=k.1;have r:∀(a:List A9) (o:A9),a.length<=9223372036854775807->LV a o=some (a.any fun x=>x.1==o.1&&x.2.1==o.2.1&&x.2.2.1==o.2.2.1):=fun a o f=>by
  have t:PW a o=_:=CE f (fun i=>(a.getD i (b7 y67)).1==o.1&&(a.getD i (b7 y67)).2.1==o.2.1&&(a.getD i (b7 y67)).2.2.1==o.2.2.1) (fun g i hi=>HD hi f rfl) (fun g=>aE);have d:LV a o=_:=HE t;rw[T5 a (b7 y67) (fun x=>x.1==o.1&&x.2.1==o.2.1&&x.2.2.1==o.2.2.1)] at d;exact d
 have b:=F1 (n:=c.2.2.2.1.length) h (fun i=>!Dv c.2.2.1.length (s9 c) (o3 c i)||JA (o3 c) i) (some false) (e:=PX c ()) (F:=A0z c) (fun g i hi=>by
  have s:((i:Int)).toNat=i:=rfl;have m:(c.2.2.2.1.take i).length<=9223372036854775807:=by rw[List.length_take]; omega
  have q:=N0P c (o3 c i) j (Y3 hi k);have l:=r (c.2.2.2.1.take i) (o3 c i) m;rw[u0l c.2.2.2.1 (b7 y67) _ i (by omega)] at l;refine(if_pos (by grind)).trans ?_;rw[s,gP ⟨oo,trivial⟩,lE,q,l,vS,vS,gP ⟨rfl,fun _=>⟨by omega,by omega,by omega⟩,fun _=>rfl,trivial⟩,gP ⟨oo,trivial⟩];rfl) (fun g=>aE)
 refine b.trans ?_;unfold Hy PX;have e:decide ((c.2.2.2.1.length:Int)<=8)=decide (c.2.2.2.1.length<=8):=by rw[decide_eq_decide]; omega
 rw[e];cases(List.range c.2.2.2.1.length).any fun i=>!Dv c.2.2.1.length (s9 c) (o3 c i)||JA (o3 c) i
 ·simp
 ·simp
theorem Nn{n:Nat}(h:1<=n):((n:Int)-1).toNat=n-1:=by omega
theorem N0V(c:m6)(a:wf y64 c)(v:2<=c.2.2.1.length)(t:c.2.2.1.length<=5):PR c=some (JC c.2.1 c.2.2.1.length (s9 c) c.2.2.2.1.length (o3 c) c.2.2.2.2.1):=by
 have u:=WD a;have h:=u.1;have q:=a.2.2.2.2.1.1;have e:=lF (n:=c.2.2.1.length) h (fun i (s:Int)=>(s,(i:Int))) (fun i s=>if(s9 c i).2.2.2=true then s+1 else s) (fun i s=>0<=s/\s<=i) (J:=Ja c) (F:=A0y c) (fun g i s hi o=>by
  have l:∀d,PQ (i:Int) g d=g (d,((i+1:Nat):Int)):=fun d=>gP ⟨oo,trivial⟩;have m:((i:Int)).toNat=i:=rfl;refine(if_pos (by grind)).trans ?_;rw[m,gP ⟨oo,trivial⟩,lE,gP ⟨oo,trivial⟩,l,l]
  grind) (fun i s hi o=>by
  omega) (fun g s _=>aE) 0 oo
 refine e.trans ?_;show Ja c (I2 c.2.2.1.length (s9 c))=_;have r:∀b:Int,Ja c b=some (if c.2.1=1 then b==0&&(c.2.2.2.2.1.length:Int)==1*2 ^ (c.2.2.1.length-1)&&c.2.2.2.2.1.all (m0 · 0 1)
  else if c.2.1=2 then b==1&&(c.2.2.2.2.1.length:Int)==0&&!B9 c.2.2.2.1.length (o3 c) 1&&!(B9 c.2.2.2.1.length (o3 c) 2==B9 c.2.2.2.1.length (o3 c) 3)
  else if c.2.1=3 then b==1&&(c.2.2.2.2.1.length:Int)==0&&B9 c.2.2.2.1.length (o3 c) 1&&B9 c.2.2.2.1.length (o3 c) 2&&!B9 c.2.2.2.1.length (o3 c) 3
  else false):=fun b=>by
  rw[Ja,WB c a,HF _ _ _ q,WC c a,WC c a,WC c a]
  repeat rw[vS]
  rw[Nn (by omega)];by_cases f:c.2.1=1
  ·rw[if_pos (beq_iff_eq.2 f),if_pos f,gP ⟨fun _=>rfl,fun _=>⟨by omega,B0T t⟩,fun _=>rfl,trivial⟩,lE,Nn (by omega)]
  ·rw[if_neg (by grind),if_neg f];by_cases j:c.2.1=2
   ·rw[if_pos (beq_iff_eq.2 j),if_pos j,gP ⟨fun _=>rfl,fun _=>rfl,fun _=>rfl,trivial⟩]
   ·rw[if_neg (by grind),if_neg j];by_cases k:c.2.1=3
    ·rw[if_pos (beq_iff_eq.2 k),if_pos k,gP ⟨fun _=>rfl,fun _=>rfl,fun _=>rfl,trivial⟩]
    grind
 exact r (I2 c.2.2.1.length (s9 c))
abbrev BQ(q:Nat->(Nat->N0)->D7->Bool)(c:m6):Bool:=V5 q c.1 c.2.1 c.2.2.1.length (s9 c) c.2.2.2.1.length (o3 c) c.2.2.2.2.1 c.2.2.2.2.2.1 c.2.2.2.2.2.2
theorem O0c(c:m6)(b:wf y64 c)(f:c.2.2.1.length<=1048576):LX c=some (BQ F3 c):=by
 have e:=WD b;show _=some (V5 F3 _ _ _ _ _ _ _ _ _);rw[<- E0T];unfold LX V5;rw[Wy c.1 b.1,N0X _ e f,N0W c b,V8,V8]
 repeat rw[vS]
 cases hpo:AD c.2.2.1.length (s9 c) with
 | false =>
   rw[gP ⟨rfl,fun _=>rfl,fun a=>by simp at a,fun a=>by simp at a,fun a=>by simp at a,fun a=>by simp at a,trivial⟩];simp
 | true =>
   obtain⟨d,g,_⟩:=JB hpo;rw[N0V c b d g,vS,gP ⟨rfl,fun _=>rfl,fun _=>rfl,fun _=>rfl,fun _=>rfl,fun _=>rfl,trivial⟩]
theorem N0R(c:m6)(q:wf y64 c)(y:c.2.2.2.1.length<=8)(k:∀i,i<c.2.2.2.1.length->1<=(o3 c i).1/\(o3 c i).1<=5):Lg c=some (fN (HA (o3 c)) c.2.2.2.1.length (List.replicate 6 0)):=by
 have h:=(WG q).1;unfold Lg;rw[gP ⟨⟨by omega,rfl,by decide,by omega⟩,trivial⟩];have t:=lF (n:=c.2.2.2.1.length) h (fun i (v:List Int)=>((i:Int),v)) (HA (o3 c)) (fun i v=>i<=c.2.2.2.1.length/\v=fN (HA (o3 c)) i (List.replicate 6 0)) (J:=fun v=>some v) (F:=A0u c) (fun g i v hi e=>by
  obtain⟨u,m⟩:=Wj (o3 c) i (fun j x=>k j (by omega));obtain⟨z,w⟩:=k i hi;have l:v.length=6:=by rw[e.2]; exact u
  have a:=m (o3 c i).1.toNat (by omega);have o:=Nc (o3 c) ((o3 c i).1.toNat:Int) i;rw[<- e.2] at a;have r:((i:Int)).toNat=i:=rfl;refine(if_pos (by grind)).trans ?_;have f:c9 (v.getD (o3 c i).1.toNat 0+1):=by rw[a]; exact oo
  have b:ix (o3 c i).1 v.length:=oo;have d:(o3 c i).1.toNat<v.length:=by omega
  rw[r,gP ⟨oo,b,d,f,b,d,trivial⟩,lE,gP ⟨oo,trivial⟩];rfl) (fun i v hi e=>⟨by omega,by rw[e.2]; rfl⟩) (fun g s _=>aE) (List.replicate 6 0) ⟨by omega,rfl⟩
 grind
theorem O0b(c:m6)(f:wf y64 c):Lo c=some (BQ F3 c):=by
 have Y:=WG f;have h:=Y.1;show _=some (V5 F3 _ _ _ _ _ _ _ _ _);unfold Lo V5;rw[N0T c f,Rh c.1 f.1,R2,R2]
 repeat rw[vS]
 rw[gP ⟨rfl,trivial⟩,lE,gP ⟨fun _=>rfl,fun _=>rfl,fun _=>rfl,trivial⟩];cases hpo:AD c.2.2.1.length (s9 c) with
 | false =>
   grind
 | true =>
   obtain⟨h2,h5,_⟩:=JB hpo;have e9:(if true=true then(I2 c.2.2.1.length (s9 c),true) else((0:Int),false))=(I2 c.2.2.1.length (s9 c),true):=rfl;rw[e9];by_cases s:I6 c.1=true/\c.2.2.2.1.length<=8/\m0 c.2.2.2.2.2.1 0 100000=true/\m0 c.2.2.2.2.2.2 0 100000=true
   ·obtain⟨g1,Q,w,g4⟩:=s;have e0:decide (8 < (c.2.2.2.1.length:Int))=false:=decide_eq_false (by omega);rw[g1,e0,w,g4];refine(if_neg (by simp)).trans ?_;have E:=F1 (n:=c.2.2.2.1.length) h (fun i=>!F3 c.2.2.1.length (s9 c) (o3 c i)||JA (o3 c) i) (some false) (e:=Pt c (I2 c.2.2.1.length (s9 c),true) ()) (F:=A0I c (I2 c.2.2.1.length (s9 c),true)) (fun g i hi=>by
     have e3:((i:Int)).toNat=i:=rfl;have e1:=N0S c (o3 c i) f (Y3 hi Y);have d:=F1 (n:=i) (by omega) (fun k=>(o3 c k).1==(o3 c i).1&&(o3 c k).2.1==(o3 c i).2.1&&(o3 c k).2.2.1==(o3 c i).2.2.1) (some false) (e:=g ((i:Int)+1)) (F:=A0H c (o3 c i) (i:Int) g) (fun w k hk=>BP hk (by omega) ⟨oo,fun _=>oo,fun _=>oo,trivial⟩) (fun w=>by
      refine aE.trans ?_;exact gP ⟨oo,trivial⟩)
     refine(if_pos (by grind)).trans ?_;rw[e3,gP ⟨oo,trivial⟩,lE,e1,vS,gP ⟨rfl,trivial⟩,d];unfold JA
     grind) (fun g=>aE)
    refine E.trans ?_;unfold Hy;rw[decide_eq_true Q];cases hany:(List.range c.2.2.2.1.length).any fun i=>!F3 c.2.2.1.length (s9 c) (o3 c i)||JA (o3 c) i with
    | true=>simp
    | false =>
      rw[if_neg (by simp)];have b:∀i,i<c.2.2.2.1.length->F3 c.2.2.1.length (s9 c) (o3 c i)=true:=fun i hi=>by
       grind
      have l:=N0R c f Q (fun i hi=>n0M (b i hi));obtain⟨z,a⟩:=Wj (o3 c) c.2.2.2.1.length (fun i hi=>n0M (b i hi));have H:=a 1 (by omega);have c2:=a 2 (by omega);have c3:=a 3 (by omega);rw[Pt,l,vS,gP ⟨rfl,trivial⟩,lE];generalize fN (HA (o3 c)) c.2.2.2.1.length (List.replicate 6 0)=v at *
      have q1:((v.getD 1 0)==(0:Int))=!B9 c.2.2.2.1.length (o3 c) 1:=by
       rw[H,JD];have:=(Nc (o3 c) 1 c.2.2.2.1.length).1;rw[Bool.eq_iff_iff]; simp; omega
      have r:decide (0<v.getD 1 0)=B9 c.2.2.2.1.length (o3 c) 1:=by rw[H,JD]; rfl
      have W:decide (0<v.getD 2 0)=B9 c.2.2.2.1.length (o3 c) 2:=by rw[c2,JD]; rfl
      have q3:decide (0<v.getD 3 0)=B9 c.2.2.2.1.length (o3 c) 3:=by rw[c3,JD]; rfl
      have G:((v.getD 3 0)==(0:Int))=!B9 c.2.2.2.1.length (o3 c) 3:=by
       rw[c3,JD];have:=(Nc (o3 c) 3 c.2.2.2.1.length).1;rw[Bool.eq_iff_iff]; simp; omega
      have V:ix (1:Int) v.length:=oo;have i2:ix (2:Int) v.length:=oo;have i3:ix (3:Int) v.length:=oo;have X:Int.toNat (1:Int)<v.length:=by rw[z]; decide
      have P:Int.toNat (2:Int)<v.length:=by rw[z]; decide
      have n3:Int.toNat (3:Int)<v.length:=by rw[z]; decide
      unfold JC;by_cases m:c.2.1=1
      ·rw[if_pos (beq_iff_eq.2 m),if_pos m];have T:=f.2.2.2.2.1.1;have j:=F1 (n:=c.2.2.2.2.1.length) T (fun i=>!m0 (c.2.2.2.2.1.getD i 0) 0 1) (some false) (e:=Ln (I2 c.2.2.1.length (s9 c),true) c ()) (F:=A0G c (I2 c.2.2.1.length (s9 c),true)) (fun g i hi=>BP hi T ⟨oo,rfl,trivial⟩) (fun g=>aE);refine j.trans ?_;rw[T5 c.2.2.2.2.1 0 (fun x=>!m0 x 0 1),<- Bg];have e5:Ln (I2 c.2.2.1.length (s9 c),true) c ()=some (I2 c.2.2.1.length (s9 c)==0&&(c.2.2.2.2.1.length:Int)==1*2 ^ (c.2.2.1.length-1)):=by
        rw[Ln,Nn (by omega),gP ⟨fun _=>oo,fun _=>oo,fun _=>⟨by omega,B0T h5⟩,trivial⟩]
       rw[e5];cases c.2.2.2.2.1.any fun x=>!m0 x 0 1 <;> simp
      ·rw[if_neg (by simpa using m),if_neg m];by_cases o:c.2.1=2
       ·rw[if_pos (beq_iff_eq.2 o),if_pos o,gP ⟨fun _=>V,fun _=>X,fun _=>i2,fun _=>P,fun _=>i3,fun _=>n3,trivial⟩];have u:Int.toNat (1:Int)=1:=rfl;have q:Int.toNat (2:Int)=2:=rfl;have y:Int.toNat (3:Int)=3:=rfl;rw[u,q,y,q1,W,q3];cases I2 c.2.2.1.length (s9 c)==1 <;> cases(c.2.2.2.2.1.length:Int)==0 <;> cases B9 c.2.2.2.1.length (o3 c) 1 <;> cases B9 c.2.2.2.1.length (o3 c) 2 <;> cases B9 c.2.2.2.1.length (o3 c) 3 <;> rfl
       ·rw[if_neg (by simpa using o),if_neg o];by_cases t:c.2.1=3
        ·rw[if_pos (beq_iff_eq.2 t),if_pos t,gP ⟨fun _=>V,fun _=>X,fun _=>i2,fun _=>P,fun _=>i3,fun _=>n3,trivial⟩];have u:Int.toNat (1:Int)=1:=rfl;have q:Int.toNat (2:Int)=2:=rfl;have y:Int.toNat (3:Int)=3:=rfl;rw[u,q,y,r,W,G];cases I2 c.2.2.1.length (s9 c)==1 <;> cases(c.2.2.2.2.1.length:Int)==0 <;> cases B9 c.2.2.2.1.length (o3 c) 1 <;> cases B9 c.2.2.2.1.length (o3 c) 2 <;> cases B9 c.2.2.2.1.length (o3 c) 3 <;> rfl
        ·rw[if_neg (by grind),if_neg t];rfl
   grind[I6,decide,m0,trans,Hy]
abbrev Y5(l:List m6)(i:Nat):m6:=l.getD i (b7 y64)
abbrev Dx(l:List m6):Bool:=CC l.length (fun i=>BQ F3 (Y5 l i)) (fun i=>(Y5 l i).1)
theorem w0q{c:m6}(h:BQ F3 c=true):I6 c.1=true:=by
 grind[V5,F3]
theorem O0p(l:List m6)(a:wf (.sl y64) l)(f:cnt (.sl y64) l<=1048576):LZ l=some (Dx l):=by
 have h:=a.1;have j:=BR f;have d:=Nl (n:=l.length) h (fun i (s:List ByteArray)=>(s,(i:Int))) (Y4 fun i=>(Y5 l i).1) (fun i=>!BQ F3 (Y5 l i)) (some false) (fun i s=>s.length=i) (J:=LY l) (F:=B0m l) (fun g i s hi w=>by
  have t:((i:Int)).toNat=i:=rfl;have e:cnt y64 (Y5 l i)<=1048576:=I0M hi f;have k:(Y5 l i).2.2.1.length<=1048576:=BR (cF (cS (cS e)));have o:=O0c (Y5 l i) (Y3 hi a) k;have y:=Ri (b:=16) hi j (by decide);refine(if_pos (by grind)).trans ?_;rw[t,gP ⟨oo,trivial⟩,lE,o,vS,gP ⟨rfl,trivial⟩,gP ⟨⟨by grind,by grind⟩,trivial⟩,gP ⟨oo,trivial⟩];rfl) (fun i s hi w _=>by grind[Y4,List.length_append]) (fun g s _=>aE) [] rfl
 refine d.trans ?_;rw[JO l (b7 y64) (fun c:m6=>c.1)];have m:wf (.sl .str) (l.map fun c:m6=>c.1):=JN h fun x r=>(a.2 x r).1;have u:∀v:List ByteArray,wf (.sl .str) v->LY l v=some (decide (l.length<=8)&&C9 v.length fun i=>v.getD i (b7 .str)):=fun v q=>by
  have e8:decide ((l.length:Int)<=8)=decide (l.length<=8):=by rw[decide_eq_decide]; omega
  rw[LY,Nj _ q,vS,gP ⟨fun _=>rfl,trivial⟩,e8]
 rw[u _ m,JM l (fun c:m6=>c.1) (b7 y64)];show _=some (CC _ _ _);rw[<- I0s (fun i _ e=>w0q e)];split <;> rfl
theorem O0g(l:List m6)(c:wf (.sl y64) l):Lp l=some (Dx l):=by
 have h:=c.1;have b:=F1 (n:=l.length) h (fun i=>!BQ F3 (Y5 l i)||O6 (fun i=>(Y5 l i).1) i) (some false) (e:=Pu l ()) (F:=B0d l) (fun g i hi=>by
  have j:((i:Int)).toNat=i:=rfl;have f:=O0b (Y5 l i) (Y3 hi c);have a:=F1 (n:=i) (by omega) (fun k=>decide ((Y5 l k).1=(Y5 l i).1)) (some false) (e:=g ((i:Int)+1)) (F:=B0c l (i:Int) g) (fun d k m=>BP m (by omega) ⟨oo,oo,trivial⟩) (fun d=>by
   refine aE.trans ?_;exact gP ⟨oo,trivial⟩)
  refine(if_pos (by grind)).trans ?_;rw[j,f,vS,gP ⟨oo,rfl,trivial⟩,a];unfold O6
  grind) (fun g=>aE)
 refine b.trans ?_;show _=some (CC _ _ _);unfold CC Pu;have e8:decide ((l.length:Int)<=8)=decide (l.length<=8):=by rw[decide_eq_decide]; omega
 rw[e8];cases(List.range l.length).any (fun i=>!BQ F3 (Y5 l i)||O6 (fun i=>(Y5 l i).1) i) <;> rfl
abbrev m9(d:r6)(i:Nat):o4:=d.1.getD i (b7 y139)
abbrev A5(d:r6)(i:Nat):r8:=d.2.2.getD i (b7 y202)
abbrev Y6(l:List m6)(x:Int):Nat:=(l.getD x.toNat (b7 y64)).2.2.1.length
abbrev HI(l:List m6)(d:r6):Bool:=CD (Dx l) l.length (Y6 l) d.1.length d.2.2.length d.2.1.length (m9 d) (A5 d) (fun i=>d.2.1.getD i (b7 .str))
theorem M0t(d:r6)(a:wf y31 d)(x:Int):GV d x=some (m0 x 0 ((d.2.1.length:Int)-1)):=by
 have h:=a.2.1.1;have e:IZ d.2.1=some (d.2.1.length:Int):=rfl;unfold GV;rw[e]
 repeat rw[vS]
 rw[V8,vS,gP ⟨rfl,oo,rfl,trivial⟩]
theorem O0n(d:r6)(l:List m6)(x:o4)(f:wf y31 d)(c:wf (.sl y64) l)(k:wf y139 x):LO d l x=some (Q7 l.length (Y6 l) d.2.1.length x):=by
 have h:=c.1;have b:=k.2.2.1;have e:Fw l=some (l.length:Int):=rfl;have j:∀y,LN y d=some (!m0 y 0 ((d.2.1.length:Int)-1)):=fun y=>by
  unfold LN;rw[M0t d f,gP ⟨rfl,trivial⟩,vS]
 have n:PG x.2.2 d=_:=CE b (fun i=>!m0 (x.2.2.getD i 0) 0 ((d.2.1.length:Int)-1)) (fun g i hi=>HD hi b (j _)) (fun g=>aE);have a:PH x.2.2 d=_:=HE n;rw[T5 x.2.2 0 (fun y=>!m0 y 0 ((d.2.1.length:Int)-1))] at a;unfold LO;rw[e,a]
 repeat rw[vS]
 rw[V8,vS,gP ⟨rfl,oo,rfl,fun m=>by
  have:=y9.1 m.1;exact oo,fun _=>rfl,trivial⟩,Bg]
 rfl
theorem O0o(d:r6)(e:wf y31 d)(u:cnt y31 d<=1048576):PM d=some (decide (d.1.length<=14)&&decide (d.2.1.length<=30)&&decide (d.2.2.length<=8)&&C9 d.1.length (fun i=>(m9 d i).1)&&C9 d.2.1.length (fun i=>d.2.1.getD i (b7 .str))&&C9 d.2.2.length (fun i=>(A5 d i).1)):=by
 have a:=e.1.1;have f:=e.2.2.1;have o:d.1.length<=1048576:=BR (cF u);have r:d.2.2.length<=1048576:=BR (cS (cS u));have q:=lF (n:=d.1.length) a (fun i (s:List ByteArray)=>(s,(i:Int))) (Y4 fun i=>(m9 d i).1) (fun i s=>s.length=i) (J:=LQ d) (F:=B0l d) (fun g i s hi l=>by
  have k:((i:Int)).toNat=i:=rfl;have T:=Ri (b:=16) hi o (by decide);refine(if_pos (by grind)).trans ?_;rw[k,gP ⟨oo,trivial⟩,lE,gP ⟨⟨by grind,by grind⟩,trivial⟩,gP ⟨oo,trivial⟩];rfl) (fun i s hi l=>by grind[Y4,List.length_append]) (fun g s _=>aE) [] rfl
 refine q.trans ?_;rw[JO d.1 (b7 y139) (fun c:o4=>c.1)];have t:wf (.sl .str) (d.1.map fun c:o4=>c.1):=JN a fun x j=>(e.1.2 x j).1;have m:wf (.sl .str) (d.2.2.map fun c:r8=>c.1):=JN f fun x j=>(e.2.2.2 x j).1;have Q:∀v:List ByteArray,wf (.sl .str) v->v.length=d.1.length->LQ d v=some (decide (d.1.length<=14)&&decide (d.2.1.length<=30)&&decide (d.2.2.length<=8)&&(C9 v.length fun i=>v.getD i (b7 .str))&&C9 d.2.1.length (fun i=>d.2.1.getD i (b7 .str))&&C9 d.2.2.length (fun i=>(A5 d i).1)):=fun v w G=>by
  rw[LQ];have h:=lF (n:=d.2.2.length) f (fun i (s:List ByteArray)=>(s,(i:Int))) (Y4 fun i=>(A5 d i).1) (fun i s=>s.length=i) (J:=LP v d) (F:=B0k d v) (fun g i s hi l=>by
   have k:((i:Int)).toNat=i:=rfl;have T:=Ri (b:=16) hi r (by decide);refine(if_pos (by grind)).trans ?_;rw[k,gP ⟨oo,trivial⟩,lE,gP ⟨⟨by grind,by grind⟩,trivial⟩,gP ⟨oo,trivial⟩];rfl) (fun i s hi l=>by grind[Y4,List.length_append]) (fun g s _=>aE) [] rfl
  refine h.trans ?_;rw[JO d.2.2 (b7 y202) (fun c:r8=>c.1)];have V:∀z:List ByteArray,wf (.sl .str) z->z.length=d.2.2.length->LP v d z=some (decide (d.1.length<=14)&&decide (d.2.1.length<=30)&&decide (d.2.2.length<=8)&&(C9 v.length fun i=>v.getD i (b7 .str))&&C9 d.2.1.length (fun i=>d.2.1.getD i (b7 .str))&&C9 z.length (fun i=>z.getD i (b7 .str))):=fun z hz y=>by
   have P:decide ((v.length:Int)<=14)=decide (d.1.length<=14):=by rw[decide_eq_decide]; omega
   have H:decide ((d.2.1.length:Int)<=30)=decide (d.2.1.length<=30):=by rw[decide_eq_decide]; omega
   have E:decide ((z.length:Int)<=8)=decide (d.2.2.length<=8):=by rw[decide_eq_decide]; omega
   rw[LP,Nj _ w,Nj _ hz,Nj _ e.2.1,vS,vS,vS,gP ⟨fun _=>rfl,fun _=>rfl,fun _=>rfl,trivial⟩,P,H,E]
  rw[V _ m (List.length_map _),JM d.2.2 (fun c:r8=>c.1) (b7 y202)]
 rw[Q _ t (List.length_map _),JM d.1 (fun c:o4=>c.1) (b7 y139)]
theorem Rj{l:List m6}(h:Dx l=true){x:Int}(b:m0 x 0 ((l.length:Int)-1)=true):2<=Y6 l x/\Y6 l x<=5:=by
 have h:CC _ _ _=true:=h;unfold CC at h;rw[ba] at h;rw[y9] at b;have:=BM.1 h.1 x.toNat (by omega);rw[Bool.or_eq_false_iff,Bool.not_eq_false'] at this;have a:V5 F3 _ _ _ _ _ _ _ _ _=true:=this.1;unfold V5 at a;simp only[ba] at a;have:=JB a.1.1.1.1.2
 grind
theorem WH{a b:Nat}{pins:Int->Nat}{x:D8}(h:Q7 a pins b x=true)(c:∀y,m0 y 0 ((a:Int)-1)=true->2<=pins y):1<=x.2.2.length/\m0 (x.2.2.getD (x.2.2.length-1) 0) 0 ((b:Int)-1)=true:=by
 grind[Q7]
theorem O0f(l:List m6)(d:r6)(q:wf (.sl y64) l)(c:wf y31 d):Pp l d=some (!((List.range d.1.length).any fun i=>!Q7 l.length (Y6 l) d.2.1.length (m9 d i))&&!((List.range d.2.2.length).any fun i=>!Q8 d.2.1.length (A5 d i))):=by
 have h:=q.1;have m:=c.1.1;have j:=c.2.2.1;have s:=c.2.1.1;have w:Po d ()=some (!((List.range d.2.2.length).any fun i=>!Q8 d.2.1.length (A5 d i))):=by
  have b:=F1 (n:=d.2.2.length) j (fun i=>!Q8 d.2.1.length (A5 d i)) (some false) (e:=some true) (F:=A0X d) (fun g i hi=>by
   have f:((i:Int)).toNat=i:=rfl;refine(if_pos (by grind)).trans ?_;rw[f,R2,R2,vS,vS,gP ⟨oo,rfl,fun _=>oo,fun _=>oo,fun _=>rfl,trivial⟩,gP ⟨oo,trivial⟩]
   grind[Q8,Bool.not_and]) (fun g=>aE)
  refine b.trans ?_;cases(List.range d.2.2.length).any fun i=>!Q8 d.2.1.length (A5 d i) <;> rfl
 have b:=F1 (n:=d.1.length) m (fun i=>!Q7 l.length (Y6 l) d.2.1.length (m9 d i)) (some false) (e:=Po d ()) (F:=A0Z d l) (fun g i hi=>by
  have f:((i:Int)).toNat=i:=rfl;have t:=Y3 (d:=b7 y139) hi c.1;have o:=t.2.2.1;refine(if_pos (by grind)).trans ?_;rw[f,gP ⟨oo,trivial⟩,lE,R2,vS,gP ⟨oo,rfl,fun v=>by
   have:=v.1;rw[Bool.not_eq_false'] at this;have:=y9.1 this;exact oo,trivial⟩]
  have a:=F1 (n:=(m9 d i).2.2.length) o (fun k=>!m0 ((m9 d i).2.2.getD k 0) 0 ((d.2.1.length:Int)-1)) (some false) (e:=g ((i:Int)+1)) (F:=A0Y (m9 d i) d (i:Int) g) (fun r k u=>by
   refine(BP u o ⟨oo,oo,rfl,trivial⟩).trans ?_;rfl) (fun r=>by
   refine aE.trans ?_;exact gP ⟨oo,trivial⟩)
  rw[T5 (m9 d i).2.2 0 (fun y=>!m0 y 0 ((d.2.1.length:Int)-1))] at a;rw[a];unfold Q7
  grind[Bg]) (fun g=>aE)
 refine b.trans ?_
 grind
theorem q0q(v:List Int):(!v.any fun x=>x != 1)=v.all (·==1):=Bg v (fun x=>x==1)
theorem WI{n b:Nat}(h:n<=1048576)(a:b<=4096):(0<=(n:Int)/\(n:Int)=(n:Int)/\(n:Int).toNat*b<=281474976710656/\(n:Int)<=9223372036854775807)/\True:=by
 have c:n*b<=1048576*4096:=Nat.mul_le_mul h a;exact⟨⟨by omega,rfl,by rw[Int.toNat_natCast]; omega,by omega⟩,trivial⟩
theorem Np{v:List Int}{n b:Nat}{x:Int}(h:Ab v n b)(e:b<=2097152)(d:m0 x 0 ((n:Int)-1)=true):ix x v.length/\x.toNat<v.length/\c9 (v.getD x.toNat 0+1)/\ix x v.length/\x.toNat<v.length/\True:=by
 obtain⟨c,a⟩:=y0Q h d;have:=h.2 x.toNat;exact⟨c,a,oo,c,a,trivial⟩
theorem Rl{n:Nat}(a:1<=n)(h:n<=9223372036854775807):c9 ((n:Int)-1)/\ix ((n:Int)-1) n:=⟨oo,oo⟩
theorem r82(l:List m6)(d:r6)(E:wf (.sl y64) l)(c:wf y31 d)(W:cnt (.sl y64) l<=1048576)(md:cnt y31 d<=1048576):Mb l d=some (HI l d):=by
 have m:=c.1.1;have s:=c.2.2.1;have mi:d.1.length<=1048576:=BR (cF md);have H:d.2.1.length<=1048576:=BR (cF (cS md));have Y:d.2.2.length<=1048576:=BR (cS (cS md));show _=some (CD _ _ _ _ _ _ _ _ _);unfold Mb CD;rw[O0p l E W,O0o d c md,vS,vS,gP ⟨rfl,fun _=>rfl,trivial⟩];cases hlo:Dx l with
 | false=>grind
 | true =>
   rw[Bool.true_and];cases hno:(decide (d.1.length<=14)&&decide (d.2.1.length<=30)&&decide (d.2.2.length<=8)&&C9 d.1.length (fun i=>(m9 d i).1)&&C9 d.2.1.length (fun i=>d.2.1.getD i (b7 .str))&&C9 d.2.2.length (fun i=>(A5 d i).1)) with
   | false=>grind
   | true =>
     refine(if_neg (by simp)).trans ?_;rw[gP (WI H (by decide)),Int.toNat_natCast];have h:∀y,m0 y 0 ((l.length:Int)-1)=true->2<=Y6 l y:=fun y P=>(Rj hlo P).1;have t:=Nl (n:=d.1.length) m (fun i (v:List Int)=>((i:Int),v)) (T6 (m9 d)) (fun i=>!Q7 l.length (Y6 l) d.2.1.length (m9 d i)) (some false) (fun i v=>i<=d.1.length/\Ab v d.2.1.length i) (J:=Qc d) (F:=G0g d l) (fun g i v hi e=>by
      have o:((i:Int)).toNat=i:=rfl;have G:=Y3 (d:=b7 y139) hi c.1;refine(if_pos (by grind)).trans ?_;rw[o,gP ⟨oo,trivial⟩,lE,O0n d l _ c E G,vS,gP ⟨rfl,trivial⟩];cases hin:Q7 l.length (Y6 l) d.2.1.length (m9 d i) with
      | false=>rfl
      | true =>
        obtain⟨r,Q⟩:=WH hin h;have a:(m9 d i).2.2.length<=9223372036854775807:=G.2.2.1;refine(if_neg (by simp)).trans ?_;rw[Nn r,gP ⟨(Rl r a).1,(Rl r a).2,Np e.2 (by omega) Q⟩,lE,gP ⟨oo,trivial⟩];rfl) (fun i v hi e _=>⟨by omega,JE e.2 _⟩) (fun g v _=>aE) (List.replicate d.2.1.length 0) ⟨by omega,Rb _ _⟩
     refine t.trans ?_;cases hia:(List.range d.1.length).any fun i=>!Q7 l.length (Y6 l) d.2.1.length (m9 d i) with
     | true=>simp
     | false =>
       refine(if_neg (by simp)).trans ?_;have b:=Wl (m9 d) d.2.1.length d.1.length;unfold FI;generalize fN (T6 (m9 d)) d.1.length (List.replicate d.2.1.length 0)=v0 at *
       rw[Qc];have j:=Nl (n:=d.2.2.length) s (fun i (v:List Int)=>((i:Int),v)) (M0 (A5 d)) (fun i=>!Q8 d.2.1.length (A5 d i)) (some false) (fun i v=>i<=d.2.2.length/\Ab v d.2.1.length (d.1.length+i)) (J:=Ma) (F:=G0f d) (fun g i v hi e=>by
        have o:((i:Int)).toNat=i:=rfl;have w:∀q,Qb (i:Int) g q=g (((i+1:Nat):Int),q):=fun q=>gP ⟨oo,trivial⟩;refine(if_pos (by grind)).trans ?_;rw[o,gP ⟨oo,trivial⟩,lE,M0t d c,vS,gP ⟨fun _=>rfl,trivial⟩,w,w];have V:((A5 d i).2.1 != 1&&(A5 d i).2.1 != 2||!m0 (A5 d i).2.2 0 ((d.2.1.length:Int)-1))=!Q8 d.2.1.length (A5 d i):=by
         unfold Q8;rw[Bool.not_and];congr 1;rw[Bool.eq_iff_iff];simp only[ba,bne_iff_ne,Bool.not_eq_true',<- Bool.not_eq_true,y9];omega
        show(if((A5 d i).2.1 != 1&&(A5 d i).2.1 != 2||!m0 (A5 d i).2.2 0 ((d.2.1.length:Int)-1))=true then some false else _)=_;rw[V];cases hpo:Q8 d.2.1.length (A5 d i) with
        | false=>rfl
        | true =>
          have f:m0 (A5 d i).2.2 0 ((d.2.1.length:Int)-1)=true:=by
           unfold Q8 at hpo;rw[ba] at hpo;exact hpo.2
          refine(if_neg (by simp)).trans ?_;show _=g (_,M0 (A5 d) i v);unfold M0;by_cases z:(A5 d i).2.1=1
          ·rw[if_pos (beq_iff_eq.2 z),if_pos z];exact gP (Np e.2 (by omega) f)
          grind) (fun i v hi e _=>⟨by omega,by
          grind[M0,JE,Wk]⟩) (fun g v _=>aE) v0 ⟨by omega,b⟩
       refine j.trans ?_;cases hpa:(List.range d.2.2.length).any fun i=>!Q8 d.2.1.length (A5 d i) with
       | true=>simp
       | false =>
         refine(if_neg (by simp)).trans ?_;have k:∀v:List Int,v.length<=9223372036854775807->Ma v=some (v.all (·==1)):=fun v k=>by
          have T:PZ v=_:=CE k (fun i=>v.getD i 0 != 1) (fun g i hi=>HD hi k rfl) (fun g=>aE);have u:Qa v=_:=HE T;rw[T5 v 0 (fun x=>x != 1)] at u;rw[Ma,u,vS,gP ⟨rfl,trivial⟩,q0q]
         have a:(fN (M0 (A5 d)) d.2.2.length v0).length<=9223372036854775807:=by
          have:∀n,(fN (M0 (A5 d)) n v0).length=v0.length:=by
           intro n
           induction n with
           | zero=>rfl
           | succ n X =>
             grind[fN,M0,BL,List.length_set]
          rw[this,b.1]; omega
         grind
theorem r92(l:List m6)(d:r6)(hl:wf (.sl y64) l)(k:wf y31 d)(md:cnt y31 d<=1048576):Lu l d=some (HI l d):=by
 have m:=k.1.1;have r:=k.2.2.1;have mi:d.1.length<=1048576:=BR (cF md);have mn:d.2.1.length<=1048576:=BR (cF (cS md));have mp:d.2.2.length<=1048576:=BR (cS (cS md));show _=some (CD _ _ _ _ _ _ _ _ _);unfold Lu;rw[O0g l hl,O0f l d hl k,vS,vS,gP ⟨rfl,fun _=>rfl,trivial⟩];by_cases o:Dx l=true/\d.1.length<=14/\d.2.1.length<=30/\d.2.2.length<=8/\((List.range d.1.length).any fun i=>!Q7 l.length (Y6 l) d.2.1.length (m9 d i))=false/\((List.range d.2.2.length).any fun i=>!Q8 d.2.1.length (A5 d i))=false
 ·obtain⟨H,V,X,h8,Q,P⟩:=o;have a1:decide (14 < (d.1.length:Int))=false:=decide_eq_false (by omega);have a2:decide (30 < (d.2.1.length:Int))=false:=decide_eq_false (by omega);have a3:decide (8 < (d.2.2.length:Int))=false:=decide_eq_false (by omega);rw[H,a1,a2,a3,Q,P];refine(if_neg (by simp)).trans ?_;have G:∀y,m0 y 0 ((l.length:Int)-1)=true->2<=Y6 l y:=fun y hy=>(Rj H hy).1;have T:∀i,i<d.1.length->Q7 l.length (Y6 l) d.2.1.length (m9 d i)=true:=fun i hi=>by
   grind
  have t:∀i,i<d.2.2.length->Q8 d.2.1.length (A5 d i)=true:=fun i hi=>by
   grind
  have VD:∀v:List Int,v.length<=9223372036854775807->Lq v=some (v.all (·==1)):=fun v u=>by
   rw[Lq];have a:=F1 (n:=v.length) u (fun i=>v.getD i 0 != 1) (some false) (e:=some true) (F:=A0h v) (fun g i hi=>by
    refine(BP hi u ⟨oo,by omega,trivial⟩).trans ?_;rfl) (fun g=>aE)
   refine a.trans ?_;rw[T5 v 0 (fun x=>x != 1),<- q0q]
   grind
  have k7:∀v:List Int,Ab v d.2.1.length d.1.length->Lr d v=some ((fN (M0 (A5 d)) d.2.2.length v).all (·==1)):=fun v0 j=>by
   rw[Lr];have a:=lF (n:=d.2.2.length) r (fun i (v:List Int)=>((i:Int),v)) (M0 (A5 d)) (fun i v=>i<=d.2.2.length/\Ab v d.2.1.length (d.1.length+i)) (J:=Lq) (F:=F0T d) (fun g i v hi b=>by
    have q:((i:Int)).toNat=i:=rfl;have j8:∀Y,Pv (i:Int) g Y=g (((i+1:Nat):Int),Y):=fun Y=>gP ⟨oo,trivial⟩;have w:m0 (A5 d i).2.2 0 ((d.2.1.length:Int)-1)=true:=by
     have:=t i hi;unfold Q8 at this;rw[ba] at this;exact this.2
    refine(if_pos (by grind)).trans ?_;rw[q,gP ⟨oo,trivial⟩,j8];show(if((A5 d i).2.1==1)=true then _ else _)=g (_,M0 (A5 d) i v);unfold M0;by_cases k1:(A5 d i).2.1=1
    ·rw[if_pos (beq_iff_eq.2 k1),if_pos k1];refine(gP ⟨oo,Np b.2 (by omega) w⟩).trans ?_;rw[lE];exact j8 _
    grind) (fun i v hi b=>⟨by omega,by
    grind[M0,JE,Wk]⟩) (fun g v _=>aE) v0 ⟨by omega,j⟩
   refine a.trans (VD _ ?_);have:∀n,(fN (M0 (A5 d)) n v0).length=v0.length:=by
    intro n
    induction n with
    | zero=>rfl
    | succ n ih =>
      grind[fN,M0,BL,List.length_set]
   rw[this,j.1]; omega
  have k5:lp (Ui d) ((0:Int),List.replicate d.2.1.length 0)=some ((FI d.1.length d.2.2.length d.2.1.length (m9 d) (A5 d)).all (·==1)):=by
   have a:=lF (n:=d.1.length) m (fun i (v:List Int)=>((i:Int),v)) (T6 (m9 d)) (fun i v=>i<=d.1.length/\Ab v d.2.1.length i) (J:=Lr d) (F:=Ui d) (fun g i v hi b=>by
    have q:((i:Int)).toNat=i:=rfl;have E:=Y3 (d:=b7 y139) hi k.1;obtain⟨g1,g2⟩:=WH (T i hi) G;have h:(m9 d i).2.2.length<=9223372036854775807:=E.2.2.1;refine(if_pos (by grind)).trans ?_;rw[q,gP ⟨oo,trivial⟩,lE,Nn g1,gP ⟨(Rl g1 h).1,(Rl g1 h).2,Np b.2 (by omega) g2⟩,lE,gP ⟨oo,trivial⟩];rfl) (fun i v hi b=>⟨by omega,JE b.2 _⟩) (fun g v _=>aE) (List.replicate d.2.1.length 0) ⟨by omega,Rb _ _⟩
   refine a.trans (k7 _ (Wl _ _ _))
  have aA:wf (.sl .str) (d.1.map fun c:o4=>c.1):=JN m fun x E=>(k.1.2 x E).1;have W:wf (.sl .str) (d.2.2.map fun c:r8=>c.1):=JN r fun x E=>(k.2.2.2 x E).1;have k2:∀v z:List ByteArray,wf (.sl .str) v->wf (.sl .str) z->Ls d v z=some ((C9 v.length fun i=>v.getD i (b7 .str))&&(C9 z.length fun i=>z.getD i (b7 .str))&&C9 d.2.1.length (fun i=>d.2.1.getD i (b7 .str))&&(FI d.1.length d.2.2.length d.2.1.length (m9 d) (A5 d)).all (·==1)):=fun v z u hz=>by
   rw[Ls,Wz _ u,Wz _ hz,Wz _ k.2.1,vS,vS,vS,gP ⟨rfl,fun _=>rfl,fun _=>rfl,trivial⟩,gP (WI mn (by decide)),Int.toNat_natCast,k5];cases(C9 v.length fun i=>v.getD i (b7 .str)) <;> cases(C9 z.length fun i=>z.getD i (b7 .str)) <;> cases C9 d.2.1.length (fun i=>d.2.1.getD i (b7 .str)) <;> rfl
  have k3:∀v:List ByteArray,wf (.sl .str) v->Lt d v=some ((C9 v.length fun i=>v.getD i (b7 .str))&&C9 d.2.2.length (fun i=>(A5 d i).1)&&C9 d.2.1.length (fun i=>d.2.1.getD i (b7 .str))&&(FI d.1.length d.2.2.length d.2.1.length (m9 d) (A5 d)).all (·==1)):=fun v u=>by
   rw[Lt];have a:=lF (n:=d.2.2.length) r (fun i (s:List ByteArray)=>((i:Int),s)) (Y4 fun i=>(A5 d i).1) (fun i s=>s.length=i) (J:=Ls d v) (F:=F0U d v) (fun g i s hi b=>by
    have q:((i:Int)).toNat=i:=rfl;refine(if_pos (by grind)).trans ?_;rw[q,gP ⟨oo,⟨by grind,by grind⟩,trivial⟩,gP ⟨oo,trivial⟩];rfl) (fun i s hi b=>by grind[Y4,List.length_append]) (fun g s _=>aE) [] rfl
   refine a.trans ?_;rw[JO d.2.2 (b7 y202) (fun c:r8=>c.1),k2 _ _ u W,JM d.2.2 (fun c:r8=>c.1) (b7 y202)]
  have a:=lF (n:=d.1.length) m (fun i (s:List ByteArray)=>((i:Int),s)) (Y4 fun i=>(m9 d i).1) (fun i s=>s.length=i) (J:=Lt d) (F:=F0V d) (fun g i s hi b=>by
   have q:((i:Int)).toNat=i:=rfl;refine(if_pos (by grind)).trans ?_;rw[q,gP ⟨oo,⟨by grind,by grind⟩,trivial⟩,gP ⟨oo,trivial⟩];rfl) (fun i s hi b=>by grind[Y4,List.length_append]) (fun g s _=>aE) [] rfl
  refine a.trans ?_;rw[JO d.1 (b7 y139) (fun c:o4=>c.1),k3 _ aA,JM d.1 (fun c:o4=>c.1) (b7 y139)];unfold CD;rw[Q,P,decide_eq_true V,decide_eq_true X,decide_eq_true h8];cases C9 d.1.length (fun i=>(m9 d i).1) <;> cases C9 d.2.1.length (fun i=>d.2.1.getD i (b7 .str)) <;> cases C9 d.2.2.length (fun i=>(A5 d i).1) <;> rfl
 ·have e0:(!Dx l||decide (14 < (d.1.length:Int))||decide (30 < (d.2.1.length:Int))||decide (8 < (d.2.2.length:Int))||!(!((List.range d.1.length).any fun i=>!Q7 l.length (Y6 l) d.2.1.length (m9 d i))&&!((List.range d.2.2.length).any fun i=>!Q8 d.2.1.length (A5 d i))))=true:=by
   rw[<- Bool.not_eq_false];intro f;simp only[Bool.or_eq_false_iff,Bool.not_eq_false',decide_eq_false_iff_not,ba,Bool.not_eq_true'] at f;exact o ⟨f.1.1.1.1,by omega,by omega,by omega,f.2.1,f.2.2⟩
  refine(if_pos e0).trans ?_;refine congrArg some ?_
  symm
  rw[<- Bool.not_eq_true];intro f;unfold CD at f;simp only[ba,dq,Bool.not_eq_true'] at f;obtain⟨⟨⟨⟨⟨⟨⟨⟨⟨c1,c2⟩,c3⟩,c4⟩,_⟩,_⟩,_⟩,c5⟩,c6⟩,_⟩:=f;exact o ⟨c1,c2,c3,c4,c5,c6⟩
abbrev Nq(w:x9)(i:Nat):Bool:=(i==0&&(w.1.getD i 0 != -1||w.2.1.getD 0 0 != 0))||(decide (0<i)&&!m0 (w.1.getD i 0) 0 ((i:Int)-1))
theorem O0m(w:x9)(c:wf l9 w)(j:w.2.1.length=w.1.length):Cu w=some (!(List.range w.1.length).any (Nq w)):=by
 have h:=c.1.1;have a:=F1 (n:=w.1.length) h (Nq w) (some false) (e:=some true) (F:=B0i w) (fun g i hi=>by
  have d:((i:Int)).toNat=i:=rfl;have f:((i:Int)==0)=(i==0):=by rw[Bool.eq_iff_iff,beq_iff_eq,beq_iff_eq]; omega
  have b:decide ((0:Int) < (i:Int))=decide (0<i):=by rw[decide_eq_decide]; omega
  refine(if_pos (by simpa using hi)).trans ?_;rw[d,f,b,V8,vS,gP ⟨oo,trivial⟩,gP ⟨fun _=>oo,fun _=>oo,fun _=>rfl,trivial⟩,gP ⟨oo,trivial⟩];rfl) (fun g=>aE)
 refine a.trans ?_
 grind
theorem r84(w:x9)(n:Int)(d:wf l9 w):LM w n=some (Bh w n):=by
 obtain⟨⟨i,_⟩,⟨f,_⟩,⟨h,_⟩,g,_⟩:=id d;have e:∀xs:List Int,D5 xs=some (xs.length:Int):=fun _=>rfl;unfold LM;rw[e,e,e,e]
 repeat rw[vS]
 rw[gP ⟨rfl,trivial⟩,lE,V8,HF _ _ _ f,HF _ _ _ h,HF _ _ _ g]
 repeat rw[vS]
 by_cases b:(m0 (w.1.length:Int) 1 8&&(w.2.1.length:Int)==(w.1.length:Int)&&(w.2.2.1.length:Int)==(w.1.length:Int))=true
 ·have c:=b;simp only[ba,beq_iff_eq,y9] at c;rw[O0m w d (by omega),vS,gP ⟨rfl,fun _=>rfl,fun _=>rfl,fun _=>rfl,fun _=>rfl,fun _=>rfl,fun _=>rfl,fun _=>oo,fun _=>rfl,trivial⟩,lE];refine congrArg some ?_;rw[b];unfold Bh;rw[decide_eq_true (show 1<=w.1.length by omega),decide_eq_true (show w.1.length<=8 by omega),decide_eq_true (show w.2.1.length=w.1.length by omega),decide_eq_true (show w.2.2.1.length=w.1.length by omega)];cases(List.range w.1.length).any (Nq w) <;> cases w.2.1.all (m0 · 0 1000) <;> cases w.2.2.1.all (m0 · 0 500) <;> cases(w.2.2.2.length:Int)==n <;> cases w.2.2.2.all (m0 · 0 ((w.1.length:Int)-1)) <;> rfl
 ·have c:(m0 (w.1.length:Int) 1 8&&(w.2.1.length:Int)==(w.1.length:Int)&&(w.2.2.1.length:Int)==(w.1.length:Int))=false:=by simpa using b
  rw[c,gP ⟨rfl,fun _=>rfl,fun _=>rfl,fun a=>by simp at a,fun a=>by simp at a,fun a=>by simp at a,fun a=>by simp at a,fun a=>by simp at a,fun a=>by simp at a,trivial⟩,lE];refine congrArg some ?_;rw[c];simp only[Bool.false_and]
  symm
  rw[<- Bool.not_eq_true];intro a;unfold Bh at a;simp only[ba,dq] at a;refine b ?_;simp only[ba,beq_iff_eq,y9];omega
theorem r93(w:x9)(n:Int)(o:wf l9 w):Lf w n=some (Bh w n):=by
 obtain⟨⟨u,_⟩,⟨v,_⟩,⟨y,_⟩,j,_⟩:=id o;unfold Lf;by_cases a:1<=w.1.length/\w.1.length<=8/\w.2.1.length=w.1.length/\w.2.2.1.length=w.1.length/\(w.2.2.2.length:Int)=n
 ·obtain⟨l,t,f,d,r⟩:=a;have b:(decide ((w.1.length:Int)<1)||decide (8 < (w.1.length:Int))||(w.2.1.length:Int) != (w.1.length:Int)||(w.2.2.1.length:Int) != (w.1.length:Int)||(w.2.2.2.length:Int) != n)=false:=by
   rw[<- Bool.not_eq_true]; simp; omega
  refine(if_neg (by rw[b]; simp)).trans ?_;have c:=F1 (n:=w.2.2.2.length) j (fun i=>!m0 (w.2.2.2.getD i 0) 0 ((w.1.length:Int)-1)) (some false) (e:=some true) (F:=F0Q w) (fun g i hi=>BP hi j ⟨oo,oo,rfl,trivial⟩) (fun g=>aE);rw[T5 w.2.2.2 0 (fun x=>!m0 x 0 ((w.1.length:Int)-1))] at c;have s:=F1 (n:=w.1.length) u (fun i=>(!m0 (w.2.2.1.getD i 0) 0 500||!m0 (w.2.1.getD i 0) 0 1000)||Nq w i) (some false) (e:=Pl w ()) (F:=F0R w) (fun g i hi=>by
   have q:((i:Int)).toNat=i:=rfl;have b:((i:Int)==0)=(i==0):=by rw[Bool.eq_iff_iff,beq_iff_eq,beq_iff_eq]; omega
   have m:decide ((0:Int) < (i:Int))=decide (0<i):=by rw[decide_eq_decide]; omega
   refine(if_pos (by simpa using hi)).trans ?_;rw[q,b,m,R2,R2,R2]
   repeat rw[vS]
   rw[gP ⟨oo,rfl,fun _=>oo,fun _=>rfl,trivial⟩,gP ⟨fun _=>oo,fun _=>oo,fun _=>oo,fun _=>oo,fun _=>rfl,trivial⟩,gP ⟨oo,trivial⟩]
   grind) (fun g=>aE)
  refine s.trans ?_;rw[Rc,Rc];have h:=T5 w.2.2.1 0 (fun x=>!m0 x 0 500);have k:=T5 w.2.1 0 (fun x=>!m0 x 0 1000);rw[d] at h;rw[f] at k;rw[h,k];unfold Pl;rw[c];unfold Bh;rw[decide_eq_true l,decide_eq_true t,decide_eq_true f,decide_eq_true d,beq_iff_eq.2 r,<- Bg,<- Bg,<- Bg];cases(List.range w.1.length).any (Nq w) <;> cases w.2.1.any (fun x=>!m0 x 0 1000) <;> cases w.2.2.1.any (fun x=>!m0 x 0 500) <;> cases w.2.2.2.any (fun x=>!m0 x 0 ((w.1.length:Int)-1)) <;> rfl
 grind[decide,trans,Bh]
theorem Rm(d:r6)(j:wf y31 d)(t:d.1.length<=14)(E:d.2.2.length<=8)(l:∀i,i<d.1.length->1<=(m9 d i).2.2.length/\(m9 d i).2.2.length<=5):BD d=some (L7 d.1.length d.2.2.length (m9 d) (A5 d)):=by
 have h:=j.1.1;have e:=j.2.2.1;unfold BD;have u:∀s:List B6,s.length<=70->LA d s=some (fN (P1 (A5 d)) d.2.2.length s):=fun m y=>by
  rw[LA];exact lF (n:=d.2.2.length) e (fun i (s:List B6)=>((i:Int),s)) (P1 (A5 d)) (fun i s=>s.length=m.length+i) (J:=fun s=>some s) (F:=G0b d) (fun g i s hi c=>by
   have b:((i:Int)).toNat=i:=rfl;refine(if_pos (by grind)).trans ?_;rw[b,gP ⟨oo,trivial⟩,lE,gP ⟨⟨by grind,by grind⟩,trivial⟩,gP ⟨oo,trivial⟩];rfl) (fun i s hi c=>by grind[P1,List.length_append]) (fun g s _=>aE) m rfl
 have f:=lF (n:=d.1.length) h (fun i (s:List B6)=>(s,(i:Int))) (O7 (m9 d)) (fun i s=>s.length<=5*i) (J:=LA d) (F:=G0d d) (fun g i s hi c=>by
  have b:((i:Int)).toNat=i:=rfl;have w:=(l i hi).2;have r:(m9 d i).2.2.length<=9223372036854775807:=by omega
  refine(if_pos (by grind)).trans ?_;rw[b,gP ⟨oo,trivial⟩,lE];have a:=lF (n:=(m9 d i).2.2.length) r (fun k (s:List B6)=>((k:Int),s)) (T7 (m9 d i) i) (fun k z=>z.length=s.length+k) (J:=Um (i:Int) g) (F:=G0c (i:Int) (m9 d i) g) (fun o k z v hz=>by
   have q:((k:Int)).toNat=k:=rfl;refine(if_pos (by grind)).trans ?_;rw[q,gP ⟨oo,trivial⟩,gP ⟨oo,⟨by grind,by grind⟩,trivial⟩,lE];exact gP ⟨oo,trivial⟩) (fun k z v hz=>by grind[T7,List.length_append]) (fun o z _=>aE) s rfl
  refine a.trans ?_;exact gP ⟨oo,trivial⟩) (fun i s hi c=>by
  grind[O7,HB]) (fun g s _=>aE) [] (Nat.zero_le _)
 refine f.trans (u _ ?_);have:=Rd (x:=m9 d) (ni:=d.1.length) (fun i hi=>(l i hi).2) d.1.length (Nat.le_refl _);omega
theorem Dy(d:r6)(j:wf y31 d)(t:d.1.length<=14)(E:d.2.2.length<=8)(l:∀i,i<d.1.length->1<=(m9 d i).2.2.length/\(m9 d i).2.2.length<=5):I5 d=some (L7 d.1.length d.2.2.length (m9 d) (A5 d)):=by
 have h:=j.1.1;have e:=j.2.2.1;unfold I5;have u:∀s:List D0,s.length<=70->IM d s=some (fN (P1 (A5 d)) d.2.2.length s):=fun m y=>by
  rw[IM];exact lF (n:=d.2.2.length) e (fun i (s:List D0)=>((i:Int),s)) (P1 (A5 d)) (fun i s=>s.length=m.length+i) (J:=fun s=>some s) (F:=TN d) (fun g i s hi c=>by
   have b:((i:Int)).toNat=i:=rfl;refine(if_pos (by grind)).trans ?_;rw[b,gP ⟨oo,oo,⟨by grind,by grind⟩,trivial⟩,lE];exact gP ⟨oo,trivial⟩) (fun i s hi c=>by grind[P1,List.length_append]) (fun g s _=>aE) m rfl
 have f:=lF (n:=d.1.length) h (fun i (s:List D0)=>((i:Int),s)) (O7 (m9 d)) (fun i s=>s.length<=5*i) (J:=IM d) (F:=TP d) (fun g i s hi c=>by
  have b:((i:Int)).toNat=i:=rfl;have w:=(l i hi).2;have r:(m9 d i).2.2.length<=9223372036854775807:=by omega
  refine(if_pos (by grind)).trans ?_;rw[b,gP ⟨oo,trivial⟩,lE];have a:=lF (n:=(m9 d i).2.2.length) r (fun k (s:List D0)=>((k:Int),s)) (T7 (m9 d i) i) (fun k z=>z.length=s.length+k) (J:=OY (i:Int) g) (F:=TO (i:Int) (m9 d i) g) (fun o k z v hz=>by
   have q:((k:Int)).toNat=k:=rfl;refine(if_pos (by grind)).trans ?_;rw[q,gP ⟨oo,oo,⟨by grind,by grind⟩,trivial⟩,lE];exact gP ⟨oo,trivial⟩) (fun k z v hz=>by grind[T7,List.length_append]) (fun o z _=>aE) s rfl
  refine a.trans ?_;exact gP ⟨oo,trivial⟩) (fun i s hi c=>by
  grind[O7,HB]) (fun g s _=>aE) [] (Nat.zero_le _)
 refine f.trans (u _ ?_);have:=Rd (x:=m9 d) (ni:=d.1.length) (fun i hi=>(l i hi).2) d.1.length (Nat.le_refl _);omega
abbrev r4(d:r6):List B2:=L7 d.1.length d.2.2.length (m9 d) (A5 d)
abbrev u4(d:r6)(i:Nat):B2:=(r4 d).getD i (b7 y151)
abbrev m3(b:j6)(i:Nat):x9:=b.2.2.getD i (b7 l9)
def p6(b:j6):Bool:=HI b.1 b.2.1&&decide (b.2.2.length=b.2.1.2.1.length)&&!(List.range b.2.2.length).any fun i=>!Bh (m3 b i) (Y1 (u4 b.2.1) i (r4 b.2.1).length)
structure DF(l:List m6)(d:r6):Prop where
 lib:Dx l=true
 fac:DesignFacts l.length (Y6 l) d.1.length d.2.2.length d.2.1.length (m9 d) (A5 d)
 pin:∀i,i<d.1.length->1<=(m9 d i).2.2.length/\(m9 d i).2.2.length<=5
 plc:JF d.2.1.length (r4 d)
 len:(r4 d).length<=78
theorem R3{l:List m6}{d:r6}(h:HI l d=true):DF l d:=by
 obtain⟨f,b⟩:=n0z h;have e:∀i,i<d.1.length->1<=(m9 d i).2.2.length/\(m9 d i).2.2.length<=5:=fun i hi=>by
  have a:=b.inst i hi;have k:=(WH a (fun y j=>(Rj f j).1)).1;unfold Q7 at a;simp only[ba,beq_iff_eq] at a
  grind[Rj]
 have c:=b.net;refine⟨f,b,e,q0n c.2 (k0k c.1 d.1.length (Nat.le_refl _)) d.2.2.length (Nat.le_refl _),?_⟩;have:=Rd (x:=m9 d) (ni:=d.1.length) (fun i hi=>(e i hi).2) d.1.length (Nat.le_refl _);have g:=b.ni14;have m:=b.np8;unfold r4 L7
 grind[Nd]
theorem r36(b:j6)(f:wf l6 b)(k:cnt l6 b<=1048576):Dm b=some (p6 b):=by
 have u:=f.1;have o:=f.2.1;have w:=f.2.2.1;have x:b.2.2.length<=1048576:=BR (cS (cS k));unfold Dm p6;rw[r82 b.1 b.2.1 u o (cF k) (cF (cS k)),vS,gP ⟨rfl,trivial⟩];cases hdo:HI b.1 b.2.1 with
 | false=>grind
 | true =>
   have c:=R3 hdo;by_cases a:b.2.2.length=b.2.1.2.1.length
   ·have t:((b.2.2.length:Int) != (b.2.1.2.1.length:Int))=false:=by rw[a]; simp
    rw[t,decide_eq_true a];refine(if_neg (by simp)).trans ?_;rw[gP (WI x (by decide)),Int.toNat_natCast,Rm b.2.1 o c.fac.ni14 c.fac.np8 c.pin,vS,gP ⟨rfl,trivial⟩,lE];have m:(r4 b.2.1).length<=9223372036854775807:=by have:=c.len; omega
    have d:∀i,i < (r4 b.2.1).length->m0 (u4 b.2.1 i).2.2.1 0 ((b.2.2.length:Int)-1)=true:=fun i hi=>by
     rw[a]; exact c.plc _ (G6 hi)
    have l:=lF (n:=(r4 b.2.1).length) m (fun i (v:List Int)=>((i:Int),v)) (Dw (u4 b.2.1)) (fun i v=>i<=(r4 b.2.1).length/\Ab v b.2.2.length i) (J:=Qd b) (F:=G0U (r4 b.2.1) b) (fun g i v hi q=>by
     have h:((i:Int)).toNat=i:=rfl;have r:∀j,Qe (i:Int) g j=g (((i+1:Nat):Int),j):=fun j=>gP ⟨oo,trivial⟩;refine(if_pos (by grind)).trans ?_;rw[h,gP ⟨oo,hi,trivial⟩,lE,r];show(if(!(u4 b.2.1 i).2.2.2)=true then _ else _)=g (_,Dw (u4 b.2.1) i v);unfold Dw;cases hdr:(u4 b.2.1 i).2.2.2 with
     | true=>rfl
     | false =>
       refine(if_pos rfl).trans ?_;refine(gP (Np q.2 (by have:=c.len; omega) (d i hi))).trans ?_;rw[lE];exact r _) (fun i v hi q=>⟨by omega,by
     grind[Dw,JE,Wk]⟩) (fun g v _=>aE) (List.replicate b.2.2.length 0) ⟨by omega,Rb _ _⟩
    refine l.trans ?_;obtain⟨z,y⟩:=m0F (u4 b.2.1) b.2.2.length (r4 b.2.1).length d;generalize fN (Dw (u4 b.2.1)) (r4 b.2.1).length (List.replicate b.2.2.length 0)=v at *
    rw[Qd];have s:=F1 (n:=b.2.2.length) w (fun i=>!Bh (m3 b i) (Y1 (u4 b.2.1) i (r4 b.2.1).length)) (some false) (e:=some true) (F:=G0T v b) (fun g i hi=>by
     have h:((i:Int)).toNat=i:=rfl;refine(if_pos (by grind)).trans ?_;rw[h,gP ⟨oo,trivial⟩,lE,y i hi,r84 _ _ (Y3 hi f.2.2),vS,gP ⟨oo,by omega,rfl,trivial⟩,gP ⟨oo,trivial⟩]) (fun g=>aE)
    grind
   grind
theorem WJ(d:r6)(e:wf y31 d){l:List m6}(a:DF l d)(t:Int):S7 d t=some (fN (N2 (u4 d) t) (r4 d).length []):=by
 have j:=a.len;unfold S7;rw[Dy d e a.fac.ni14 a.fac.np8 a.pin,vS,gP ⟨rfl,trivial⟩,lE];exact lF (n:=(r4 d).length) (by omega) (fun i (s:List Int)=>((i:Int),s)) (N2 (u4 d) t) (fun i s=>s.length<=i) (J:=fun s=>some s) (F:=TQ (r4 d) t) (fun g i s hi b=>by
  have h:((i:Int)).toNat=i:=rfl;have c:∀s',IN (i:Int) g s'=g (((i+1:Nat):Int),s'):=fun k=>gP ⟨oo,trivial⟩;refine(if_pos (by grind)).trans ?_;have f:s.length<=i:=b;rw[h,gP ⟨oo,hi,fun _=>oo,fun _=>hi,trivial⟩,gP ⟨⟨by grind,by grind⟩,trivial⟩,c,c];show _=g (_,N2 (u4 d) t i s);unfold N2
  grind) (fun i s hi b=>by
  grind[N2,List.length_append]) (fun g s _=>aE) [] (Nat.le_refl _)
theorem FL(b:j6)(c:wf l6 b)(l:cnt l6 b<=1048576):K6 b=some (p6 b):=by
 have h:=c.1;have d:=c.2.1;have k:=c.2.2.1;unfold K6 p6;rw[r92 b.1 b.2.1 h d (cF (cS l)),vS,gP ⟨rfl,trivial⟩];cases hdo:HI b.1 b.2.1 with
 | false=>grind
 | true =>
   have j:=R3 hdo;by_cases a:b.2.2.length=b.2.1.2.1.length
   ·have o:((b.2.2.length:Int) != (b.2.1.2.1.length:Int))=false:=by rw[a]; simp
    rw[o,decide_eq_true a];refine(if_neg (by simp)).trans ?_;have f:=F1 (n:=b.2.2.length) k (fun i=>!Bh (m3 b i) (Y1 (u4 b.2.1) i (r4 b.2.1).length)) (some false) (e:=some true) (F:=G0N b) (fun g i hi=>by
     have m:((i:Int)).toNat=i:=rfl;refine(if_pos (by grind)).trans ?_;rw[m,WJ b.2.1 d j,vS,Nf,r93 _ _ (Y3 hi c.2.2),gP ⟨oo,rfl,rfl,trivial⟩,lE,Nf,r93 _ _ (Y3 hi c.2.2),vS,gP ⟨oo,trivial⟩]) (fun g=>aE)
    grind
   grind
theorem U0{b:j6}(h:p6 b=true):HI b.1 b.2.1=true/\b.2.2.length=b.2.1.2.1.length/\∀i,i<b.2.2.length->Bh (m3 b i) (Y1 (u4 b.2.1) i (r4 b.2.1).length)=true:=by
 grind[p6,hi]
abbrev x8(d:r6)(t:Int):List Int:=fN (N2 (u4 d) t) (r4 d).length []
def FM(l:List m6)(d:r6)(p:B2):Int:=if p.1<0 then 0 else((l.getD (m9 d p.1.toNat).2.1.toNat (b7 y64)).2.2.1.getD p.2.1.toNat (b7 y233)).2.2.1
theorem Rn{d:r6}{i:Nat}(h:i < (r4 d).length):u4 d i∈r4 d:=G6 h
theorem n0g{l:List m6}(h:Dx l=true){i:Nat}(hi:i<l.length):BQ F3 (Y5 l i)=true:=by
 have h:CC _ _ _=true:=h;unfold CC at h;rw[ba] at h;have:=BM.1 h.1 i hi;rw[Bool.or_eq_false_iff,Bool.not_eq_false'] at this;exact this.1
theorem WK{l:List m6}{d:r6}(c:DF l d){p:B2}(f:p∈r4 d):(p.1 = -1/\0<=p.2.1/\p.2.1.toNat<d.2.2.length) ∨
  (0<=p.1/\p.1.toNat<d.1.length/\0<=(m9 d p.1.toNat).2.1/\(m9 d p.1.toNat).2.1.toNat<l.length/\0<=p.2.1/\p.2.1.toNat < (l.getD (m9 d p.1.toNat).2.1.toNat (b7 y64)).2.2.1.length):=by
 rcases o0z d.1.length d.2.2.length (m9 d) (A5 d) p f with h | ⟨h1,h2,h3,h4⟩
 ·exact .inl h
 ·have a:=c.fac.inst p.1.toNat h2;unfold Q7 at a;simp only[ba,beq_iff_eq] at a;have e:=y9.1 a.1.1;have b:=a.1.2;refine .inr ⟨h1,h2,e.1,by omega,h3,?_⟩;have b:((m9 d p.1.toNat).2.2.length:Int)=((l.getD (m9 d p.1.toNat).2.1.toNat (b7 y64)).2.2.1.length:Int):=b;omega
theorem D0Q{l:List m6}{d:r6}(b:DF l d){p:B2}(c:p∈r4 d):0<=FM l d p/\FM l d p<=500:=by
 unfold FM;split
 ·exact⟨by decide,by decide⟩
 ·rename_i e;rcases WK b c with h | ⟨h1,h2,h3,h4,h5,h6⟩
  ·omega
  ·have a:V5 F3 _ _ _ _ _ _ _ _ _=true:=n0g b.lib h4;unfold V5 AD at a;simp only[ba] at a;have:=BM.1 a.1.1.1.1.2.2 p.2.1.toNat h6;rw[Bool.not_eq_false'] at this;unfold BK at this;rw[ba] at this;exact y9.1 this.1
theorem Nr{d:r6}{t:Int}{k:Nat}(h:k < (x8 d t).length):0<=(x8 d t).getD k 0/\((x8 d t).getD k 0).toNat < (r4 d).length:=by
 obtain⟨j,b,a,_⟩:=Nh (u4 d) t (r4 d).length _ (G6 (d:=0) h);rw[b];exact⟨Int.natCast_nonneg _,by simpa using a⟩
structure NetOk(b:j6)(i:Nat):Prop where
 df:DF b.1 b.2.1
 lt:i<b.2.2.length
 wf:n0T (m3 b i) ((x8 b.2.1 i).length:Int)
theorem Bj{b:j6}(h:p6 b=true){i:Nat}(hi:i<b.2.2.length):NetOk b i:=by
 obtain⟨c,d,a⟩:=U0 h;refine⟨R3 c,hi,?_⟩;rw[Nf];exact r0z (a i hi)
def u5(b:j6)(i k:Nat):Int:=(m3 b i).2.2.2.getD k 0
def V9(b:j6)(i k:Nat):Int:=FM b.1 b.2.1 (u4 b.2.1 ((x8 b.2.1 i).getD k 0).toNat)
def R4(b:j6)(i k:Nat):Int:=(m3 b i).1.getD k 0
def CF(b:j6)(i k:Nat):Int:=(m3 b i).2.1.getD k 0
def z7(b:j6)(i:Nat):List Int:=I0q (m3 b i).2.2.1 (m3 b i).1.length (x8 b.2.1 i).length (u5 b i) (V9 b i) (R4 b i)
theorem NetOk.sn{b:j6}{i:Nat}(h:NetOk b i):(m3 b i).2.2.2.length=(x8 b.2.1 i).length:=by have:=h.wf.snk; omega
theorem NetOk.s78{b:j6}{i:Nat}(h:NetOk b i):(x8 b.2.1 i).length<=78:=by
 have e:=h.df.len;have c:=w0k (u4 b.2.1) i (r4 b.2.1).length;have a:=Nf (u4 b.2.1) i (r4 b.2.1).length;have d:((x8 b.2.1 i).length:Int)=Y1 (u4 b.2.1) i (r4 b.2.1).length:=a;omega
theorem NetOk.capIn{b:j6}{i:Nat}(h:NetOk b i){k:Nat}(a:k < (x8 b.2.1 i).length):0<=u5 b i k/\(u5 b i k).toNat < (m3 b i).1.length/\0<=V9 b i k/\V9 b i k<=500:=by
 have d:=h.wf.snkIn k (by rw[h.sn]; exact a);have c:=D0Q h.df (Rn (Nr a).2);exact⟨d.1,d.2,c.1,c.2⟩
theorem NetOk.low{b:j6}{i:Nat}(h:NetOk b i):∀m,m<=(x8 b.2.1 i).length->Low (fN (BN (u5 b i) (V9 b i)) m (m3 b i).2.2.1) (m3 b i).1.length (500*((m3 b i).1.length:Int)+500*(m:Int)):=fun m c=>r0i (E0g h.wf.cap h.wf.capOk) m (fun k a=>h.capIn (by omega))
theorem NetOk.pull{b:j6}{i:Nat}(h:NetOk b i):∀k,k<=(m3 b i).1.length-1->JI (fN (V6 (R4 b i) (m3 b i).1.length) k (fN (BN (u5 b i) (V9 b i)) (x8 b.2.1 i).length (m3 b i).2.2.1)) (m3 b i).1.length k 43000:=by
 have a:=h.low _ (Nat.le_refl _);have f:=h.s78;have g:=h.wf.n8;have d:Low (fN (BN (u5 b i) (V9 b i)) (x8 b.2.1 i).length (m3 b i).2.2.1) (m3 b i).1.length 43000:=⟨a.len,a.pos,by have:=a.sum; omega⟩;exact m0O d (by decide) (fun k c e=>h.wf.par k c e)
theorem NetOk.loads{b:j6}{i:Nat}(h:NetOk b i):(z7 b i).length=(m3 b i).1.length/\∀j,0<=(z7 b i).getD j 0/\(z7 b i).getD j 0<=43000:=by
 have:=h.pull _ (Nat.le_refl _);exact⟨this.len,fun j=>⟨this.pos j,this.bd j⟩⟩
abbrev x6(b:j6)(i:Nat):m6:=b.1.getD (m9 b.2.1 i).2.1.toNat (b7 y64)
theorem FN{b:j6}(a:DF b.1 b.2.1){i:Nat}(hi:i<b.2.1.1.length):ix (m9 b.2.1 i).2.1 b.1.length/\BQ F3 (x6 b i)=true/\(m9 b.2.1 i).2.2.length=(x6 b i).2.2.1.length:=by
 have:=a.fac.inst i hi;unfold Q7 at this;rw[ba,ba,beq_iff_eq] at this;have d:=y9.1 this.1.1;have c:=this.1.2;have e:((m9 b.2.1 i).2.2.length:Int)=((x6 b i).2.2.1.length:Int):=c;exact⟨⟨d.1,by omega⟩,n0g a.lib (by omega),by omega⟩
theorem FO{c:m6}(h:BQ F3 c=true):2<=c.2.2.1.length/\c.2.2.1.length<=5/\c.2.2.2.1.length<=8/\∀j,j<c.2.2.2.1.length->0<=(o3 c j).2.1/\(o3 c j).2.1 < (c.2.2.1.length:Int)-1/\0<=(o3 c j).2.2.1/\(o3 c j).2.2.1 < (c.2.2.1.length:Int):=by
 have h:V5 F3 _ _ _ _ _ _ _ _ _=true:=h;unfold V5 Hy at h;simp only[ba,dq] at h;have b:=JB h.1.1.1.1.2;refine⟨b.1,b.2.1,h.1.1.1.2.1,fun j d=>?_⟩;have:=BM.1 h.1.1.1.2.2 j d;rw[Bool.or_eq_false_iff,Bool.not_eq_false'] at this;have a:=this.1;unfold F3 at a;rw[ba,ba] at a;have f:=y9.1 a.1.1;have e:=y9.1 a.1.2;omega
theorem O0i(l:List m6)(d:r6)(a:DF l d){p:B2}(b:p∈r4 d):GR d l p=some (FM l d p):=by
 unfold GR FM;rcases WK a b with h | ⟨h1,h2,h3,h4,h5,h6⟩
 ·grind
 ·refine(if_neg (by grind)).trans ?_;rw[if_neg (by omega),gP ⟨oo,⟨h3,by grind⟩,⟨h5,by grind⟩,trivial⟩];rfl
theorem O0j(d:r6)(e:wf y31 d){l:List m6}(a:DF l d)(t:Int):LB d t=some (x8 d t):=by
 have j:=a.len;unfold LB;rw[Rm d e a.fac.ni14 a.fac.np8 a.pin,vS,gP ⟨rfl,trivial⟩,lE];exact lF (n:=(r4 d).length) (by omega) (fun i (s:List Int)=>(s,(i:Int))) (N2 (u4 d) t) (fun i s=>s.length<=i) (J:=fun s=>some s) (F:=B0g t (r4 d)) (fun g i s hi b=>by
  have h:((i:Int)).toNat=i:=rfl;have c:∀s',Pz (i:Int) g s'=g (s',((i+1:Nat):Int)):=fun k=>gP ⟨oo,trivial⟩;refine(if_pos (by grind)).trans ?_;have f:s.length<=i:=b;rw[h,gP ⟨oo,hi,trivial⟩,lE,gP ⟨⟨by grind,by grind⟩,trivial⟩,c,c];show _=g (N2 (u4 d) t i s,_);unfold N2
  grind) (fun i s hi b=>by
  grind[N2,List.length_append]) (fun g s _=>aE) [] (Nat.le_refl _)
theorem O0k(xs:List Int)(h:xs.length<=1048576):PB xs=some xs:=gP ⟨oo,trivial⟩
theorem r87(b:j6)(w:wf l6 b){i:Nat}(h:NetOk b i):BE b (i:Int)=some (z7 b i):=by
 have r:=w.2.1;have df:=h.df;have hb:=w.2.2.1;have hi:=h.lt;have n1:=h.wf.n1;have n8:=h.wf.n8;have Q:=h.sn;have hs:=h.s78;have z:=h.wf.cap;unfold BE;have H:((i:Int)).toNat=i:=rfl;rw[gP ⟨oo,trivial⟩,lE,H,O0k _ (by grind),vS,gP ⟨rfl,trivial⟩,lE,Rm b.2.1 r df.fac.ni14 df.fac.np8 df.pin,vS,gP ⟨rfl,trivial⟩,lE,O0j b.2.1 r df,vS,gP ⟨rfl,trivial⟩,lE];have m:=lF (n:=(x8 b.2.1 i).length) (by omega) (fun k (s:List Int)=>((k:Int),s)) (BN (u5 b i) (V9 b i)) (fun k v=>Low v (m3 b i).1.length (500*((m3 b i).1.length:Int)+500*(k:Int))) (J:=PA (m3 b i)) (F:=F0Z b (r4 b.2.1) (x8 b.2.1 i) (m3 b i)) (fun g k v c a=>by
  have T:((k:Int)).toNat=k:=rfl;obtain⟨t,o,y,P⟩:=h.capIn c;obtain⟨G,x⟩:=Nr c;have hv:=a.bd (by omega) (u5 b i k).toNat;have d:0<=(m3 b i).2.2.2.getD k 0:=t;have f:((m3 b i).2.2.2.getD k 0).toNat<v.length:=by rw[a.len]; exact o
  refine(if_pos (by grind)).trans ?_;rw[T,gP ⟨oo,c,trivial⟩,O0i b.1 b.2.1 df (Rn x),vS];rw[gP ⟨oo,⟨d,by omega⟩,f,⟨G,by omega⟩,x,rfl,⟨by grind[u5,V9],by grind[u5,V9]⟩,⟨d,by omega⟩,f,trivial⟩,lE];exact gP ⟨oo,trivial⟩) (fun k v c a=>by
  obtain⟨t,o,y,P⟩:=h.capIn c;have:=a.add o y;refine⟨this.len,this.pos,Int.le_trans this.sum ?_⟩;omega) (fun g s _=>aE) (m3 b i).2.2.1 (by
  have:=h.low 0 (Nat.zero_le _);exact this)
 refine m.trans ?_;have j:=(h.low _ (Nat.le_refl _)).len;have l:=h.pull 0 (Nat.zero_le _);have X:z7 b i=fN (V6 (R4 b i) (m3 b i).1.length) ((m3 b i).1.length-1) (fN (BN (u5 b i) (V9 b i)) (x8 b.2.1 i).length (m3 b i).2.2.1):=rfl;rw[X];have q:=h.pull;generalize fN (BN (u5 b i) (V9 b i)) (x8 b.2.1 i).length (m3 b i).2.2.1=v0 at j l q ⊢;rw[PA,j,gP ⟨oo,trivial⟩];have V:(((m3 b i).1.length:Int)-1,v0)=(fun(k:Nat) (s:List Int)=>(((m3 b i).1.length:Int)-1-(k:Int),s)) 0 v0:=by simp
 rw[V];exact lF (n:=(m3 b i).1.length-1) (by omega) (fun(k:Nat) (s:List Int)=>(((m3 b i).1.length:Int)-1-(k:Int),s)) (V6 (R4 b i) (m3 b i).1.length) (fun k v=>JI v (m3 b i).1.length k 43000) (J:=fun s=>some s) (F:=IY (m3 b i)) (fun g k v c a=>by
  have W:=h.wf.par ((m3 b i).1.length-1-k) (by omega) (by omega);have e:0<=(m3 b i).1.getD ((m3 b i).1.length-1-k) 0/\((m3 b i).1.getD ((m3 b i).1.length-1-k) 0).toNat < (m3 b i).1.length-1-k:=W;have u:=a.len;have E:((m3 b i).1.length:Int)-1-(k:Int)=(((m3 b i).1.length-1-k:Nat):Int):=by omega
  have Y:((((m3 b i).1.length-1-k:Nat):Int)).toNat=(m3 b i).1.length-1-k:=rfl;have b1:=a.pos ((m3 b i).1.getD ((m3 b i).1.length-1-k) 0).toNat;have b2:=a.bd ((m3 b i).1.getD ((m3 b i).1.length-1-k) 0).toNat;have b3:=a.pos ((m3 b i).1.length-1-k);have b4:=a.bd ((m3 b i).1.length-1-k);have e8:((m3 b i).1.length:Int)-1-((k+1:Nat):Int)=(((m3 b i).1.length-1-k:Nat):Int)-1:=by omega
  show IY (m3 b i) g (((m3 b i).1.length:Int)-1-(k:Int),v)=g (((m3 b i).1.length:Int)-1-((k+1:Nat):Int),V6 (R4 b i) (m3 b i).1.length k v);rw[e8,E];refine(if_pos (decide_eq_true (by omega))).trans ?_;rw[Y,gP ⟨oo,⟨e.1,by omega⟩,by omega,oo,by omega,oo,⟨e.1,by omega⟩,by omega,trivial⟩,lE];exact gP ⟨oo,trivial⟩) (fun k v c a=>Wo a c (h.wf.par _ (by omega) (by omega))) (fun g s _=>by
  have e9:((m3 b i).1.length:Int)-1-(((m3 b i).1.length-1:Nat):Int)=0:=by omega
  show IY (m3 b i) g (((m3 b i).1.length:Int)-1-(((m3 b i).1.length-1:Nat):Int),s)=some s;rw[e9];have:IY (m3 b i) g (0,s)=Un s:=by
   rw[IY];exact if_neg (by decide)
  exact this.trans rfl) v0 l
def A6(b:j6)(i:Nat):List Int:=E0H (m3 b i).1.length (R4 b i) (CF b i) (fun k=>(z7 b i).getD k 0)
def Y7(b:j6)(i:Nat):List Int:=fN (HC (A6 b i) (u5 b i)) (x8 b.2.1 i).length []
theorem NetOk.del{b:j6}{i:Nat}(h:NetOk b i):∀k,k<=(m3 b i).1.length-1->(fN (Q9 (R4 b i) (CF b i) (fun k=>(z7 b i).getD k 0)) k [0]).length=k+1/\∀j,0<=(fN (Q9 (R4 b i) (CF b i) (fun k=>(z7 b i).getD k 0)) k [0]).getD j 0/\(fN (Q9 (R4 b i) (CF b i) (fun k=>(z7 b i).getD k 0)) k [0]).getD j 0<=1000*43000*(k:Int) :=
 w0g (n:=(m3 b i).1.length) (fun k a=>h.wf.resIn k a) (fun k _=>h.loads.2 k) (by decide)
theorem NetOk.delays{b:j6}{i:Nat}(h:NetOk b i):(A6 b i).length=(m3 b i).1.length/\∀j,0<=(A6 b i).getD j 0/\(A6 b i).getD j 0<=301000000:=by
 have a:=h.del _ (Nat.le_refl _);have n1:=h.wf.n1;have n8:=h.wf.n8;refine⟨a.1.trans (by omega),fun j=>⟨(a.2 j).1,Int.le_trans (a.2 j).2 (by omega)⟩⟩
theorem O0h(b:j6)(o:wf l6 b){i:Nat}(h:NetOk b i):LD b (i:Int)=some (A6 b i):=by
 have hi:=h.lt;have Q:=o.2.2.1;have n1:=h.wf.n1;have n8:=h.wf.n8;have P:=h.wf.res;obtain⟨u,m⟩:=h.loads;have x:((i:Int)).toNat=i:=rfl;unfold LD;rw[r87 b o h,vS,gP ⟨oo,rfl,trivial⟩,lE,x];show gd ((0<=((z7 b i).length:Int)/\((z7 b i).length:Int)=((z7 b i).length:Int)/\((z7 b i).length:Int).toNat*8<=281474976710656/\((z7 b i).length:Int)<=9223372036854775807)/\True) (lp (LC (m3 b i) (z7 b i)) (1,List.replicate ((z7 b i).length:Int).toNat 0))=_;rw[u,gP ⟨⟨by omega,rfl,by omega,by omega⟩,trivial⟩];have E:((1:Int),List.replicate ((m3 b i).1.length:Int).toNat (0:Int))=(fun(k:Nat) (s:List Int)=>(((k+1:Nat):Int),s++List.replicate ((m3 b i).1.length-1-k) 0)) 0 [0]:=by
  show((1:Int),List.replicate (m3 b i).1.length (0:Int))=_;have:(m3 b i).1.length=((m3 b i).1.length-1)+1:=by omega
  rw[this,List.replicate_succ];rfl
 rw[E];refine(lF (n:=(m3 b i).1.length-1) (by omega) (fun(k:Nat) (s:List Int)=>(((k+1:Nat):Int),s++List.replicate ((m3 b i).1.length-1-k) 0)) (Q9 (R4 b i) (CF b i) (fun k=>(z7 b i).getD k 0)) (fun k s=>s.length=k+1/\∀j,0<=s.getD j 0/\s.getD j 0<=1000*43000*(k:Int)) (J:=fun s=>some s) (F:=LC (m3 b i) (z7 b i)) (fun g k s G a=>?_) (fun k s G a=>?_) (fun g s a=>?_) [0] ?_)
 ·obtain⟨e,q⟩:=a;have r:=h.wf.par (k+1) (by omega) (by omega);have f:(s++List.replicate ((m3 b i).1.length-1-k) (0:Int)).length=(m3 b i).1.length:=by rw[List.length_append,List.length_replicate]; omega
  have y:(((k+1:Nat):Int)).toNat=k+1:=rfl;have l:=z0D (n:=(m3 b i).1.length) e r.2;have d:=h.wf.resIn (k+1) (by omega);have c:=m (k+1);have z:=Ng d.1 d.2 c.1 c.2;have t:=q ((m3 b i).1.getD (k+1) 0).toNat;show LC (m3 b i) (z7 b i) g (((k+1:Nat):Int),s++List.replicate ((m3 b i).1.length-1-k) 0)=g (((k+1+1:Nat):Int),Q9 (R4 b i) (CF b i) (fun k=>(z7 b i).getD k 0) k s++List.replicate ((m3 b i).1.length-1-(k+1)) 0);have w:Q9 (R4 b i) (CF b i) (fun k=>(z7 b i).getD k 0) k s++List.replicate ((m3 b i).1.length-1-(k+1)) 0=(s++List.replicate ((m3 b i).1.length-1-k) 0).set (k+1) (s.getD ((m3 b i).1.getD (k+1) 0).toNat 0+(m3 b i).2.1.getD (k+1) 0*(z7 b i).getD (k+1) 0):=(z0C e (by omega)).symm;rw[w,<- l];generalize s++List.replicate ((m3 b i).1.length-1-k) (0:Int)=v at f l ⊢;refine(if_pos (by grind)).trans ?_;rw[y,gP ⟨oo,⟨r.1,by omega⟩,by omega,oo,oo,by omega,oo,oo,oo,by omega,trivial⟩,lE];exact gP ⟨oo,trivial⟩
 ·obtain⟨e,q⟩:=a;have d:=h.wf.resIn (k+1) (by omega);have c:=m (k+1);have z:=Ng d.1 d.2 c.1 c.2
  grind[R4,Q9,List.length_append,CF,z7,Nat.lt_or_ge,JJ,Wp,List.getD_cons_zero,List.getD_cons_succ,List.getD_nil]
 ·have H:(m3 b i).1.length-1-((m3 b i).1.length-1)=0:=by omega
  show LC (m3 b i) (z7 b i) g ((((m3 b i).1.length-1+1:Nat):Int),s++List.replicate ((m3 b i).1.length-1-((m3 b i).1.length-1)) 0)=some s;rw[H,List.replicate_zero,List.append_nil,<- a.1];exact aE
 grind
theorem r88(b:j6)(d:wf l6 b){i:Nat}(h:NetOk b i):Fu b (i:Int)=some (Y7 b i):=by
 have hi:=h.lt;have m:=d.2.2.1;have c:=h.sn;have o:=h.s78;obtain⟨q,r⟩:=h.delays;have j:((i:Int)).toNat=i:=rfl;unfold Fu;rw[O0h b d h,vS,gP ⟨rfl,trivial⟩,lE,gP ⟨oo,trivial⟩,lE,j];unfold Y7;rw[<- c];exact lF (n:=(m3 b i).2.2.2.length) (by omega) (fun(k:Nat) (s:List Int)=>(s,(k:Int))) (HC (A6 b i) (u5 b i)) (fun k s=>s.length=k) (J:=fun s=>some s) (F:=F0X (A6 b i) (m3 b i)) (fun g k s e a=>by
  have f:((k:Int)).toNat=k:=rfl;have l:=h.wf.snkIn k e;have a:s.length=k:=a;refine(if_pos (by grind)).trans ?_;rw[f,gP ⟨oo,trivial⟩,gP ⟨⟨l.1,by omega⟩,by omega,⟨by grind,by grind⟩,trivial⟩,lE];exact gP ⟨oo,trivial⟩) (fun k s e a=>by
  grind[HC,List.length_append]) (fun g s _=>aE) [] rfl
theorem HJ{b:j6}{i k:Nat}(a:k < (x8 b.2.1 i).length):(Y7 b i).getD k 0=(A6 b i).getD (u5 b i k).toNat 0:=v0X _ _ _ k a
theorem HK(b:j6)(i:Nat):(Y7 b i).length=(x8 b.2.1 i).length:=Wq _ _ _
theorem O0l(a:A9):LG a=some (I7 a.1 a.2.2.2.1):=by
 unfold LG I7;split
 ·rfl
 split
 ·rfl
 split
 ·rfl
 split
 ·rfl
 split
 ·rfl
 ·rfl
theorem r85(b:j6)(x:DF b.1 b.2.1){i:Nat}(hi:i<b.2.1.1.length)(f:Int)(W:0<=f)(Y:f<=1000):Fv b (m9 b.2.1 i) f=some (AE f (o3 (x6 b i)) (x6 b i).2.2.2.1.length):=by
 obtain⟨q,w,X⟩:=FN x hi;obtain⟨u,H,V,o⟩:=FO w;unfold Fv;rw[gP ⟨q,trivial⟩,lE];show lp (Ut f (x6 b i)) ([],0)=_;generalize x6 b i=c at u H V o;refine lF (n:=c.2.2.2.1.length) (by omega) (fun(j:Nat) (s:List w6)=>(s,(j:Int))) (R1 f (o3 c)) (fun j s=>s.length<=4*j) (J:=fun s=>some s) (F:=Ut f c) (fun g j s l e=>?_) (fun j s l e=>?_) (fun g s _=>aE) [] (Nat.le_refl _)
 ·have y:((j:Int)).toNat=j:=rfl;obtain⟨Q,P,G,t⟩:=o j l;have e:s.length<=4*j:=e;refine(if_pos (by simpa using l)).trans ?_;rw[y,gP ⟨oo,trivial⟩,lE,O0l,vS,gP ⟨rfl,trivial⟩,lE];show lp (Ur f (o3 c j) (j:Int) (I7 (o3 c j).1 (o3 c j).2.2.2.1) g) (0,s)=g (R1 f (o3 c) j s,_);obtain⟨T,m⟩:=Rf (o3 c j).1 (o3 c j).2.2.2.1;have r:R1 f (o3 c) j s=fN (Ad f (o3 c j).2.1 (o3 c j).2.2.1 (j:Int) (I7 (o3 c j).1 (o3 c j).2.2.2.1)) (I7 (o3 c j).1 (o3 c j).2.2.2.1).length s:=rfl;rw[r];generalize I7 (o3 c j).1 (o3 c j).2.2.2.1=tr at T m;generalize o3 c j=a at Q P G t;refine(lF (n:=tr.length) (by omega) (fun(k:Nat) (s:List w6)=>((k:Int),s)) (Ad f a.2.1 a.2.2.1 (j:Int) tr) (fun k z=>z.length=s.length+k) (J:=fun z=>Uq (j:Int) g z) (F:=Ur f a (j:Int) tr g) (fun v k z h hz=>?_) (fun k z h hz=>?_) (fun v z _=>aE) s rfl).trans ?_
  ·have E:((k:Int)).toNat=k:=rfl;have ht:=m _ (G6 (d:=((0,0):Int×Int)) h);have hz:z.length=s.length+k:=hz;refine(if_pos (by simpa using h)).trans ?_;rw[E,gP ⟨oo,h,trivial⟩,lE];show gd _ _=_;rw[gP ⟨oo,oo,oo,⟨by show _<=2*(f+a.2.1)+(tr.getD k (0,0)).1; omega,by show 2*(f+a.2.1)+(tr.getD k (0,0)).1<=_; omega⟩,oo,oo,oo,⟨by show _<=2*(f+a.2.2.1)+(tr.getD k (0,0)).2; omega,by show 2*(f+a.2.2.1)+(tr.getD k (0,0)).2<=_; omega⟩,⟨by show z.length+1<=_; omega,by show(z.length+1)*32<=_; omega⟩,trivial⟩,lE];exact gP ⟨oo,trivial⟩
  ·have hz:z.length=s.length+k:=hz;unfold Ad;rw[List.length_append,hz]; rfl
  ·exact gP ⟨oo,trivial⟩
 ·have e:s.length<=4*j:=e;have:=Ws f (o3 c) j s;show _<=4*(j+1);omega
def Bk(b:j6)(i:Nat)(s:Int×List w6):Int×List w6:=V7 (fun i=>(m9 b.2.1 i).2.2.length) (fun i=>o3 (x6 b i)) (fun i=>(x6 b i).2.2.2.1.length) i s
def I8(b:j6)(i:Nat):Int:=T9 (u4 b.2.1) i (r4 b.2.1).length
def JP(b:j6):List w6:=(fN (Bk b) b.2.1.1.length (0,[])).2
def lV(b:j6):List w6:=fN (Bi (I8 b) (fun i=>x8 b.2.1 i)) b.2.2.length (JP b)
def C0e(b:j6):List Int:=fN (AF fun i=>(z7 b i).getD 0 0) b.2.2.length []
def w0f(b:j6):List (List Int):=fN (AF fun i=>Y7 b i) b.2.2.length []
def m7(b:j6):C3:=(b,r4 b.2.1,lV b,C0e b,w0f b,[])
theorem WL{b:j6}(a:DF b.1 b.2.1)(m:Nat)(c:m<=b.2.1.1.length):0<=(fN (Bk b) m (0,[])).1/\(fN (Bk b) m (0,[])).1<=5*(m:Int)/\(fN (Bk b) m (0,[])).2.length<=32*m :=
 n0k (n:=b.2.1.1.length) (fun i hi=>⟨(a.pin i hi).2,(FO (FN a hi).2.1).2.2.1⟩) m c
def Ro(b:j6)(i:Nat)(s:List Int×List (List Int)×List w6):List Int×List (List Int)×List w6:=(s.1++[(z7 b i).getD 0 0],s.2.1++[Y7 b i],Bi (I8 b) (fun i=>x8 b.2.1 i) i s.2.2)
theorem k0c(b:j6)(z:List w6):∀m,fN (Ro b) m ([],[],z)=(fN (AF fun i=>(z7 b i).getD 0 0) m [],fN (AF fun i=>Y7 b i) m [],fN (Bi (I8 b) (fun i=>x8 b.2.1 i)) m z)
 | 0=>rfl
 | m+1=>by
   show Ro b m (fN (Ro b) m ([],[],z))=_;rw[k0c b z m]; rfl
theorem r37(b:j6)(hw:wf l6 b)(hb:p6 b=true):GU b=some (m7 b):=by
 obtain⟨aC,P,aH⟩:=U0 hb;have d:=R3 aC;have hd:=hw.2.1;have aK:=d.fac.ni14;have aM:=d.fac.nn30;have aN:=d.len;have Y:b.2.1.1.length<=9223372036854775807:=by omega
 have eN:∀l,D5 l=some (l.length:Int):=fun _=>rfl;unfold GU;rw[Rm b.2.1 hd d.fac.ni14 d.fac.np8 d.pin,vS,gP ⟨rfl,trivial⟩,lE];refine(lF (n:=b.2.1.1.length) Y (fun(i:Nat) (s:Int×List w6)=>(s.1,(i:Int),s.2)) (Bk b) (fun i s=>0<=s.1/\s.1<=5*(i:Int)/\s.2.length<=32*i) (J:=fun s=>LJ (r4 b.2.1) b s.2) (F:=G0R b (r4 b.2.1)) (fun g i s hi m=>?_) (fun i s hi m=>?_) (fun g s _=>aE) (0,[]) ⟨Int.le_refl _,Int.le_refl _,Nat.le_refl _⟩).trans ?_
 ·have E:((i:Int)).toNat=i:=rfl;obtain⟨f,z⟩:=s;obtain⟨e,i2,i3⟩:=m;have e:0<=f:=e;have i2:f<=5*(i:Int):=i2;have i3:z.length<=32*i:=i3;have hp:=d.pin i hi;have aB:=Ni f (o3 (x6 b i)) (x6 b i).2.2.2.1.length;have aA:=(FO (FN d hi).2.1).2.2.1;refine(if_pos (by grind)).trans ?_;rw[E,gP ⟨oo,trivial⟩,lE];show gd ((Fv b (m9 b.2.1 i) f).isSome=true/\_/\True) _=_;rw[r85 b d hi f e (by omega),vS,gP ⟨rfl,oo,trivial⟩,lE];show gd ((D5 (m9 b.2.1 i).2.2).isSome=true/\c9 (f+vl (D5 (m9 b.2.1 i).2.2))/\True) _=_;rw[eN,vS,gP ⟨rfl,oo,trivial⟩,lE];exact gP ⟨oo,trivial⟩
 ·obtain⟨f,z⟩:=s;obtain⟨e,i2,i3⟩:=m;have e:0<=f:=e;have i2:f<=5*(i:Int):=i2;have i3:z.length<=32*i:=i3;have hp:=d.pin i hi;have aB:=Ni f (o3 (x6 b i)) (x6 b i).2.2.2.1.length;have aA:=(FO (FN d hi).2.1).2.2.1;refine⟨by show 0<=f+((m9 b.2.1 i).2.2.length:Int); omega,by show f+((m9 b.2.1 i).2.2.length:Int)<=_; omega,?_⟩;show(z++AE f (o3 (x6 b i)) (x6 b i).2.2.2.1.length).length<=_
  grind
 have hz:=(WL d _ (Nat.le_refl _)).2.2;have aG:JP b=(fN (Bk b) b.2.1.1.length (0,[])).2:=rfl;unfold m7 lV C0e w0f;rw[aG];generalize (fN (Bk b) b.2.1.1.length (0,[])).2=z at hz;show LJ (r4 b.2.1) b z=_;have aJ:b.2.2.length<=30:=by omega
 rw[LJ,gP ⟨⟨by omega,rfl,by omega,by omega⟩,trivial⟩,gP ⟨⟨by omega,rfl,by omega,by omega⟩,trivial⟩];show lp (Uy (r4 b.2.1) b z) (0,List.replicate b.2.2.length [],List.replicate b.2.2.length 0)=_;have h:∀i,i < (r4 b.2.1).length->m0 (u4 b.2.1 i).2.2.1 0 ((b.2.2.length:Int)-1)=true:=fun i hi=>by rw[P]; exact d.plc _ (Rn hi)
 have gf:=n0n (u4 b.2.1) b.2.2.length;refine(lF (n:=(r4 b.2.1).length) (by omega) (fun(i:Nat) (s:List (List Int)×List Int)=>((i:Int),s.1,s.2)) (Y2 (u4 b.2.1)) (fun i s=>s.1.length=b.2.2.length/\s.2.length=b.2.2.length/\∀k:Nat,(s.1.getD k []).length<=i) (J:=fun s=>Ux b (r4 b.2.1) z s) (F:=Uy (r4 b.2.1) b z) (fun g i s hi m=>?_) (fun i s hi m=>?_) (fun g s _=>aE) (List.replicate b.2.2.length [],List.replicate b.2.2.length 0) ⟨List.length_replicate,List.length_replicate,fun k=>?_⟩).trans ?_
 ·obtain⟨a,c⟩:=s;obtain⟨V,Q,w⟩:=m;have V:a.length=b.2.2.length:=V;have Q:c.length=b.2.2.length:=Q;have w:∀k:Nat,(a.getD k []).length<=i:=w;have hp:=y9.1 (h i hi);have E:((i:Int)).toNat=i:=rfl;have j4:∀x y,PC (i:Int) g (x,y)=g (((i+1:Nat):Int),y,x):=fun x y=>gP ⟨oo,trivial⟩;have g4:=w (u4 b.2.1 i).2.2.1.toNat;refine(if_pos (by grind)).trans ?_;rw[E,gP ⟨oo,hi,trivial⟩,lE];show(if(u4 b.2.1 i).2.2.2=true then _ else _)=g (_,(Y2 (u4 b.2.1) i (a,c)).1,(Y2 (u4 b.2.1) i (a,c)).2);unfold Y2;cases(u4 b.2.1 i).2.2.2 with
  | true =>
    rw[if_pos rfl,if_pos rfl];show gd (ix (u4 b.2.1 i).2.2.1 c.length/\_/\True) _=_;rw[gP ⟨oo,by grind,trivial⟩,j4]
  | false =>
    rw[if_neg (by simp),if_neg (by simp)];show gd (ix (u4 b.2.1 i).2.2.1 a.length/\_) _=_;rw[gP ⟨oo,by grind,⟨by grind,by grind⟩,⟨by grind,by grind⟩,⟨by grind,rfl⟩,trivial⟩,lE,j4]
 ·obtain⟨a,c⟩:=s;obtain⟨V,Q,w⟩:=m;have V:a.length=b.2.2.length:=V;have Q:c.length=b.2.2.length:=Q;have w:∀k:Nat,(a.getD k []).length<=i:=w;have hp:=y9.1 (h i hi);unfold Y2
  grind[List.length_set,Wu,List.length_append]
 ·grind
 obtain⟨gl,dl,v⟩:=gf (r4 b.2.1).length h;generalize fN (Y2 (u4 b.2.1)) (r4 b.2.1).length (List.replicate b.2.2.length [],List.replicate b.2.2.length 0)=s at gl dl v;obtain⟨a,c⟩:=s;have gl:a.length=b.2.2.length:=gl;have dl:c.length=b.2.2.length:=dl;have aD:∀k:Nat,k<b.2.2.length->a.getD k []=x8 b.2.1 k:=fun k G=>(v k G).1;have aI:∀k:Nat,k<b.2.2.length->c.getD k 0=I8 b k:=fun k G=>(v k G).2;show lp (Uw c a b (r4 b.2.1)) (0,[],[],z)=_;refine(lF (n:=b.2.2.length) (by omega) (fun(i:Nat) (s:List Int×List (List Int)×List w6)=>((i:Int),s.1,s.2.1,s.2.2)) (Ro b) (fun i s=>s.1.length=i/\s.2.1.length=i/\s.2.2.length<=500+160*i) (J:=fun s=>some (b,r4 b.2.1,s.2.2,s.1,s.2.1,[])) (F:=Uw c a b (r4 b.2.1)) (fun g i s hi m=>?_) (fun i s hi m=>?_) (fun g s _=>aE) ([],[],z) ⟨rfl,rfl,by grind⟩).trans ?_
 ·obtain⟨o,q,r⟩:=s;obtain⟨e,i2,i3⟩:=m;have e:o.length=i:=e;have i2:q.length=i:=i2;have i3:r.length<=500+160*i:=i3;have j:=Bj hb hi;have n1:=j.wf.n1;have X:=j.s78;have aL:=j.loads.1;have E:((i:Int)).toNat=i:=rfl;refine(if_pos (by grind)).trans ?_;rw[r87 b hw j,vS,gP ⟨rfl,oo,by omega,⟨by grind,by grind⟩,trivial⟩,lE,r88 b hw j,vS,gP ⟨rfl,⟨by grind,by grind⟩,trivial⟩,lE,gP ⟨oo,trivial⟩];have T:=aD i hi;have aF:=aI i hi;have W:=Wt (u4 b.2.1) i (r4 b.2.1).length;have W:0<=I8 b i/\I8 b i<=((r4 b.2.1).length:Int):=W;show lp (GS c (i:Int) a q (Y7 b i) o (z7 b i) g) (0,r)=g (_,o++[(z7 b i).getD 0 0],q++[Y7 b i],Bi (I8 b) (fun i=>x8 b.2.1 i) i r);refine(lF (n:=(x8 b.2.1 i).length) (by omega) (fun(k:Nat) (s:List w6)=>((k:Int),s)) (BO (I8 b i) (x8 b.2.1 i)) (fun k y=>y.length=r.length+2*k) (J:=fun y=>Uu (i:Int) g (q++[Y7 b i],o++[(z7 b i).getD 0 0],y)) (F:=GS c (i:Int) a q (Y7 b i) o (z7 b i) g) (fun u k y G hy=>?_) (fun k y G hy=>?_) (fun u y _=>?_) r rfl).trans ?_
  ·have hy:y.length=r.length+2*k:=hy;obtain⟨k1,k2⟩:=Nr G;have e4:((k:Int)).toNat=k:=rfl;show GS c (i:Int) a q (Y7 b i) o (z7 b i) g u ((k:Int),y)=_;rw[GS,E,T,if_pos (by grind),gP ⟨oo,trivial⟩];show _=u (_,BO (I8 b i) (x8 b.2.1 i) k y);refine(lF (n:=2) (by decide) (fun(t:Nat) (x:List w6)=>((t:Int),x)) (Wv (I8 b i) ((x8 b.2.1 i).getD k 0) (k:Int)) (fun t x=>x.length=y.length+t) (J:=fun x=>Uv (k:Int) u x) (F:=LH c (i:Int) a (k:Int) u) (fun H t x ht hx=>?_) (fun t x ht hx=>?_) (fun H x _=>?_) y rfl).trans ?_
   ·have hx:x.length=y.length+t:=hx;show LH c (i:Int) a (k:Int) u H ((t:Int),x)=_;rw[LH,E,e4,T,aF,if_pos (decide_eq_true (by omega)),gP ⟨oo,by omega,oo,oo,oo,oo,⟨by grind,by grind⟩,trivial⟩,lE];exact gP ⟨oo,trivial⟩
   ·grind[Wv,List.length_append]
   ·grind[LH]
   ·exact gP ⟨oo,trivial⟩
  ·grind[Ww]
  ·show GS c (i:Int) a q (Y7 b i) o (z7 b i) g u (((x8 b.2.1 i).length:Int),y)=_
   grind[GS]
  ·exact gP ⟨oo,trivial⟩
 ·obtain⟨o,q,r⟩:=s;obtain⟨e,i2,i3⟩:=m;have e:o.length=i:=e;have i2:q.length=i:=i2;have i3:r.length<=500+160*i:=i3;have X:=(Bj hb hi).s78;refine⟨by show(o++_).length=_; grind,by show(q++_).length=_; grind,?_⟩;show(Bi (I8 b) (fun i=>x8 b.2.1 i) i r).length<=_;unfold Bi
  grind[Rg]
 ·rw[k0c]
end Go.Proofs.YtdjgagoledoaaaaGreatDoor
end
section
namespace Go.Proofs.Xd
open Go Go.Proofs Go.Proofs.Xl
def z6(x:Nat->D8):Nat->Nat
 | 0=>0
 | i+1=>z6 x i+(x i).2.2.length
theorem n0j(x:D8)(i:Int)(d:B2)(s:List B2):∀n k,k<n->(fN (T7 x i) n s).getD (s.length+k) d=(i,(k:Int),x.2.2.getD k 0,(k:Int)==(x.2.2.length:Int)-1)
 | n+1,k,h=>by
   have a:=HB x i s n;have b:=n0j x i d s n k
   grind[T7,fN]
theorem n0i(x:D8)(i:Int)(d:B2)(s:List B2):∀n j,j<s.length->(fN (T7 x i) n s).getD j d=s.getD j d
 | 0,_,_=>rfl
 | n+1,j,h=>by
   have a:=HB x i s n;have b:=n0i x i d s n j h
   grind[T7,fN,JJ]
theorem Ns(x:Nat->D8):∀n,(fN (O7 x) n []).length=z6 x n
 | 0=>rfl
 | n+1=>by
   have:=Ns x n;show(O7 x n (fN (O7 x) n [])).length=_;unfold O7;rw[HB];show(fN (O7 x) n []).length+_=_;rw[this]; rfl
theorem i0c(x:Nat->D8)(d:B2):∀n i k,i<n->k < (x i).2.2.length->(fN (O7 x) n []).getD (z6 x i+k) d=((i:Int),(k:Int),(x i).2.2.getD k 0,(k:Int)==((x i).2.2.length:Int)-1)
 | n+1,i,k,hi,hk=>by
   have a:=Ns x n;have b:=i0c x d n i k;show(O7 x n (fN (O7 x) n [])).getD _ d=_;generalize fN (O7 x) n []=z at a b;unfold O7;rcases Nat.lt_or_ge i n with h | h
   ·have c:z6 x i+k<z.length:=by
     rw[a];have:∀m,i<m->z6 x i+(x i).2.2.length<=z6 x m:=by
      intro m
      induction m with
      | zero=>omega
      | succ m b =>
        grind[z6,Nat.lt_or_ge]
     have:=this n h;omega
    grind[n0i]
   grind[n0j]
theorem m0P(y:Nat->N1)(d:B2)(s:List B2):∀n j,j<s.length->(fN (P1 y) n s).getD j d=s.getD j d
 | 0,_,_=>rfl
 | n+1,j,h=>by
   have a:=Nd y s n;have b:=m0P y d s n j h
   grind[P1,fN,JJ]
theorem m0Q(y:Nat->N1)(d:B2)(s:List B2):∀n k,k<n->(fN (P1 y) n s).getD (s.length+k) d=(-1,(k:Int),(y k).2.2,(y k).2.1==1)
 | n+1,k,h=>by
   have a:=Nd y s n;have b:=m0Q y d s n k
   grind[P1,fN]
theorem q0r(x:Nat->D8):∀n j,j<z6 x n->∃i k,i<n/\k < (x i).2.2.length/\j=z6 x i+k
 | n+1,j,h=>by
   have h:j<z6 x n+(x n).2.2.length:=h;rcases Nat.lt_or_ge j (z6 x n) with a | a
   ·obtain⟨i,k,d,b,c⟩:=q0r x n j a;exact⟨i,k,by omega,b,c⟩
   ·exact⟨n,j-z6 x n,by omega,by omega,by omega⟩
theorem Nt(x:Nat->D8){i n k:Nat}(hi:i<n)(a:k < (x i).2.2.length):z6 x i+k<z6 x n:=by
 induction n with
 | zero=>omega
 | succ n b =>
   grind[z6,Nat.lt_or_ge]
theorem JQ(ni np:Nat)(x:Nat->D8)(y:Nat->N1):(L7 ni np x y).length=z6 x ni+np:=by
 grind[L7,Nd,Ns]
theorem Rp(ni np:Nat)(x:Nat->D8)(y:Nat->N1)(d:B2){i k:Nat}(hi:i<ni)(a:k < (x i).2.2.length):(L7 ni np x y).getD (z6 x i+k) d=((i:Int),(k:Int),(x i).2.2.getD k 0,(k:Int)==((x i).2.2.length:Int)-1):=by
 grind[L7,m0P,Ns,Nt,i0c]
theorem i0b(ni np:Nat)(x:Nat->D8)(y:Nat->N1)(d:B2){k:Nat}(a:k<np):(L7 ni np x y).getD (z6 x ni+k) d=(-1,(k:Int),(y k).2.2,(y k).2.1==1):=by
 grind[L7,Ns,m0Q]
theorem s0g(ni np:Nat)(x:Nat->D8)(y:Nat->N1)(d:B2){i k:Nat}(hi:i<ni)(f:k < (x i).2.2.length){j:Nat}(a:j < (L7 ni np x y).length):(((L7 ni np x y).getD j d).1==(i:Int)&&((L7 ni np x y).getD j d).2.1==(k:Int))=decide (j=z6 x i+k):=by
 rw[Bool.eq_iff_iff,ba,beq_iff_eq,beq_iff_eq,dq];rw[JQ] at a;constructor
 ·rintro⟨b,c⟩;rcases Nat.lt_or_ge j (z6 x ni) with h | h
  ·grind[q0r,Rp,Int.ofNat.inj]
  ·have e:j=z6 x ni+(j-z6 x ni):=by omega
   rw[e,i0b ni np x y d (by omega)] at b;omega
 grind[Rp]
def U1(P:Nat->Bool)(m:Nat):Nat:=fN (fun i s=>if P i=true then s+1 else s) m 0
theorem Dz(P:Nat->Bool)(m:Nat):U1 P (m+1)=if P m=true then U1 P m+1 else U1 P m:=rfl
theorem r0c{P:Nat->Bool}:∀{m i:Nat},i<m->P i=true->1<=U1 P m
 | m+1,i,h,hp=>by
   rw[Dz];rcases Nat.lt_or_ge i m with a | a
   ·have:=r0c a hp; split <;> omega
   grind
theorem WM{P:Nat->Bool}:∀{m i j:Nat},i<j->j<m->P i=true->P j=true->2<=U1 P m
 | m+1,i,j,h1,h2,hi,hj=>by
   rw[Dz];rcases Nat.lt_or_ge j m with a | a
   ·have:=WM h1 a hi hj; split <;> omega
   ·have:j=m:=by omega
    subst this;have:=r0c h1 hi
    grind
theorem w0m{P:Nat->Bool}:∀{m:Nat},1<=U1 P m->∃i,i<m/\P i=true
 | 0,h=>by grind[U1,fN]
 | m+1,h=>by
   rw[Dz] at h;by_cases a:P m=true
   ·grind
   ·rw[if_neg a] at h;obtain⟨i,c,b⟩:=w0m h
    grind
def W3(pl:Nat->B2)(t:Int)(j:Nat):Bool:=(pl j).2.2.1==t&&(pl j).2.2.2
theorem n0v{pl:Nat->B2}{t:Int}:∀{m i:Nat},i<m->W3 pl t i=true->(∀j,i<j->j<m->W3 pl t j=false)->T9 pl t m=(i:Int)
 | m+1,i,h,hi,hn=>by
   have e:T9 pl t (m+1)=if W3 pl t m=true then(m:Int) else T9 pl t m:=rfl
   rw[e];rcases Nat.lt_or_ge i m with a | a
   ·rw[if_neg (by grind)];exact n0v a hi (fun j b c=>hn j b (by omega))
   grind
theorem w0b{pl:Nat->B2}{t:Int}{m:Nat}(h:U1 (W3 pl t) m=1):∃i,i<m/\W3 pl t i=true/\(∀j,j<m->W3 pl t j=decide (j=i))/\T9 pl t m=(i:Int):=by
 obtain⟨i,d,a⟩:=w0m (Nat.le_of_eq h.symm);have g:∀j,j<m->W3 pl t j=true->j=i:=fun j b f=>by
  rcases Nat.lt_trichotomy i j with c | c | c
  ·grind[WM]
  ·omega
  grind[WM]
 refine⟨i,d,a,fun j b=>?_,n0v d a (fun j e b=>?_)⟩
 ·grind
 grind
theorem r0d(P:Nat->Bool)(m:Nat):∀n,U1 P (m+n)=U1 P m+U1 (fun i=>P (m+i)) n
 | 0=>rfl
 | n+1=>by
   rw[<- Nat.add_assoc,Dz,Dz,r0d P m n];split <;> omega
theorem w0l{P:Nat->Bool}{n:Nat}(h:∀i,i<n->P i=false):U1 P (n+1)=if P n=true then 1 else 0:=by
 have:∀m,m<=n->U1 P m=0:=by
  intro m
  induction m with
  | zero=>intro _; rfl
  | succ m a=>intro b; rw[Dz,h m (by omega),if_neg (by simp),a (by omega)]
 rw[Dz,this n (Nat.le_refl _)]
theorem q0P{ni np:Nat}{x:Nat->D8}{y:Nat->N1}{d:B2}{a:Nat}(g:∀i,i<ni->1<=(x i).2.2.length/\m0 ((x i).2.2.getD ((x i).2.2.length-1) 0) 0 ((a:Int)-1)=true):∀n,n<=ni->(fN (T6 x) n (List.replicate a 0)).length=a/\∀t:Nat,t<a->(fN (T6 x) n (List.replicate a 0)).getD t 0=(U1 (W3 (fun j=>(L7 ni np x y).getD j d) t) (z6 x n):Nat)
 | 0,_=>⟨List.length_replicate,fun t h=>by
   show(List.replicate a (0:Int)).getD t 0=_;rw[gq,List.getElem?_replicate,if_pos h]; rfl⟩
 | n+1,hn=>by
   obtain⟨u,o⟩:=q0P (np:=np) (y:=y) (d:=d) g n (by omega);obtain⟨w,c⟩:=g n (by omega);have c:=y9.1 c;have e:fN (T6 x) (n+1) (List.replicate a 0)=T6 x n (fN (T6 x) n (List.replicate a 0)):=rfl;rw[e];generalize fN (T6 x) n (List.replicate a 0)=v at u o;unfold T6 BL;refine⟨by grind,fun t h=>?_⟩;rw[Wu (by omega)];show _=((U1 _ (z6 x n+(x n).2.2.length):Nat):Int);rw[r0d];have l:∀k,k < (x n).2.2.length->W3 (fun j=>(L7 ni np x y).getD j d) t (z6 x n+k)=((x n).2.2.getD k 0==(t:Int)&&(k:Int)==((x n).2.2.length:Int)-1):=fun k l=>by
    grind[W3,L7,z6,Rp]
   obtain⟨m,f⟩:∃m,(x n).2.2.length=m+1:=⟨(x n).2.2.length-1,by omega⟩;have b:(x n).2.2.length-1=m:=by omega
   rw[b] at c;rw[b,f,w0l (fun i hi=>by grind),l m (by omega),f];have q:((m:Int)==((m+1:Nat):Int)-1)=true:=by simp
   rw[q,Bool.and_true];have r:((x n).2.2.getD m 0==(t:Int))=decide (t=((x n).2.2.getD m 0).toNat):=by
    rw[Bool.eq_iff_iff,beq_iff_eq,dq];omega
   rw[r];by_cases s:t=((x n).2.2.getD m 0).toNat
   ·grind
   grind
theorem q0m{ni np:Nat}{x:Nat->D8}{y:Nat->N1}{d:B2}{a:Nat}(b:∀i,i<ni->1<=(x i).2.2.length/\m0 ((x i).2.2.getD ((x i).2.2.length-1) 0) 0 ((a:Int)-1)=true)(c:∀i,i<np->m0 (y i).2.2 0 ((a:Int)-1)=true):∀n,n<=np->(fN (M0 y) n (fN (T6 x) ni (List.replicate a 0))).length=a/\∀t:Nat,t<a->(fN (M0 y) n (fN (T6 x) ni (List.replicate a 0))).getD t 0=(U1 (W3 (fun j=>(L7 ni np x y).getD j d) t) (z6 x ni+n):Nat)
 | 0,_=>q0P b ni (Nat.le_refl _)
 | n+1,hn=>by
   obtain⟨l,f⟩:=q0m (d:=d) b c n (by omega);have m:=y9.1 (c n (by omega));have e:fN (M0 y) (n+1) (fN (T6 x) ni (List.replicate a 0))=M0 y n (fN (M0 y) n (fN (T6 x) ni (List.replicate a 0))):=rfl;rw[e];generalize fN (M0 y) n (fN (T6 x) ni (List.replicate a 0))=v at l f;have h:∀t:Nat,W3 (fun j=>(L7 ni np x y).getD j d) t (z6 x ni+n)=((y n).2.2==(t:Int)&&(y n).2.1==1):=fun t=>by
    grind[W3,L7,z6,i0b]
   have k:∀t:Nat,((y n).2.2==(t:Int))=decide (t=(y n).2.2.toNat):=fun t=>by
    grind
   unfold M0;split
   ·rename_i g;unfold BL;refine⟨by grind,fun t o=>?_⟩;rw[Wu (by omega),<- Nat.add_assoc,Dz,h,k,g]
    grind
   grind[Nat.add_assoc,Dz]
def HL(f:Int)(a:D7)(j:Nat)(t:Nat):w6:=(2*(f+a.2.1)+((I7 a.1 a.2.2.2.1).getD t (0,0)).1,2*(f+a.2.2.1)+((I7 a.1 a.2.2.2.1).getD t (0,0)).2,1,(j:Int))
def DA(d s:Int)(k t:Nat):w6:=(2*d+(t:Int),2*s+(t:Int),2,(k:Int))
theorem k0C{f a b x:Int}{tr:List (Int×Int)}{s:List w6}{l:w6}:∀k,l∈fN (Ad f a b x tr) k s->l∈s∨∃t,t<k/\l=(2*(f+a)+(tr.getD t (0,0)).1,2*(f+b)+(tr.getD t (0,0)).2,1,x)
 | 0,h=>.inl h
 | k+1,h=>by
   rcases List.mem_append.1 (show l∈fN (Ad f a b x tr) k s++[_] from h) with h | h
   ·rcases k0C k h with h | ⟨t,ht,e⟩
    ·exact .inl h
    ·exact .inr ⟨t,by omega,e⟩
   ·exact .inr ⟨k,by omega,List.mem_singleton.1 h⟩
theorem n0G{f:Int}{a:Nat->D7}{s:List w6}{l:w6}:∀m,l∈fN (R1 f a) m s->l∈s∨∃j t,j<m/\t < (I7 (a j).1 (a j).2.2.2.1).length/\l=HL f (a j) j t
 | 0,h=>.inl h
 | m+1,h=>by
   rcases k0C _ (show l∈fN (Ad f _ _ (m:Int) _) _ (fN (R1 f a) m s) from h) with h | ⟨t,ht,e⟩
   ·rcases n0G m h with h | ⟨j,t,hj,ht,e⟩
    ·exact .inl h
    ·exact .inr ⟨j,t,by omega,ht,e⟩
   ·exact .inr ⟨m,t,by omega,ht,e⟩
theorem WN{a:Nat->Nat}{b:Nat->Nat->D7}{c:Nat->Nat}{x:Nat->D8}(d:∀i,a i=(x i).2.2.length):∀m,(fN (V7 a b c) m (0,[])).1=(z6 x m:Int)
 | 0=>rfl
 | m+1=>by
   show(fN (V7 a b c) m (0,[])).1+(a m:Int)=((z6 x m+(x m).2.2.length:Nat):Int);rw[WN d m,d m]; omega
theorem k0r{b:Nat->Nat}{a:Nat->Nat->D7}{c:Nat->Nat}{x:Nat->D8}(d:∀i,b i=(x i).2.2.length){l:w6}:∀m,l∈(fN (V7 b a c) m (0,[])).2->∃i j t,i<m/\j<c i/\t < (I7 (a i j).1 (a i j).2.2.2.1).length/\l=HL (z6 x i:Int) (a i j) j t
 | 0,h=>by cases h
 | m+1,h=>by
   rcases List.mem_append.1 (show l∈(fN (V7 b a c) m (0,[])).2++AE _ _ _ from h) with h | h
   ·obtain⟨i,j,t,hi,f⟩:=k0r d m h;exact⟨i,j,t,by omega,f⟩
   ·rcases n0G _ h with h | ⟨j,t,hj,ht,e⟩
    ·cases h
    ·rw[WN d m] at e;exact⟨m,j,t,by omega,hj,ht,e⟩
theorem j0A{d:Int}{a:List Int}{z:List w6}{l:w6}:∀k,l∈fN (BO d a) k z->l∈z∨∃j t,j<k/\t<2/\l=DA d (a.getD j 0) j t
 | 0,h=>.inl h
 | k+1,h=>by
   have h:l∈(fN (BO d a) k z++[DA d (a.getD k 0) k 0])++[DA d (a.getD k 0) k 1]:=h;rcases List.mem_append.1 h with h | h
   ·rcases List.mem_append.1 h with h | h
    ·rcases j0A k h with h | ⟨j,t,hj,ht,e⟩
     ·exact .inl h
     ·exact .inr ⟨j,t,by omega,ht,e⟩
    ·exact .inr ⟨k,0,by omega,by omega,List.mem_singleton.1 h⟩
   ·exact .inr ⟨k,1,by omega,by omega,List.mem_singleton.1 h⟩
theorem m0Z{d:Nat->Int}{a:Nat->List Int}{z:List w6}{l:w6}:∀m,l∈fN (Bi d a) m z->l∈z∨∃i j t,i<m/\j < (a i).length/\t<2/\l=DA (d i) ((a i).getD j 0) j t
 | 0,h=>.inl h
 | m+1,h=>by
   rcases j0A _ (show l∈fN (BO (d m) (a m)) _ (fN (Bi d a) m z) from h) with h | ⟨j,t,hj,ht,e⟩
   ·rcases m0Z m h with h | ⟨i,j,t,hi,hr⟩
    ·exact .inl h
    ·exact .inr ⟨i,j,t,by omega,hr⟩
   ·exact .inr ⟨m,j,t,by omega,hj,ht,e⟩
theorem WO(f a b x:Int)(tr:List (Int×Int))(s:List w6):∀k,fN (Ad f a b x tr) k s=s++fN (Ad f a b x tr) k []
 | 0=>(List.append_nil _).symm
 | k+1=>by
   show fN (Ad f a b x tr) k s++[_]=s++(fN (Ad f a b x tr) k []++[_]);rw[WO f a b x tr s k,List.append_assoc]
theorem n0H(f:Int)(a:Nat->D7)(s:List w6):∀m,fN (R1 f a) m s=s++AE f a m
 | 0=>(List.append_nil _).symm
 | m+1=>by
   show R1 f a m (fN (R1 f a) m s)=s++R1 f a m (AE f a m);rw[n0H f a s m];unfold R1;rw[WO,WO _ _ _ _ _ (AE f a m),List.append_assoc]
end Go.Proofs.Xd
end
section
namespace Go.Proofs.YtdjgagoledoaaaaGreatDoor
open Go Go.Proofs Go.Proofs.Sv Go.Proofs.Xv Go.Proofs.Xl Go.Proofs.Xd
theorem WQ(l:List w6)(f t a b k i:Int)(h:0<=f/\f<=1000)(g:0<=t/\t<=1000)(e:0<=a/\a<=1)(d:0<=b/\b<=1)(c:l.length<=100000):Fl l f t a b k i=some (l++[(2*f+a,2*t+b,k,i)]) :=
 gP ⟨oo,oo,oo,oo,⟨by grind,by grind⟩,trivial⟩
def I0A(k s:Int)(x y:Nat):Bool:=if(k==1)=true then s==3||(s==1)==((x:Int)==(y:Int)) else if(k==2)=true then(x:Int)==0 else if(k==3)=true then(x:Int)==1 else false
def DB(k s f t i:Int)(x y:Nat)(l:List w6):List w6:=if I0A k s x y=true then l++[(2*f+(x:Int),2*t+(y:Int),1,i)] else l
theorem r0p(k s f t i:Int)(x y:Nat)(l:List w6):(DB k s f t i x y l).length<=l.length+1:=by
 grind[DB]
theorem n0N(k s f t i:Int)(x:Nat)(l:List w6):∀n,(fN (DB k s f t i x) n l).length<=l.length+n
 | 0=>Nat.le_refl _
 | n+1=>by
   have h:=n0N k s f t i x l n
   grind[r0p,fN,DB]
theorem r73(a:A9)(l:List w6)(f t i:Int)(k:0<=f/\f<=1000)(j:0<=t/\t<=1000)(m:l.length<=90000):GO l a f t i=some (fN (fun x s=>fN (DB a.1 a.2.2.2.1 f t i x) 2 s) 2 l):=by
 unfold GO;refine lF (n:=2) (by decide) (fun(x:Nat) (s:List w6)=>((x:Int),s)) (fun x s=>fN (DB a.1 a.2.2.2.1 f t i x) 2 s) (fun x s=>s.length<=l.length+2*x) (J:=fun s=>some s) (F:=Ph f t i a) (fun g x s e b=>?_) (fun x s e b=>?_) (fun g s _=>by
  show Ph f t i a g (((2:Nat):Int),s)=_;rw[Ph];exact if_neg (by decide)) l (Nat.le_refl _)
 ·have b:s.length<=l.length+2*x:=b;refine(if_pos (decide_eq_true (by omega))).trans ?_;refine(lF (n:=2) (by decide) (fun(y:Nat) (s:List w6)=>((y:Int),s)) (DB a.1 a.2.2.2.1 f t i x) (fun y s=>s.length<=l.length+2*x+y) (J:=fun s=>TZ (x:Int) g s) (F:=Ua f t (x:Int) i a g) (fun c y s h b=>?_) (fun y s h b=>?_) (fun c s _=>by
   grind[Ua]) s b).trans ?_
  ·have b:s.length<=l.length+2*x+y:=b;have d:∀v,Pg (y:Int) c v=c (((y+1:Nat):Int),v):=fun v=>gP ⟨oo,trivial⟩;have o:∀v,Fm (y:Int) s f t (x:Int) i c v=c (((y+1:Nat):Int),if v=true then s++[(2*f+(x:Int),2*t+(y:Int),1,i)] else s):=fun v=>by
    cases v with
    | true=>rw[Fm,if_pos rfl,if_pos rfl,WQ s f t x y 1 i k j (by omega) (by omega) (by omega),gP ⟨rfl,trivial⟩,vS,lE,d]
    | false=>grind[Fm]
   refine(if_pos (decide_eq_true (by omega))).trans ?_
   grind[DB,I0A]
  ·grind[r0p]
  ·exact gP ⟨oo,trivial⟩
 grind[n0N]
theorem Wi{k s:Int}(h:(k=1/\(s=1∨s=2∨s=3))∨k=2∨k=3)(a A B i:Int)(l:List w6):fN (fun x z=>fN (DB k s (a+A) (a+B) i x) 2 z) 2 l=fN (Ad a A B i (I7 k s)) (I7 k s).length l:=by
 rcases h with ⟨rfl,rfl | rfl | rfl⟩ | rfl | rfl <;> rfl
theorem r74(d:r6)(f:wf y31 d){l:List m6}(a:DF l d){i k:Nat}(hi:i<d.1.length)(e:k < (m9 d i).2.2.length):X7 d (i:Int) (k:Int)=some ((z6 (m9 d) i+k:Nat):Int)/\z6 (m9 d) i+k < (r4 d).length:=by
 have o:=a.len;have c:z6 (m9 d) i+k < (r4 d).length:=by
  have:=Nt (m9 d) hi e;unfold r4;rw[JQ]; omega
 refine⟨?_,c⟩;unfold X7;rw[Dy d f a.fac.ni14 a.fac.np8 a.pin,vS,gP ⟨rfl,trivial⟩,lE];have q:∀j,j < (r4 d).length->((u4 d j).1==(i:Int)&&(u4 d j).2.1==(k:Int))=decide (j=z6 (m9 d) i+k):=fun j b=>s0g d.1.length d.2.2.length (m9 d) (A5 d) (b7 y151) hi e b;have m:=CE (n:=(r4 d).length) (by omega) (fun j=>(u4 d j).1==(i:Int)&&(u4 d j).2.1==(k:Int)) (F:=G0p (r4 d) (i:Int) (k:Int)) (fun g j b=>by
  have h:((j:Int)).toNat=j:=rfl;refine(if_pos (by grind)).trans ?_;rw[h,gP ⟨oo,b,(fun _=>oo),(fun _=>b),trivial⟩,gP ⟨oo,trivial⟩]) (fun g=>aE)
 grind
theorem w0c{b:j6}(j:p6 b=true){t:Nat}(o:t<b.2.2.length):U1 (W3 (u4 b.2.1) t) (r4 b.2.1).length=1:=by
 obtain⟨g,h,_⟩:=U0 j;have c:=R3 g;have e:CD _ _ _ _ _ _ _ _ _=true:=g;unfold CD at e;rw[ba] at e;have k:∀i,i<b.2.1.1.length->1<=(m9 b.2.1 i).2.2.length/\m0 ((m9 b.2.1 i).2.2.getD ((m9 b.2.1 i).2.2.length-1) 0) 0 ((b.2.1.2.1.length:Int)-1)=true:=fun i hi=>by
  have f:=(c.pin i hi).1;exact⟨f,c.fac.net.1 i hi _ (by omega)⟩
 obtain⟨n,l⟩:=q0m (d:=b7 y151) k (fun i hi=>c.fac.net.2 i hi) b.2.1.2.2.length (Nat.le_refl _);have a:=JG (p:=fun x=>x==1) e.2 (i:=t) (by
  grind[FI])
 have f:(FI b.2.1.1.length b.2.1.2.2.length b.2.1.2.1.length (m9 b.2.1) (A5 b.2.1)).getD t 0=1:=beq_iff_eq.1 a;have m:=l t (by omega);unfold FI at f
 grind[JQ,Int.ofNat.inj]
theorem r75(b:j6)(f:wf l6 b)(c:p6 b=true){t:Nat}(l:t<b.2.2.length):Lb b.2.1 (t:Int)=some (I8 b t)/\0<=I8 b t/\(I8 b t).toNat < (r4 b.2.1).length:=by
 have a:=R3 (U0 c).1;have o:=a.len;obtain⟨i,s,m,r,e⟩:=w0b (w0c c l);have q:I8 b t=(i:Int):=e;refine⟨?_,by omega,by omega⟩;unfold Lb;rw[Dy b.2.1 f.2.1 a.fac.ni14 a.fac.np8 a.pin,vS,gP ⟨rfl,trivial⟩,lE];have k:=CE (n:=(r4 b.2.1).length) (by omega) (W3 (u4 b.2.1) t) (F:=ZY (r4 b.2.1) (t:Int)) (fun g j d=>by
  have h:((j:Int)).toNat=j:=rfl;refine(if_pos (by grind)).trans ?_;rw[h,gP ⟨oo,d,(fun _=>oo),(fun _=>d),trivial⟩,gP ⟨oo,trivial⟩];rfl) (fun g=>aE)
 grind
theorem n0L{c:m6}(h:BQ F3 c=true){j:Nat}(a:j<c.2.2.2.1.length):F3 c.2.2.1.length (s9 c) (o3 c j)=true:=by
 grind[V5,F3,Hy]
theorem r0o{n:Nat}{p:Nat->N0}{a:D7}(h:F3 n p a=true)(c:a.1<=3):((a.1=1/\(a.2.2.2.1=1∨a.2.2.2.1=2∨a.2.2.2.1=3))∨a.1=2∨a.1=3)/\F9 a.2.2.2.2.1 true=true/\F9 a.2.2.2.2.2 true=true:=by
 unfold F3 at h;simp only[ba] at h;obtain⟨_,h⟩:=h;by_cases b:a.1=1
 ·rw[if_pos b] at h;simp only[ba] at h
  grind[y9]
 grind
theorem r0S{k s:Int}(h:3<k):I7 k s=[]:=by
 grind[I7]
theorem r0T{k s:Int}(h:0 < (I7 k s).length):k=1∨k=2∨k=3:=by
 grind[I7]
def HM(b:j6)(i:Nat)(s:List w6):List w6:=s++AE (z6 (m9 b.2.1) i) (o3 (x6 b i)) (x6 b i).2.2.2.1.length
theorem WR(b:j6):∀n,fN (HM b) n []=(fN (Bk b) n (0,[])).2
 | 0=>rfl
 | n+1=>by
   show HM b n (fN (HM b) n [])=(fN (Bk b) n (0,[])).2++AE (fN (Bk b) n (0,[])).1 (o3 (x6 b n)) (x6 b n).2.2.2.1.length;have a:(fN (Bk b) n (0,[])).1=(z6 (m9 b.2.1) n:Int):=WN (fun _=>rfl) n;rw[WR b n,a]; rfl
theorem r0U{b:j6}(a:DF b.1 b.2.1){t:Int}{k:Nat}(c:k < (x8 b.2.1 t).length):0<=(x8 b.2.1 t).getD k 0/\(x8 b.2.1 t).getD k 0<=1000:=by
 have:=Nr c;have:=a.len;omega
theorem HN(b:j6)(V:wf l6 b)(r:p6 b=true):u32 b=some (lV b):=by
 obtain⟨w,h,E⟩:=U0 r;have d:=R3 w;have P:=V.2.1;have Y:=d.fac.ni14;have aA:=d.fac.nn30;have aB:=d.len;unfold u32;refine(lF (n:=b.2.1.1.length) (by omega) (fun(i:Nat) (s:List w6)=>((i:Int),s)) (HM b) (fun i s=>s.length<=32*i) (J:=Pj b) (F:=H0d b) (fun g i s hi c=>?_) (fun i s hi c=>?_) (fun g s _=>aE) [] (Nat.le_refl _)).trans ?_
 ·have c:s.length<=32*i:=c;have e3:((i:Int)).toNat=i:=rfl;obtain⟨Q,t,x3⟩:=FN d hi;obtain⟨c1,c2,c3,c4⟩:=FO t;have a:=fun k e=>r74 b.2.1 P d (i:=i) (k:=k) hi e;refine(if_pos (by grind)).trans ?_;rw[e3,gP ⟨oo,Q,trivial⟩,lE];refine(lF (n:=(x6 b i).2.2.2.1.length) (by omega) (fun(j:Nat) (z:List w6)=>((j:Int),z)) (R1 (z6 (m9 b.2.1) i) (o3 (x6 b i))) (fun j z=>z.length<=s.length+4*j) (J:=Uc (i:Int) g) (F:=H0c (x6 b i) b (i:Int) g) (fun l j z H hz=>?_) (fun j z H hz=>?_) (fun l z _=>aE) s (Nat.le_refl _)).trans ?_
  ·have hz:z.length<=s.length+4*j:=hz;have G:((j:Int)).toNat=j:=rfl;obtain⟨a1,a2,a3,a4⟩:=c4 j H;have ha:=n0L t H;have T:∀v,Lc (j:Int) l v=l (((j+1:Nat):Int),v):=fun v=>gP ⟨oo,trivial⟩;refine(if_pos (by grind)).trans ?_;rw[G,gP ⟨oo,trivial⟩];show(if decide ((o3 (x6 b i) j).1<=3)=true then _ else _)=l (((j+1:Nat):Int),R1 (z6 (m9 b.2.1) i) (o3 (x6 b i)) j z);by_cases e:(o3 (x6 b i) j).1<=3
   ·refine(if_pos (decide_eq_true e)).trans ?_;obtain⟨k1,k2,k3⟩:=r0o ha e;obtain⟨A,hA⟩:∃A:Nat,(o3 (x6 b i) j).2.1=(A:Int):=⟨(o3 (x6 b i) j).2.1.toNat,by omega⟩;obtain⟨B,hB⟩:∃B:Nat,(o3 (x6 b i) j).2.2.1=(B:Int):=⟨(o3 (x6 b i) j).2.2.1.toNat,by omega⟩;obtain⟨fA,lA⟩:=a A (by omega);obtain⟨fB,lB⟩:=a B (by omega);have W:=r73 (o3 (x6 b i) j) z ((z6 (m9 b.2.1) i+A:Nat):Int) ((z6 (m9 b.2.1) i+B:Nat):Int) (j:Int) (by omega) (by omega) (by omega);have X:=Wi k1 (z6 (m9 b.2.1) i:Int) (A:Int) (B:Int) (j:Int) z;rw[<- Int.natCast_add,<- Int.natCast_add] at X;rw[X] at W;show gd (ix (j:Int) (x6 b i).2.2.2.1.length/\ix (j:Int) (x6 b i).2.2.2.1.length/\(X7 b.2.1 (i:Int) (o3 (x6 b i) j).2.1).isSome=true/\ix (j:Int) (x6 b i).2.2.2.1.length/\(X7 b.2.1 (i:Int) (o3 (x6 b i) j).2.2.1).isSome=true/\(GO z (o3 (x6 b i) j) (vl (X7 b.2.1 (i:Int) (o3 (x6 b i) j).2.1)) (vl (X7 b.2.1 (i:Int) (o3 (x6 b i) j).2.2.1)) (j:Int)).isSome=true/\True) (lt (vl (GO z (o3 (x6 b i) j) (vl (X7 b.2.1 (i:Int) (o3 (x6 b i) j).2.1)) (vl (X7 b.2.1 (i:Int) (o3 (x6 b i) j).2.2.1)) (j:Int))) fun v=>Lc (j:Int) l v)=_;rw[hA,hB,fA,fB,vS,vS,W,vS,gP ⟨oo,oo,rfl,oo,rfl,rfl,trivial⟩,lE,T]
    grind[R1]
   ·refine(if_neg (by grind)).trans ?_;rw[T];unfold R1;rw[r0S (by omega)];rfl
  ·grind[Ws]
  ·rw[n0H];exact gP ⟨oo,trivial⟩
 ·have c:s.length<=32*i:=c;obtain⟨Q,t,x3⟩:=FN d hi;have c3:=(FO t).2.2.1;have:=Ni (z6 (m9 b.2.1) i) (o3 (x6 b i)) (x6 b i).2.2.2.1.length
  grind[HM,List.length_append]
 ·have f:(fN (HM b) b.2.1.1.length []).length<=500:=by
   have:=WL d b.2.1.1.length (Nat.le_refl _);rw[WR];omega
  have u:fN (HM b) b.2.1.1.length []=JP b:=WR b _;unfold lV;rw[u] at f ⊢;generalize JP b=z at f ⊢;unfold Pj;rw[h];refine lF (n:=b.2.1.2.1.length) (by omega) (fun(i:Nat) (s:List w6)=>((i:Int),s)) (Bi (I8 b) (fun i=>x8 b.2.1 i)) (fun i s=>s.length<=500+160*i) (J:=fun s=>some s) (F:=H0b b) (fun g i s hi c=>?_) (fun i s hi c=>?_) (fun g s _=>aE) z f
  ·have c:s.length<=500+160*i:=c;have q:i<b.2.2.length:=by omega
   have o:=(Bj r q).s78;obtain⟨d1,d2,d3⟩:=r75 b V r q;have es:S7 b.2.1 (i:Int)=some (x8 b.2.1 i):=WJ b.2.1 P d _;refine(if_pos (by grind)).trans ?_;rw[d1,vS,gP ⟨rfl,trivial⟩,lE,es,vS,gP ⟨rfl,trivial⟩,lE];refine(lF (n:=(x8 b.2.1 i).length) (by omega) (fun(k:Nat) (y:List w6)=>((k:Int),y)) (BO (I8 b i) (x8 b.2.1 i)) (fun k y=>y.length=s.length+2*k) (J:=Ub (i:Int) g) (F:=H0a (I8 b i) (x8 b.2.1 i) (i:Int) g) (fun g8 k y e x=>?_) (fun k y e x=>?_) (fun g8 y _=>aE) s rfl).trans ?_
   ·have x:y.length=s.length+2*k:=x;have G:((k:Int)).toNat=k:=rfl;have m:=r0U d e;have p1:=WQ y (I8 b i) ((x8 b.2.1 i).getD k 0) 0 0 2 (k:Int) (by omega) m oo oo (by omega);have p2:=WQ (y++[(2*I8 b i+0,2*(x8 b.2.1 i).getD k 0+0,2,(k:Int))]) (I8 b i) ((x8 b.2.1 i).getD k 0) 1 1 2 (k:Int) (by omega) m oo oo (by grind);refine(if_pos (by grind)).trans ?_;rw[G,p1,vS,gP ⟨oo,e,rfl,trivial⟩,lE,p2,vS,gP ⟨oo,e,rfl,trivial⟩,lE];exact gP ⟨oo,trivial⟩
   ·grind[Ww]
   ·exact gP ⟨oo,trivial⟩
  ·have c:s.length<=500+160*i:=c;have o:=(Bj r (show i<b.2.2.length by omega)).s78;unfold Bi
   grind[Rg]
theorem K3{b:j6}(d:p6 b=true):(lV b).length<=6000:=by
 have a:=R3 (U0 d).1;have e:=a.fac.ni14;have k:=WL a b.2.1.1.length (Nat.le_refl _);have g:=q0G (I8 b) (fun i=>x8 b.2.1 i) (JP b) (n:=b.2.2.length) (c:=78) (fun i hi=>(Bj d hi).s78) b.2.2.length (Nat.le_refl _);have j:=(U0 d).2.1;have f:=a.fac.nn30;have h:(JP b).length=(fN (Bk b) b.2.1.1.length (0,[])).2.length:=rfl
 grind[lV]
theorem WS{b:j6}{l:w6}(h:l∈lV b):(∃i j t,i<b.2.1.1.length/\j < (x6 b i).2.2.2.1.length/\t < (I7 (o3 (x6 b i) j).1 (o3 (x6 b i) j).2.2.2.1).length/\l=HL (z6 (m9 b.2.1) i:Int) (o3 (x6 b i) j) j t) ∨
  ∃i k t,i<b.2.2.length/\k < (x8 b.2.1 i).length/\t<2/\l=DA (I8 b i) ((x8 b.2.1 i).getD k 0) k t:=by
 rcases m0Z _ h with h | h
 ·exact .inl (k0r (fun _=>rfl) _ h)
 grind
end Go.Proofs.YtdjgagoledoaaaaGreatDoor
end
section
namespace Go.Proofs.Xd
open Go Go.Proofs.Xv Go.Proofs.Xl
theorem z0U{xs:List Int}(h:F8 xs=true):∀i,0<i->i<xs.length->xs.getD (i-1) 0<xs.getD i 0:=by
 simp only[F8,ba,dq] at h;intro i a hi;have:=BM.1 h.2 i hi;simp only[Bool.and_eq_false_iff,decide_eq_false_iff_not] at this;omega
theorem w0A{xs:List Int}(h:F8 xs=true):∀k i,i+k<xs.length->0<k->xs.getD i 0<xs.getD (i+k) 0:=by
 intro k
 induction k with
 | zero=>intro i _ d; omega
 | succ k c =>
   intro i hi _;have a:=z0U h (i+(k+1)) (by omega) hi;have e:i+(k+1)-1=i+k:=by omega
   rw[e] at a;by_cases b:k=0
   ·subst b; exact a
   ·have:=c i (by omega) (by omega); omega
theorem CG{xs:List Int}(h:F8 xs=true){i j:Nat}(a:i<j)(b:j<xs.length):xs.getD i 0<xs.getD j 0:=by
 have:=w0A h (j-i) i (by omega) (by omega);have e:i+(j-i)=j:=by omega
 rwa [e] at this
theorem Nu{xs:List Int}(h:F8 xs=true){i:Nat}(hi:i<xs.length):0<=xs.getD i 0/\xs.getD i 0<=100000:=by
 simp only[F8,ba,dq] at h;have a:=h.1.2;rw[List.all_eq_true] at a;have e:xs.getD i 0=xs[i]:=by rw[gq,List.getElem?_eq_getElem hi]; rfl
 rw[e];exact y9.1 (a _ (List.getElem_mem hi))
theorem p0P{t:Dt}(h:C5 t=true){i:Nat}(hi:i<t.2.2.length) : -1000000<=t.2.2.getD i 0/\t.2.2.getD i 0<=1000000:=by
 simp only[C5,ba,dq] at h;have a:=h.2;rw[List.all_eq_true] at a;have e:t.2.2.getD i 0=t.2.2[i]:=by rw[gq,List.getElem?_eq_getElem hi]; rfl
 rw[e];exact y9.1 (a _ (List.getElem_mem hi))
theorem w0B{xs:List Int}(h:F8 xs=true){x:Int}(_:xs.getD 0 0<=x)(o:x<=xs.getD (xs.length-1) 0):∃p,p<xs.length/\(∀i,i<p->xs.getD i 0<x)/\(∀i,p<=i->i<xs.length->x<=xs.getD i 0):=by
 have c:∀m,m<=xs.length->(∃p,p<m/\(∀i,i<p->xs.getD i 0<x)/\x<=xs.getD p 0)∨∀i,i<m->xs.getD i 0<x:=by
  intro m
  induction m with
  | zero=>exact fun _=>.inr fun i hi=>by omega
  | succ m f =>
    intro n;rcases f (by omega) with ⟨p,e,a,d⟩ | a
    ·exact .inl ⟨p,by omega,a,d⟩
    ·by_cases g:x<=xs.getD m 0
     ·exact .inl ⟨m,by omega,a,g⟩
     ·exact .inr fun i hi=>by
       by_cases b:i=m
       ·subst b; omega
       ·exact a i (by omega)
 have l:=CB h;rcases c xs.length (Nat.le_refl _) with ⟨p,e,a,d⟩ | a
 ·refine⟨p,e,a,fun i j hi=>?_⟩;by_cases k:p=i
  ·subst k; exact d
  ·have:=CG h (by omega:p<i) hi; omega
 ·have:=a (xs.length-1) (by omega); omega
theorem BS{a ρ:Type}{F:(a->Option ρ)->a->Option ρ}{s:a}{r:Option ρ}(k:Nat)(b:k<=9223372036854775807)(h:∀n,H3 F (n+k) s=r):lp F s=r:=by
 have e:U2=(U2-k)+k:=by have:=Rq b; omega
 unfold lp;rw[e];exact h _
theorem D0Z(i j:Nat):((i:Int)+(j:Int)).fdiv ((2:Int) ^ Int.toNat (1:Int))=((((i+j) / 2:Nat)):Int):=by
 have e:(2:Int) ^ Int.toNat (1:Int)=2:=by decide
 rw[e,Int.fdiv_eq_ediv_of_nonneg _ (by omega)];omega
theorem J7{x y A B:Int}(f : -A<=x)(b:x<=A)(a:0<=y)(c:y<=B)(d:0<=A) : -(A*B)<=x*y/\x*y<=A*B:=by
 have g:x*y<=A*y:=Int.mul_le_mul_of_nonneg_right b a;have h:A*y<=A*B:=Int.mul_le_mul_of_nonneg_left c d;have e : -A*y<=x*y:=Int.mul_le_mul_of_nonneg_right f a;rw[Int.neg_mul] at e;omega
theorem Rr{p q b a:Nat}(c:p<b)(e:q<a):p*a+q<b*a:=by
 have d:(p+1)*a<=b*a:=Nat.mul_le_mul_right _ c;rw[Nat.add_mul,Nat.one_mul] at d;omega
end Go.Proofs.Xd
end
section
namespace Go.Proofs.Xd
open Go Go.Proofs Go.Proofs.Xl
def u0(a b m:Int):Int:=if(decide (a.tmod b<0)&&m==0)=true then a.tdiv b-1 else if(decide (0<a.tmod b)&&m==1)=true then a.tdiv b+1 else a.tdiv b
theorem FP{a b K:Int}(m:Int)(c:0<b)(s : -(K*b)<=a)(k:a<=K*b) : -K<=u0 a b m/\u0 a b m<=K:=by
 have e:=Int.mul_tdiv_add_tmod a b;have n:=Int.tmod_lt_of_pos a c;have j:=Int.lt_tmod_of_pos a c;have o:b*K=K*b:=Int.mul_comm _ _;have g:∀q:Int,b*q<b*K+b->q<=K:=fun q h=>by
  have:b*q<b*(K+1):=by rw[Int.mul_add,Int.mul_one]; exact h
  have:=Int.lt_of_mul_lt_mul_left this (Int.le_of_lt c);omega
 have f:∀q:Int,-(b*K)-b<b*q -> -K<=q:=fun q h=>by
  have:b*(-K-1)<b*q:=by rw[Int.mul_sub,Int.mul_one,Int.mul_neg]; exact h
  have:=Int.lt_of_mul_lt_mul_left this (Int.le_of_lt c);omega
 have d:∀q:Int,b*q<b*K->q<K:=fun q h=>Int.lt_of_mul_lt_mul_left h (Int.le_of_lt c);have i:∀q:Int,-(b*K)<b*q -> -K<q:=fun q h=>by
  have:b*(-K)<b*q:=by rw[Int.mul_neg]; exact h
  exact Int.lt_of_mul_lt_mul_left this (Int.le_of_lt c)
 have l:=g (a.tdiv b) (by omega);have r:=f (a.tdiv b) (by omega);unfold u0;split
 ·rename_i h;rw[ba,dq] at h;have:=i (a.tdiv b) (by omega);omega
 ·split
  ·rename_i h;rw[ba,dq] at h;have:=d (a.tdiv b) (by omega);omega
  ·omega
theorem WU{a ρ:Type}{F:(a->Option ρ)->a->Option ρ}{J:a->Option ρ}(d:a->Nat)(I:a->Prop)(c:a->Bool)(nx:a->a)
  (e:∀g s,I s->F g s=if c s=true then g (nx s) else J s) (l:∀s,I s->c s=true->I (nx s)/\d (nx s)<d s) (s:a) (b:I s) (t:d s<=9223372036854775806):∃s',I s'/\c s'=false/\lp F s=J s':=by
 have f:∀(n:Nat) (s:a),d s<=n->I s->∃s',I s'/\c s'=false/\∀k,H3 F (k+(n+1)) s=J s':=by
  intro n
  induction n with
  | zero =>
    intro s o b;cases hc:c s with
    | true=>have:=(l s b hc).2; omega
    | false=>exact⟨s,b,hc,fun k=>by show F (H3 F k) s=_; rw[e _ _ b,hc]; rfl⟩
  | succ n m =>
    intro s o b;cases hc:c s with
    | true =>
      obtain⟨i,j⟩:=l s b hc;obtain⟨s',h,q,r⟩:=m (nx s) (by omega) i;refine⟨s',h,q,fun k=>?_⟩;show F (H3 F (k+(n+1))) s=_;rw[e _ _ b,hc,if_pos rfl];exact r k
    | false=>exact⟨s,b,hc,fun k=>by show F (H3 F (k+(n+1))) s=_; rw[e _ _ b,hc]; rfl⟩
 obtain⟨s',i,j,h⟩:=f (d s) s (Nat.le_refl _) b;exact⟨s',i,j,BS (d s+1) (by omega) h⟩
def Bl(n r:Int):Prop:=0<=r/\r*r<=n/\n < (r+1)*(r+1)
theorem D0F{a b:Int}(c:0<=a)(h:a<=b):a*a<=b*b:=Int.mul_le_mul h h c (Int.le_trans c h)
theorem WV{a b:Int}(c:0<=a)(h:a<b):a*a<b*b:=by
 have:=Int.mul_le_mul (show a+1<=b by omega) (show a+1<=b by omega) (by omega) (by omega);have e:(a+1)*(a+1)=a*a+2*a+1:=by rw[Int.add_mul,Int.mul_add,Int.one_mul,Int.mul_one]; omega
 omega
theorem q0H{a b:Int}(c:0<=b)(h:a*a<b*b):a<b:=by
 by_cases d:a<b
 ·exact d
 ·have:=D0F c (show b<=a by omega); omega
theorem WW{l h:Int}(b:0<=l)(a:l<h):(l+h+1).tdiv 2=(l+h+1) / 2/\l < (l+h+1) / 2/\(l+h+1) / 2<=h:=by
 refine⟨Int.tdiv_eq_ediv_of_nonneg (by omega),by omega,by omega⟩
end Go.Proofs.Xd
end
section
namespace Go.Proofs.YtdjgagoledoaaaaGreatDoor
open Go Go.Proofs Go.Proofs.Xv Go.Proofs.Xl Go.Proofs.Xd
theorem U3(a b m:Int)(h : -1000000000000000000<=a)(k:a<=1000000000000000000)(d:0<b):BF a b m=some (u0 a b m)/\U9 a b m=some (u0 a b m):=by
 have j:a.tdiv b<=1000000000000000000 /\ -1000000000000000000<=a.tdiv b:=by
  have i:(a.tdiv b).natAbs<=a.natAbs:=by
   rw[Int.natAbs_tdiv];exact Nat.div_le_self _ _
  omega
 have g:c9 (a.tdiv b-1)/\True:=⟨oo,trivial⟩;have f:c9 (a.tdiv b+1)/\True:=⟨oo,trivial⟩;unfold BF U9 u0;rw[gP (V:=0<b/\0<b/\True) ⟨d,d,trivial⟩,gP (V:=0<b/\True) ⟨d,trivial⟩,gP (V:=0<b/\True) ⟨d,trivial⟩,gP g,gP f,Bool.and_comm (m==0),Bool.and_comm (m==1)];by_cases c:(decide (a.tmod b<0)&&m==0)=true
 ·rw[if_pos c,if_pos c]; exact⟨rfl,rfl⟩
 ·by_cases e:(decide (0<a.tmod b)&&m==1)=true
  ·rw[if_neg c,if_pos e,if_neg c,if_pos e]; exact⟨rfl,rfl⟩
  ·rw[if_neg c,if_neg e,if_neg c,if_neg e]; exact⟨rfl,rfl⟩
end Go.Proofs.YtdjgagoledoaaaaGreatDoor
end
section
namespace Go.Proofs.YtdjgagoledoaaaaGreatDoor
open Go Go.Proofs Go.Proofs.Sv Go.Proofs.Xv Go.Proofs.Xl Go.Proofs.Xd
theorem N0O(l:List m6)(d:r6)(a:DF l d){p:B2}(b:p∈r4 d):GI l d p=some (FM l d p):=by
 unfold GI FM;rcases WK a b with h | ⟨h1,h2,h3,h4,h5,h6⟩
 ·grind
 ·refine(if_neg (by grind)).trans ?_;rw[if_neg (by omega),gP ⟨oo,⟨h3,by grind⟩,⟨h5,by grind⟩,trivial⟩];rfl
theorem O0e(xs:List Int)(h:xs.length<=1048576):J9 xs=some xs:=gP ⟨oo,trivial⟩
theorem M0p(b:j6)(w:wf l6 b){i:Nat}(h:NetOk b i):Ax b (i:Int)=some (z7 b i):=by
 have r:=w.2.1;have df:=h.df;have hb:=w.2.2.1;have hi:=h.lt;have n1:=h.wf.n1;have n8:=h.wf.n8;have Q:=h.sn;have hs:=h.s78;have z:=h.wf.cap;unfold Ax;have H:((i:Int)).toNat=i:=rfl;have X:S7 b.2.1 (i:Int)=some (x8 b.2.1 i):=WJ b.2.1 r df _;rw[gP ⟨oo,trivial⟩,lE,H,O0e _ (by grind),vS,gP ⟨rfl,trivial⟩,lE,Dy b.2.1 r df.fac.ni14 df.fac.np8 df.pin,vS,gP ⟨rfl,trivial⟩,lE,X,vS,gP ⟨rfl,trivial⟩,lE];have m:=lF (n:=(x8 b.2.1 i).length) (by omega) (fun k (s:List Int)=>((k:Int),s)) (BN (u5 b i) (V9 b i)) (fun k v=>Low v (m3 b i).1.length (500*((m3 b i).1.length:Int)+500*(k:Int))) (J:=Pb (m3 b i)) (F:=ZJ b (r4 b.2.1) (x8 b.2.1 i) (m3 b i)) (fun g k v c a=>by
  have T:((k:Int)).toNat=k:=rfl;obtain⟨t,o,y,P⟩:=h.capIn c;obtain⟨G,x⟩:=Nr c;have hv:=a.bd (by omega) (u5 b i k).toNat;have d:0<=(m3 b i).2.2.2.getD k 0:=t;have f:((m3 b i).2.2.2.getD k 0).toNat<v.length:=by rw[a.len]; exact o
  refine(if_pos (by grind)).trans ?_;rw[T,N0O b.1 b.2.1 df (Rn x),vS];rw[gP ⟨oo,⟨d,by omega⟩,f,oo,c,⟨G,by omega⟩,x,rfl,⟨by grind[u5,V9],by grind[u5,V9]⟩,⟨d,by omega⟩,f,trivial⟩,lE];exact gP ⟨oo,trivial⟩) (fun k v c a=>by
  obtain⟨t,o,y,P⟩:=h.capIn c;have:=a.add o y;refine⟨this.len,this.pos,Int.le_trans this.sum ?_⟩;omega) (fun g s _=>aE) (m3 b i).2.2.1 (by
  have:=h.low 0 (Nat.zero_le _);exact this)
 refine m.trans ?_;have j:=(h.low _ (Nat.le_refl _)).len;have l:=h.pull 0 (Nat.zero_le _);have Y:z7 b i=fN (V6 (R4 b i) (m3 b i).1.length) ((m3 b i).1.length-1) (fN (BN (u5 b i) (V9 b i)) (x8 b.2.1 i).length (m3 b i).2.2.1):=rfl;rw[Y];have q:=h.pull;generalize fN (BN (u5 b i) (V9 b i)) (x8 b.2.1 i).length (m3 b i).2.2.1=v0 at j l q ⊢;rw[Pb,j,gP ⟨oo,trivial⟩];have V:(((m3 b i).1.length:Int)-1,v0)=(fun(k:Nat) (s:List Int)=>(((m3 b i).1.length:Int)-1-(k:Int),s)) 0 v0:=by simp
 rw[V];exact lF (n:=(m3 b i).1.length-1) (by omega) (fun(k:Nat) (s:List Int)=>(((m3 b i).1.length:Int)-1-(k:Int),s)) (V6 (R4 b i) (m3 b i).1.length) (fun k v=>JI v (m3 b i).1.length k 43000) (J:=fun s=>some s) (F:=IP (m3 b i)) (fun g k v c a=>by
  have W:=h.wf.par ((m3 b i).1.length-1-k) (by omega) (by omega);have e:0<=(m3 b i).1.getD ((m3 b i).1.length-1-k) 0/\((m3 b i).1.getD ((m3 b i).1.length-1-k) 0).toNat < (m3 b i).1.length-1-k:=W;have u:=a.len;have E:((m3 b i).1.length:Int)-1-(k:Int)=(((m3 b i).1.length-1-k:Nat):Int):=by omega
  have e7:((((m3 b i).1.length-1-k:Nat):Int)).toNat=(m3 b i).1.length-1-k:=rfl;have b1:=a.pos ((m3 b i).1.getD ((m3 b i).1.length-1-k) 0).toNat;have b2:=a.bd ((m3 b i).1.getD ((m3 b i).1.length-1-k) 0).toNat;have b3:=a.pos ((m3 b i).1.length-1-k);have b4:=a.bd ((m3 b i).1.length-1-k);have e8:((m3 b i).1.length:Int)-1-((k+1:Nat):Int)=(((m3 b i).1.length-1-k:Nat):Int)-1:=by omega
  show IP (m3 b i) g (((m3 b i).1.length:Int)-1-(k:Int),v)=g (((m3 b i).1.length:Int)-1-((k+1:Nat):Int),V6 (R4 b i) (m3 b i).1.length k v);rw[e8,E];refine(if_pos (decide_eq_true (by omega))).trans ?_;rw[e7,gP ⟨oo,⟨e.1,by omega⟩,by omega,oo,by omega,oo,⟨e.1,by omega⟩,by omega,trivial⟩,lE];exact gP ⟨oo,trivial⟩) (fun k v c a=>Wo a c (h.wf.par _ (by omega) (by omega))) (fun g s _=>by
  have e9:((m3 b i).1.length:Int)-1-(((m3 b i).1.length-1:Nat):Int)=0:=by omega
  show IP (m3 b i) g (((m3 b i).1.length:Int)-1-(((m3 b i).1.length-1:Nat):Int),s)=some s;rw[e9];have:IP (m3 b i) g (0,s)=TR s:=by
   rw[IP];exact if_neg (by decide)
  exact this.trans rfl) v0 l
theorem M0o(b:j6)(f:wf l6 b){i:Nat}(h:NetOk b i):Cp b (i:Int)=some (A6 b i):=by
 have hi:=h.lt;have y:=f.2.2.1;have n1:=h.wf.n1;have n8:=h.wf.n8;have E:=h.wf.res;obtain⟨z,e⟩:=h.loads;have u:((i:Int)).toNat=i:=rfl;unfold Cp;rw[M0p b f h,vS,gP ⟨oo,trivial⟩,lE,gP ⟨rfl,trivial⟩,lE,u];have t:((1:Int),[(0:Int)])=(fun(k:Nat) (s:List Int)=>(((k+1:Nat):Int),s)) 0 [0]:=rfl;rw[t];refine(lF (n:=(m3 b i).1.length-1) (by omega) (fun(k:Nat) (s:List Int)=>(((k+1:Nat):Int),s)) (Q9 (R4 b i) (CF b i) (fun k=>(z7 b i).getD k 0)) (fun k s=>s.length=k+1/\∀j,0<=s.getD j 0/\s.getD j 0<=1000*43000*(k:Int)) (J:=fun s=>some s) (F:=TT (m3 b i) (z7 b i)) (fun g k s w d=>?_) (fun k s w d=>?_) (fun g s d=>?_) [0] ?_)
 ·obtain⟨m,l⟩:=d;have x:=h.wf.par (k+1) (by omega) (by omega);have q:(((k+1:Nat):Int)).toNat=k+1:=rfl;have c:=h.wf.resIn (k+1) (by omega);have a:=e (k+1);have r:=Ng c.1 c.2 a.1 a.2;have o:=l ((m3 b i).1.getD (k+1) 0).toNat;refine(if_pos (by grind)).trans ?_;rw[q,gP ⟨oo,⟨x.1,by omega⟩,by omega,oo,oo,by omega,oo,oo,⟨by grind,by grind⟩,trivial⟩,lE];exact gP ⟨oo,trivial⟩
 ·obtain⟨m,l⟩:=d;have c:=h.wf.resIn (k+1) (by omega);have a:=e (k+1);have r:=Ng c.1 c.2 a.1 a.2
  grind[R4,Q9,List.length_append,CF,z7,Nat.lt_or_ge,JJ,Wp,List.getD_cons_zero,List.getD_cons_succ,List.getD_nil]
 ·have v:(m3 b i).1.length-1+1=(z7 b i).length:=by omega
  show TT (m3 b i) (z7 b i) g ((((m3 b i).1.length-1+1:Nat):Int),s)=some s;rw[v];exact aE
 grind
def Rs(b:j6)(i:Nat)(m:Int):List Int:=fN (AF fun k=>u0 ((A6 b i).getD (u5 b i k).toNat 0) 1000 m) (x8 b.2.1 i).length []
theorem O0a(b:j6)(e:wf l6 b){i:Nat}(h:NetOk b i)(m:Int):GN b (i:Int) m=some (Rs b i m):=by
 have hi:=h.lt;have u:=e.2.2.1;have d:=h.sn;have w:=h.s78;obtain⟨o,r⟩:=h.delays;have j:((i:Int)).toNat=i:=rfl;unfold GN;rw[M0o b e h,vS,gP ⟨rfl,trivial⟩,lE];unfold Rs;rw[<- d];refine lF (n:=(m3 b i).2.2.2.length) (by omega) (fun(k:Nat) (s:List Int)=>((k:Int),s)) (AF fun k=>u0 ((A6 b i).getD (u5 b i k).toNat 0) 1000 m) (fun k s=>s.length=k) (J:=fun s=>some s) (F:=ZP (A6 b i) b (i:Int) m) (fun g k s c a=>?_) (fun k s c a=>?_) (fun g s _=>?_) [] rfl
 ·have f:((k:Int)).toNat=k:=rfl;have t:0<=(b.2.2.getD i (b7 l9)).2.2.2.getD k 0/\((b.2.2.getD i (b7 l9)).2.2.2.getD k 0).toNat < (A6 b i).length:=by rw[o]; exact h.wf.snkIn k c
  have q:k < (b.2.2.getD i (b7 l9)).2.2.2.length:=c;have a:s.length=k:=a;have v:=r ((m3 b i).2.2.2.getD k 0).toNat;have l:=(U3 ((A6 b i).getD ((m3 b i).2.2.2.getD k 0).toNat 0) 1000 m (by omega) (by omega) (by decide)).2;refine(gP ⟨oo,trivial⟩).trans ?_;refine(if_pos (by grind)).trans ?_;rw[j,f,l,vS,gP ⟨oo,oo,⟨t.1,by omega⟩,by omega,rfl,⟨by grind,by grind⟩,trivial⟩,lE];exact gP ⟨oo,trivial⟩
 ·grind[AF,List.length_append]
 ·refine(gP ⟨oo,trivial⟩).trans ?_;exact aE
theorem u0E{b:j6}{i k:Nat}{m:Int}(a:k < (x8 b.2.1 i).length):(Rs b i m).getD k 0=u0 ((A6 b i).getD (u5 b i k).toNat 0) 1000 m:=JL _ 0 _ k a
theorem u0D(b:j6)(i:Nat)(m:Int):(Rs b i m).length=(x8 b.2.1 i).length:=FK _ _
end Go.Proofs.YtdjgagoledoaaaaGreatDoor
end
section
namespace Go.Proofs.Xd
open Go Go.Proofs Go.Proofs.Xl
def HO(n:Int)(s:Int×Int):Int×Int:=if decide ((s.1+s.2+1).tdiv 2*(s.1+s.2+1).tdiv 2<=n)=true then((s.1+s.2+1).tdiv 2,s.2) else(s.1,(s.1+s.2+1).tdiv 2-1)
theorem v0u{F:(Int×Int->Option Int)->Int×Int->Option Int}{J:Int->Option Int}{n H:Int}(w:0<=n)(k:n < (H+1)*(H+1))(d:0<=H)(u:H<=3000000000)
  (m:∀g (s:Int×Int),0<=s.1->s.1<=s.2->s.2<=H->F g s=if decide (s.1<s.2)=true then g (HO n s) else J s.1):∃r,Bl n r/\r<=H/\lp F (0,H)=J r:=by
 obtain⟨f,⟨v,i2,i3,i4,i5⟩,b,o⟩:=WU (J:=fun s:Int×Int=>J s.1) (fun s=>(s.2-s.1).toNat) (fun s=>0<=s.1/\s.1<=s.2/\s.2<=H/\s.1*s.1<=n/\n < (s.2+1)*(s.2+1)) (fun s=>decide (s.1<s.2)) (HO n)
  (fun g s c=>m g s c.1 c.2.1 c.2.2.1) (fun s c b=>by
    obtain⟨h,y,q,l,i⟩:=c;have b:=of_decide_eq_true b;obtain⟨j,x,t⟩:=WW h b;unfold HO;rw[j];split
    ·rename_i a;have a:=of_decide_eq_true a;exact⟨⟨by show 0<=(s.1+s.2+1) / 2; omega,t,q,a,i⟩,by show(s.2-(s.1+s.2+1) / 2).toNat < (s.2-s.1).toNat; omega⟩
    ·rename_i a;have a:n < (s.1+s.2+1) / 2*((s.1+s.2+1) / 2):=by
      rw[dq] at a;omega
     refine⟨⟨h,by show s.1<=(s.1+s.2+1) / 2-1; omega,by show(s.1+s.2+1) / 2-1<=H; omega,l,?_⟩,by show((s.1+s.2+1) / 2-1-s.1).toNat < (s.2-s.1).toNat; omega⟩;show n < ((s.1+s.2+1) / 2-1+1)*((s.1+s.2+1) / 2-1+1);rw[Int.sub_add_cancel];exact a) (0,H) ⟨Int.le_refl _,d,Int.le_refl _,by show(0:Int)*0<=n; omega,k⟩ (by show(H-0).toNat<=_; omega)
 have b:=of_decide_eq_false b;have e:f.1=f.2:=by omega
 exact⟨f.1,⟨v,i4,by rw[e]; exact i5⟩,by omega,o⟩
theorem u0N{n R Z:Int}(h:Bl n R)(k:Bl (4*n) Z):(Z=2*R∨Z=2*R+1)/\(R*R=n->Z=2*R/\Z*Z=4*n)/\(R*R<n->(Z=2*R/\Z*Z<4*n)∨(Z=2*R+1/\Z*Z<4*n)):=by
 obtain⟨d,c,m⟩:=h;obtain⟨o,i,e⟩:=k;have b:(2*R)*(2*R)=4*(R*R):=by rw[Int.mul_assoc,<- Int.mul_assoc R 2 R,Int.mul_comm R 2,Int.mul_assoc 2 R R]; omega
 have l:(2*R+2)*(2*R+2)=4*((R+1)*(R+1)):=by
  rw[show 2*R+2=2*(R+1) by omega,Int.mul_assoc,<- Int.mul_assoc (R+1) 2 (R+1),Int.mul_comm (R+1) 2,Int.mul_assoc 2 (R+1) (R+1)]; omega
 have f:(2*R+1)*(2*R+1)=4*(R*R)+4*R+1:=by
  rw[Int.add_mul,Int.mul_add,b]; omega
 have j:2*R<Z+1:=q0H (by omega) (by omega);have g:Z<2*R+2:=q0H (by omega) (by omega);have hz:Z=2*R∨Z=2*R+1:=by omega
 refine⟨hz,fun a=>?_,fun a=>?_⟩
 ·rcases hz with rfl | rfl
  ·exact⟨rfl,by omega⟩
  ·omega
 ·rcases hz with rfl | rfl
  ·exact .inl ⟨rfl,by omega⟩
  ·exact .inr ⟨rfl,by omega⟩
theorem DC{a b:Int}(c:0<=a)(d:0<b):u0 a b 0=a / b:=by
 unfold u0;rw[Int.tdiv_eq_ediv_of_nonneg c,Int.tmod_eq_emod_of_nonneg c,if_neg,if_neg]
 ·simp
 ·have:=Int.emod_nonneg a (Int.ne_of_gt d);simp;omega
theorem Bm{a b:Int}(c:0<=a)(_:0<b):u0 a b 1=if 0<a % b then a / b+1 else a / b:=by
 unfold u0;rw[Int.tdiv_eq_ediv_of_nonneg c,Int.tmod_eq_emod_of_nonneg c,if_neg (by simp)];by_cases h:0<a % b
 ·rw[if_pos h,if_pos (by simp[h])]
 ·rw[if_neg h,if_neg (by simp[h])]
def N3(n m R:Int):Int:=if(m==1&&decide (R*R<n))=true then R.tdiv 500+1 else u0 R 500 m
def DD(N m Z:Int):Int:=if(m==1&&decide (Z*Z<N))=true then Z+1 else Z
theorem x0f{n R Z m:Int}(h:Bl n R)(k:Bl (4*n) Z)(d:m=0∨m=1):N3 n m R=u0 (DD (4*n) m Z) 1000 m:=by
 obtain⟨i,c,g⟩:=u0N h k;have a:=h.1;have f:=h.2.1;unfold N3 DD;rcases d with rfl | rfl
 ·rw[if_neg (by simp),if_neg (by simp),DC a (by decide),DC k.1 (by decide)];omega
 ·by_cases b:R*R<n
  ·rw[if_pos (by simp[b]),Int.tdiv_eq_ediv_of_nonneg a];rcases g b with ⟨e,hz⟩ | ⟨e,hz⟩
   ·rw[if_pos (by simp[hz]),Bm (by omega) (by decide),e];split <;> omega
   ·rw[if_pos (by simp[hz]),Bm (by omega) (by decide),e];split <;> omega
  ·obtain⟨e,hz⟩:=c (by omega);rw[if_neg (by simp[b]),if_neg (by simp[hz]),Bm a (by decide),Bm k.1 (by decide),e];split <;> split <;> omega
end Go.Proofs.Xd
end
section
namespace Go.Proofs.YtdjgagoledoaaaaGreatDoor
open Go Go.Proofs Go.Proofs.Sv Go.Proofs.Xv Go.Proofs.Xl Go.Proofs.Xd
theorem p0O{q r:Int}(h:0<=q)(a:r=0∨r=1):(2*q+r).tdiv 2=q/\((2*q+r).tmod 2=0∨(2*q+r).tmod 2=1):=by
 grind
structure Nv(b:j6)(l:w6)(a:D7)(n:Nat):Prop where
 kind:l.2.2.1=1
 pix:ix (l.2.1.tdiv 2) (r4 b.2.1).length
 plt:(l.2.1.tdiv 2).toNat < (r4 b.2.1).length
 iix:ix (u4 b.2.1 (l.2.1.tdiv 2).toNat).1 b.2.1.1.length
 cix:ix (m9 b.2.1 (u4 b.2.1 (l.2.1.tdiv 2).toNat).1.toNat).2.1 b.1.length
 aix:ix l.2.2.2 (b.1.getD (m9 b.2.1 (u4 b.2.1 (l.2.1.tdiv 2).toNat).1.toNat).2.1.toNat (b7 y64)).2.2.2.1.length
 arc:(b.1.getD (m9 b.2.1 (u4 b.2.1 (l.2.1.tdiv 2).toNat).1.toNat).2.1.toNat (b7 y64)).2.2.2.1.getD l.2.2.2.toNat (b7 y67)=a
 net:(u4 b.2.1 (l.2.1.tdiv 2).toNat).2.2.1=(n:Int)
 nlt:n<b.2.2.length
 trs:l.2.1.tmod 2=0∨l.2.1.tmod 2=1
 del:F9 a.2.2.2.2.1 true=true
 slw:F9 a.2.2.2.2.2 true=true
structure J0k(b:j6)(l:w6)(n k:Nat):Prop where
 kind:l.2.2.1=2
 pix:ix (l.2.1.tdiv 2) (r4 b.2.1).length
 plt:(l.2.1.tdiv 2).toNat < (r4 b.2.1).length
 net:(u4 b.2.1 (l.2.1.tdiv 2).toNat).2.2.1=(n:Int)
 nlt:n<b.2.2.length
 idx:l.2.2.2=(k:Int)
 klt:k < (x8 b.2.1 n).length
theorem x0P{k s:Int}{t:Nat}(h:t < (I7 k s).length):(((I7 k s).getD t (0,0)).2=0∨((I7 k s).getD t (0,0)).2=1):=by
 grind[Rf,G6]
theorem HP{b:j6}(H:p6 b=true){l:w6}(h:l∈lV b):(∃a n,Nv b l a n)∨∃n k,J0k b l n k:=by
 obtain⟨F,x,_⟩:=U0 H;have z:=R3 F;rcases WS h with ⟨i,j,t,hi,E,v,rfl⟩ | ⟨i,k,t,hi,hk,v,rfl⟩
 ·obtain⟨G,y,x3⟩:=FN z hi;obtain⟨Y,c2,c3,Q⟩:=FO y;obtain⟨a1,a2,a3,X⟩:=Q j E;obtain⟨B,V⟩:∃B:Nat,(o3 (x6 b i) j).2.2.1=(B:Int):=⟨(o3 (x6 b i) j).2.2.1.toNat,by omega⟩;have e:B < (m9 b.2.1 i).2.2.length:=by omega
  have lB:z6 (m9 b.2.1) i+B < (r4 b.2.1).length:=by
   have:=Nt (m9 b.2.1) hi e;unfold r4;rw[JQ]; omega
  have g:=Rp b.2.1.1.length b.2.1.2.2.length (m9 b.2.1) (A5 b.2.1) (b7 y151) hi e;have g:u4 b.2.1 (z6 (m9 b.2.1) i+B)=((i:Int),(B:Int),(m9 b.2.1 i).2.2.getD B 0,(B:Int)==((m9 b.2.1 i).2.2.length:Int)-1):=g;have hn:=y9.1 (z.fac.net.1 i hi B e);obtain⟨n,s⟩:∃n:Nat,(m9 b.2.1 i).2.2.getD B 0=(n:Int):=⟨((m9 b.2.1 i).2.2.getD B 0).toNat,by omega⟩;have w:(o3 (x6 b i) j).1<=3:=by have:=r0T (Nat.lt_of_le_of_lt (Nat.zero_le _) v); omega
  obtain⟨_,T,P⟩:=r0o (n0L y E) w;have f:=p0O (q:=((z6 (m9 b.2.1) i+B:Nat):Int)) (Int.natCast_nonneg _) (x0P v);have o:(HL (z6 (m9 b.2.1) i:Int) (o3 (x6 b i) j) j t).2.1=2*((z6 (m9 b.2.1) i+B:Nat):Int)+((I7 (o3 (x6 b i) j).1 (o3 (x6 b i) j).2.2.2.1).getD t (0,0)).2:=by
   show 2*((z6 (m9 b.2.1) i:Int)+(o3 (x6 b i) j).2.2.1)+_=_;rw[V,Int.natCast_add]
  refine .inl ⟨o3 (x6 b i) j,n,?_⟩;have c:((HL (z6 (m9 b.2.1) i:Int) (o3 (x6 b i) j) j t).2.1.tdiv 2)=((z6 (m9 b.2.1) i+B:Nat):Int):=by rw[o]; exact f.1
  have m:((z6 (m9 b.2.1) i+B:Nat):Int).toNat=z6 (m9 b.2.1) i+B:=rfl;refine⟨rfl,?_,?_,?_,?_,?_,?_,?_,by omega,by rw[o]; omega,T,P⟩
  ·rw[c]; exact oo
  ·omega
  ·rw[c,m,g]; exact⟨Int.natCast_nonneg _,by omega⟩
  ·rw[c,m,g]; exact G
  ·rw[c,m,g]; exact⟨Int.natCast_nonneg _,by show(j:Int) < ((x6 b i).2.2.2.1.length:Int); omega⟩
  ·rw[c,m,g]; rfl
  ·rw[c,m,g]; exact s
 ·obtain⟨q,u,W,h3,_⟩:=Nh (u4 b.2.1) i (r4 b.2.1).length _ (G6 (d:=0) hk);have u:(x8 b.2.1 i).getD k 0=(q:Int):=u;have o:(DA (I8 b i) ((x8 b.2.1 i).getD k 0) k t).2.1=2*(q:Int)+(t:Int):=by
   show 2*(x8 b.2.1 i).getD k 0+_=_;rw[u]
  have f:=p0O (q:=(q:Int)) (r:=(t:Int)) (Int.natCast_nonneg _) (by omega);have c:((DA (I8 b i) ((x8 b.2.1 i).getD k 0) k t).2.1.tdiv 2)=(q:Int):=by rw[o]; exact f.1
  have m:((q:Int)).toNat=q:=rfl;refine .inr ⟨i,k,rfl,?_,?_,?_,hi,rfl,hk⟩
  ·rw[c]; exact oo
  ·omega
  grind
theorem CH{l:List Dt}{p:Bool}(h:F9 l p=true){x:Int}(b:x=0∨x=1):ix x l.length/\C5 (l.getD x.toNat (b7 y70))=true:=by
 unfold F9 at h;rw[ba,dq] at h;have a:x.toNat<l.length:=by omega
 refine⟨oo,?_⟩
 grind
section
variable {b:j6}
theorem HQ{l:w6}{a:D7}{n:Nat}(h:Nv b l a n):BH (m7 b) l=some a:=by
 unfold BH;refine(gP ⟨by decide,h.pix,h.iix,trivial⟩).trans ?_;rw[lE];refine(gP ⟨h.cix,h.aix,trivial⟩).trans ?_;rw[lE];exact congrArg some h.arc
theorem Y8{l:w6}{n:Nat}(c:ix (l.2.1.tdiv 2) (r4 b.2.1).length)(a:(u4 b.2.1 (l.2.1.tdiv 2).toNat).2.2.1=(n:Int)):Cy (m7 b) l=some (n:Int):=by
 unfold Cy;refine(gP ⟨by decide,c,trivial⟩).trans ?_;rw[lE];exact congrArg some a
theorem M0r(f:wf l6 b)(e:p6 b=true){l:w6}{a:D7}{n:Nat}(h:Nv b l a n):GL b l=some (a,(z7 b n).getD 0 0):=by
 have c:=R3 (U0 e).1;have d:=Bj e h.nlt;have n1:=d.wf.n1;have g:=d.loads.1;unfold GL;rw[Dy b.2.1 f.2.1 c.fac.ni14 c.fac.np8 c.pin,vS,gP ⟨rfl,by decide,h.pix,h.plt,trivial⟩,lE];show gd (ix (u4 b.2.1 (l.2.1.tdiv 2).toNat).1 b.2.1.1.length/\ix (m9 b.2.1 (u4 b.2.1 (l.2.1.tdiv 2).toNat).1.toNat).2.1 b.1.length/\ix l.2.2.2 (b.1.getD (m9 b.2.1 (u4 b.2.1 (l.2.1.tdiv 2).toNat).1.toNat).2.1.toNat (b7 y64)).2.2.2.1.length/\(Ax b (u4 b.2.1 (l.2.1.tdiv 2).toNat).2.2.1).isSome=true/\ix (0:Int) (vl (Ax b (u4 b.2.1 (l.2.1.tdiv 2).toNat).2.2.1)).length/\Int.toNat (0:Int) < (vl (Ax b (u4 b.2.1 (l.2.1.tdiv 2).toNat).2.2.1)).length/\True) (lt (vl (Ax b (u4 b.2.1 (l.2.1.tdiv 2).toNat).2.2.1),(b.1.getD (m9 b.2.1 (u4 b.2.1 (l.2.1.tdiv 2).toNat).1.toNat).2.1.toNat (b7 y64)).2.2.2.1.getD l.2.2.2.toNat (b7 y67)) fun x=>match x with | (v2,v3)=>some (v3,v2.getD (Int.toNat (0:Int)) (0:Int)))=_;rw[h.net,M0p b f d,vS,gP ⟨h.iix,h.cix,h.aix,rfl,⟨by decide,by omega⟩,by omega,trivial⟩,lE,h.arc];rfl
theorem M0q(d:wf l6 b)(c:p6 b=true){l:w6}{n k:Nat}(h:J0k b l n k):BA b l=some (n:Int):=by
 have a:=R3 (U0 c).1;unfold BA;rw[Dy b.2.1 d.2.1 a.fac.ni14 a.fac.np8 a.pin,vS,gP ⟨rfl,by decide,h.pix,h.plt,trivial⟩,lE];exact congrArg some h.net
end
theorem WX{n:Int}(e:0<=n)(k:n<=1000000000000000000):∃r,Bl n r/\r<=3000000000/\Me n=some r:=by
 unfold Me;refine v0u (J:=fun r=>some r) (n:=n) (H:=3000000000) e (by omega) (by decide) (by decide) (fun g s a d c=>?_);obtain⟨lo,hi⟩:=s;have a:0<=lo:=a;have d:lo<=hi:=d;have c:hi<=3000000000:=c;show UW n g (lo,hi)=if decide (lo<hi)=true then g (HO n (lo,hi)) else some lo
 rw[UW];by_cases b:lo<hi
 ·obtain⟨i,j,f⟩:=WW a b;have h:=J7 (A:=3000000000) (B:=3000000000) (x:=(lo+hi+1).tdiv 2) (y:=(lo+hi+1).tdiv 2) (by omega) (by omega) (by omega) (by omega) (by decide);rw[if_pos (decide_eq_true b),if_pos (decide_eq_true b),gP ⟨oo,oo,by decide,trivial⟩,gP ⟨oo,trivial⟩];unfold HO;show(if _ then _ else _)=g (if decide ((lo+hi+1).tdiv 2*(lo+hi+1).tdiv 2<=n)=true then((lo+hi+1).tdiv 2,hi) else(lo,(lo+hi+1).tdiv 2-1));split
  ·rfl
  ·exact gP ⟨oo,trivial⟩
 ·rw[if_neg (by grind),if_neg (by grind)];rfl
theorem N0Q{n m:Int}(h:0<=n)(u:n<=2000000000000000000)(_:m=0∨m=1):∃r,Bl n r/\r<=2000000000/\Co n m=some (DD n m r):=by
 unfold Co;obtain⟨r,d,a,j⟩:=v0u (J:=fun r=>KW m n r) (F:=OX n m) (n:=n) (H:=2000000000) h (by omega) (by decide) (by decide) (fun g s b f e=>by
  obtain⟨lo,hi⟩:=s;have b:0<=lo:=b;have f:lo<=hi:=f;have e:hi<=2000000000:=e;show OX n m g (lo,hi)=if decide (lo<hi)=true then g (HO n (lo,hi)) else KW m n lo
  rw[OX];by_cases c:lo<hi
  ·obtain⟨q,t,l⟩:=WW b c;have o:=J7 (A:=3000000000) (B:=3000000000) (x:=(lo+hi+1).tdiv 2) (y:=(lo+hi+1).tdiv 2) (by omega) (by omega) (by omega) (by omega) (by decide);rw[if_pos (decide_eq_true c),if_pos (decide_eq_true c),gP ⟨oo,oo,by decide,trivial⟩,gP ⟨oo,trivial⟩];unfold HO;show(if _ then _ else _)=g (if decide ((lo+hi+1).tdiv 2*(lo+hi+1).tdiv 2<=n)=true then((lo+hi+1).tdiv 2,hi) else(lo,(lo+hi+1).tdiv 2-1));split
   ·rfl
   ·exact gP ⟨oo,trivial⟩
  grind)
 refine⟨r,d,a,j.trans ?_⟩;have i:=d.1;have k:=J7 (A:=2000000000) (B:=2000000000) (x:=r) (y:=r) (by omega) (by omega) (by omega) (by omega) (by decide);rw[KW,gP ⟨(fun _=>oo),trivial⟩];unfold DD;split
 ·rw[gP ⟨oo,trivial⟩]; rfl
 ·rfl
theorem Rt(s d:Int):500*s*500*s=250000*(s*s)/\1000000*s*s=1000000*(s*s)/\4*d*d=4*(d*d):=by
 grind
theorem K0S{s d m:Int}(h:0<=s)(X:s<=1000000)(g:0<=d)(T:d<=301000000)(f:m=0∨m=1):∃r z,V3 s d m=some r/\Co (1000000*s*s+4*d*d) m=some z/\U9 z 1000 m=some r/\0<=r/\r<=3000000001:=by
 obtain⟨k,V,Y⟩:=Rt s d;have W:=J7 (A:=1000000) (B:=1000000) (x:=s) (y:=s) (by omega) (by omega) (by omega) (by omega) (by decide);have Q:=J7 (A:=301000000) (B:=301000000) (x:=d) (y:=d) (by omega) (by omega) (by omega) (by omega) (by decide);have o:0<=s*s:=Int.mul_nonneg h h;have q:0<=d*d:=Int.mul_nonneg g g;obtain⟨R,j,l,t⟩:=WX (n:=250000*(s*s)+d*d) (by omega) (by omega);obtain⟨Z,i,E,F⟩:=N0Q (n:=4*(250000*(s*s)+d*d)) (m:=m) (by omega) (by omega) f;have c:=j.1;have w:=i.1;have P:=x0f j i f;have u:1000000*s*s+4*d*d=4*(250000*(s*s)+d*d):=by omega
 have G:0<=DD (4*(250000*(s*s)+d*d)) m Z/\DD (4*(250000*(s*s)+d*d)) m Z<=3000000000:=by
  unfold DD;split <;> omega
 have v:=FP (a:=DD (4*(250000*(s*s)+d*d)) m Z) (b:=1000) (K:=3000000) m (by decide) (by omega) (by omega);have H:=J7 (A:=3000000000) (B:=3000000000) (x:=R) (y:=R) (by omega) (by omega) (by omega) (by omega) (by decide);have e:0<=N3 (250000*(s*s)+d*d) m R:=by
  unfold N3;rcases f with rfl | rfl
  ·rw[if_neg (by simp),DC c (by decide)]; omega
  ·split
   ·rw[Int.tdiv_eq_ediv_of_nonneg c]; omega
   ·rw[Bm c (by decide)]; split <;> omega
 refine⟨N3 (250000*(s*s)+d*d) m R,DD (4*(250000*(s*s)+d*d)) m Z,?_,by rw[u]; exact F,?_,e,by omega⟩
 ·unfold V3;rw[k,t,vS,gP ⟨oo,oo,oo,oo,oo,trivial⟩,gP ⟨rfl,trivial⟩,lE,gP ⟨(fun _=>oo),trivial⟩];unfold N3;split
  ·have:R.tdiv 500=R / 500:=Int.tdiv_eq_ediv_of_nonneg c;exact gP ⟨by decide,oo,trivial⟩
  ·rw[(U3 R 500 m (by omega) (by omega) (by decide)).1,vS,gP ⟨rfl,trivial⟩,lE]
 ·rw[P];exact(U3 _ 1000 m (by omega) (by omega) (by decide)).2
end Go.Proofs.YtdjgagoledoaaaaGreatDoor
end
section
namespace Go.Proofs.YtdjgagoledoaaaaGreatDoor
open Go Go.Proofs Go.Proofs.Xv Go.Proofs.Xl Go.Proofs.Xd
theorem N0N(a b:Int):Mf a b=some (decide (a<b)):=by
 unfold Mf;have e:∀a,Hf a=some (a != a):=fun _=>rfl;rw[e,e,gP ⟨rfl,fun _=>rfl,trivial⟩,vS,vS];simp
theorem Nw{xs:List Int}{x:Int}(y:xs.length<=4611686018427387903){p:Nat}(s:p<xs.length)(v:∀i,i<p->xs.getD i 0<x)(r:∀i,p<=i->i<xs.length->x<=xs.getD i 0):Mh xs x=some ((p:Int),xs.getD p 0==x):=by
 have l:∀(m i j:Nat),i<=p->p<=j->j<=xs.length->j-i<m->H3 (Mg xs x) m ((i:Int),(j:Int))=some ((p:Int),xs.getD p 0==x):=by
  intro m
  induction m with
  | zero=>intro i j _ _ _ h; omega
  | succ m n =>
    intro i j hi u k w;show Mg xs x (H3 (Mg xs x) m) ((i:Int),(j:Int))=_;rw[Mg];by_cases c:i<j
    ·have f:(i+j) / 2<xs.length:=by omega
     have g:((((i+j) / 2:Nat)):Int).toNat=(i+j) / 2:=rfl;rw[if_pos (by simpa using c),D0Z,gP ⟨oo,oo,⟨⟨by decide,by decide⟩,by omega,by omega⟩,oo,trivial⟩,g,N0N,gP ⟨oo,rfl,trivial⟩,vS];by_cases q:xs.getD ((i+j) / 2) 0<x
     ·rw[if_pos (by simpa using q),gP ⟨oo,trivial⟩];have d:(i+j) / 2<p:=by
       apply Nat.lt_of_not_le;intro b;have:=r _ b f; omega
      have:=n ((i+j) / 2+1) j (by omega) u k (by omega);simpa using this
     ·rw[if_neg (by simpa using q)];have d:p<=(i+j) / 2:=by
       apply Nat.le_of_not_lt;intro b;have:=v _ b; omega
      exact n i ((i+j) / 2) hi d (by omega) (by omega)
    ·have e:i=p:=by omega
     subst e;rw[if_neg (by simpa using c),UX];have g:((i:Int)).toNat=i:=rfl;have t:decide ((i:Int) < (xs.length:Int))=true:=by simpa using s
     have o:∀a,He a=some (a != a):=fun _=>rfl;rw[g,t,o,o,gP ⟨fun _=>oo,fun _=>oo,fun _=>rfl,fun _=>rfl,trivial⟩,vS,vS];simp
 unfold Mh;have:=l U2 0 xs.length (by omega) (by omega) (Nat.le_refl _) (by simp only[U2]; omega);exact this
def z8(xs:List Int)(x:Int):Int:=min (max x (xs.getD 0 0)) (xs.getD (xs.length-1) 0)
theorem N0Y{xs:List Int}(x:Int)(h:F8 xs=true):∃(p:Nat) (a b:Int),p<xs.length/\Di xs x=some ((p:Int),a,b) /\
  ((a=1/\b=0/\O5 xs x=some ([((p:Int),1)],1)) ∨
    (p+1<xs.length/\0<a/\0<b/\a+b<=100000/\O5 xs x=some ([((p:Int),a),((p:Int)+1,b)],a+b))):=by
 obtain⟨l1,l4⟩:=CB h;have o:((xs.length:Int)-1).toNat=xs.length-1:=by omega
 have H:xs.getD 0 0<=z8 xs x:=by
  have:xs.getD 0 0<=xs.getD (xs.length-1) 0:=by
   by_cases f:xs.length=1
   ·rw[f]; exact Int.le_refl _
   ·have:=CG h (by omega:0<xs.length-1) (by omega); omega
  unfold z8; omega
 have G:z8 xs x<=xs.getD (xs.length-1) 0:=by unfold z8; omega
 obtain⟨p,e,v,s⟩:=w0B h H G;have c:∀(q:Nat) (r:Option (Int×Int×Int)),(∀g,Dh xs (z8 xs x) g (q:Int)=r)->(∀i,q<i->i<xs.length->z8 xs x<xs.getD i 0)->q<xs.length->lp (Dh xs (z8 xs x)) ((xs.length:Int)-1)=r:=by
  intro q r w d l;have y:∀(m k:Nat),q+k<xs.length->k<m->H3 (Dh xs (z8 xs x)) m ((q+k:Nat):Int)=r:=by
   intro m
   induction m with
   | zero=>intro k _ h; omega
   | succ m F =>
     intro k W hm;show Dh xs (z8 xs x) (H3 (Dh xs (z8 xs x)) m) ((q+k:Nat):Int)=r;by_cases t:k=0
     ·subst t; exact w _
     ·have Y:=d (q+k) (by omega) W;have j:(((q+k:Nat):Int)).toNat=q+k:=rfl;have z:¬(z8 xs x=xs.getD (q+k) 0):=by omega
      have P:¬(xs.getD (q+k) 0<z8 xs x):=by omega
      rw[Dh,if_pos (by simp; omega),gP ⟨oo,trivial⟩,j,if_neg (by simpa using z),gP ⟨oo,trivial⟩,if_neg (by simpa using P),gP ⟨oo,trivial⟩];have Q:(((q+k:Nat):Int))-1=((q+(k-1):Nat):Int):=by omega
      rw[Q];exact F (k-1) (by omega) (by omega)
  have:=y U2 (xs.length-1-q) (by omega) (by simp only[U2]; omega);have T:((q+(xs.length-1-q):Nat):Int)=(xs.length:Int)-1:=by omega
  rw[T] at this;exact this
 have j:∀n:Nat,((n:Int)).toNat=n:=fun _=>rfl;by_cases E:xs.getD p 0=z8 xs x
 ·refine⟨p,1,0,e,?_,.inl ⟨rfl,rfl,?_⟩⟩
  ·unfold Di;rw[gP ⟨oo,trivial⟩,gP ⟨oo,oo,trivial⟩,o];change lt (z8 xs x) _=_;rw[lE,gP ⟨oo,trivial⟩];refine c p _ (fun g=>?_) (fun i hi f=>?_) e
   ·rw[Dh,if_pos (by simp),gP ⟨oo,trivial⟩,j,if_pos (by simpa using E.symm)]
   ·have:=CG h hi f; omega
  ·unfold O5;rw[gP ⟨oo,oo,oo,trivial⟩,o];change lt (z8 xs x) _=_;rw[lE,Nw (by omega) e v s,gP ⟨rfl,trivial⟩,vS,lE,if_pos (by simpa using E)]
 ·have d:z8 xs x<xs.getD p 0:=by have:=s p (Nat.le_refl _) e; omega
  have V:0<p:=by
   apply Nat.pos_of_ne_zero;intro t; subst t; omega
  obtain⟨q,rfl⟩:∃q,p=q+1:=⟨p-1,by omega⟩;have l:=v q (by omega);have b1:=Nu h e;have b2:=Nu h (by omega:q<xs.length);refine⟨q,xs.getD (q+1) 0-z8 xs x,z8 xs x-xs.getD q 0,by omega,?_,.inr ⟨e,by omega,by omega,by omega,?_⟩⟩
  ·unfold Di;rw[gP ⟨oo,trivial⟩,gP ⟨oo,oo,trivial⟩,o];change lt (z8 xs x) _=_;rw[lE,gP ⟨oo,trivial⟩];refine c q _ (fun g=>?_) (fun i hi f=>?_) (by omega)
   ·have u:((q:Int)+1).toNat=q+1:=by omega
    have z:¬(z8 xs x=xs.getD q 0):=by omega
    rw[Dh,if_pos (by simp),gP ⟨oo,trivial⟩,j,if_neg (by simpa using z),gP ⟨oo,trivial⟩,if_pos (by simpa using l),u,gP ⟨oo,oo,oo,oo,oo,trivial⟩]
   ·by_cases w:i=q+1
    ·subst w; exact d
    ·have:=CG h (by omega:q+1<i) f; omega
  ·have u:(((q+1:Nat):Int)-1).toNat=q:=by omega
   have X:((q+1:Nat):Int)-1=(q:Int):=by omega
   unfold O5;rw[gP ⟨oo,oo,oo,trivial⟩,o];change lt (z8 xs x) _=_;rw[lE,Nw (by omega) e v s,gP ⟨rfl,trivial⟩,vS,lE,if_neg (by simpa using E),u,j,gP ⟨oo,oo,oo,oo,oo,oo,oo,oo,oo,oo,trivial⟩,lE,X];congr 2;omega
end Go.Proofs.YtdjgagoledoaaaaGreatDoor
end

/- Plain words on names: no program in sight. -/
import Derived.Test.YtechodbafnmddaaGreatDoorXA
import Derived.Lib.SlTrimSet
import Derived.Lib.Bytealg
import Derived.Test.YtechodbafnmddaaGreatDoorXF
import Derived.Test.YtechodbafnmddaaGreatDoorF91c
import Derived.Test.YtechodbafnmddaaGreatDoorG91
set_option maxHeartbeats 0
section
namespace Go.Proofs.Sv
open Go
def Y5(c:Int):Bool:=decide (c≥97)&&decide (c<=122)
def GP(c:Int):Bool:=decide (c≥48)&&decide (c<=57)
def CO(c:Int)(i:Nat):Bool:=Y5 c||(GP c&&decide (0<i))
def Y6(s:ByteArray):Nat->Bool
 | 0=>true
 | k+1=>Y6 s k&&CO (B1 s k) k
def D3(s:ByteArray):Bool:=Y6 s s.size&&decide ((s.size:Int)≥1)&&decide ((s.size:Int)<=8)
theorem s0A(s:ByteArray)(k:Nat):∀j,k<=j->Y6 s j=true->Y6 s k=true:=by
 intro j c h
 induction j with
 | zero=>have:k=0:=by omega
         subst this; rfl
 | succ j b =>
   by_cases a:k=j+1
   ·subst a; exact h
   ·simp only[Y6,ba] at h;exact b (by omega) h.1
def low26:List UInt8:=[97,98,99,100,101,102,103,104,105,106,107,108,109,110,111,112,113,114,115,116,117,118,119,120,121,122]
def low36:List UInt8:=[97,98,99,100,101,102,103,104,105,106,107,108,109,110,111,112,113,114,115,116,117,118,119,120,121,122,48,49,50,51,52,53,54,55,56,57]
theorem s0N:∀n:Fin 256,low26.contains (UInt8.ofNat n.val)=Y5 (n.val:Int):=by decide +kernel
theorem s0L:∀n:Fin 256,low36.contains (UInt8.ofNat n.val)=(Y5 (n.val:Int)||GP (n.val:Int)):=by decide +kernel
theorem s0M(b:UInt8):low26.contains b=Y5 (b.toNat:Int):=by
 have:=s0N ⟨b.toNat,b.toNat_lt⟩;simpa using this
theorem ZK(b:UInt8):low36.contains b=(Y5 (b.toNat:Int)||GP (b.toNat:Int)):=by
 have:=s0L ⟨b.toNat,b.toNat_lt⟩;simpa using this
theorem ZL(c:UInt8):∀l:List UInt8,decide (0<=Lib.indexByte l c)=l.contains c
 | []=>by simp[Lib.indexByte]
 | b :: l=>by
   have f:=ZL c l;have i:=Lib.indexByte_ge l c;unfold Lib.indexByte;by_cases d:b=c
   ·subst d; simp
   ·have a:¬c=b:=fun h=>d h.symm;have g:(b==c)=false:=by simpa using d
    rw[g,List.contains_cons,show(c==b)=false by simpa using a,<- f];by_cases e:Lib.indexByte l c = -1
    ·simp[e]
    ·have:(Lib.indexByte l c == -1)=false:=by simpa using e
     rw[this];simp only[Bool.false_eq_true,if_false,Bool.false_or];rw[Bool.eq_iff_iff]; simp only[dq]; omega
theorem ZM{a:Type}(p:a->Bool):∀l:List a,l.dropWhile p=[]↔∀x∈l,p x=true
 | []=>by simp
 | x :: r=>by
   rw[List.dropWhile_cons];by_cases h:p x=true
   ·simp[h,ZM p r]
   ·simp[h]
theorem ZN{a:Type}(p:a->Bool)(x:a):∀l:List a,x∈l.takeWhile p->p x=true
 | [],h=>by cases h
 | y :: r,h=>by
   rw[List.takeWhile_cons] at h;by_cases b:p y=true
   ·rw[if_pos b] at h;rcases List.mem_cons.1 h with rfl | h
    ·exact b
    ·exact ZN p x r h
   ·rw[if_neg b] at h; cases h
theorem r0K(l cs:List UInt8):Lib.trimS l cs=[]↔∀b∈l,cs.contains b=true:=by
 unfold Lib.trimS Lib.trimLeftS Lib.trimRightS;rw[ZM];constructor
 ·intro h b a;have e:l=(l.reverse.dropWhile (cs.contains ·)).reverse++(l.reverse.takeWhile (cs.contains ·)).reverse:=by
   rw[<- List.reverse_append,List.takeWhile_append_dropWhile,List.reverse_reverse]
  rw[e] at a;rcases List.mem_append.1 a with a | a
  ·exact h b a
  ·have:=List.mem_reverse.1 a;exact ZN (cs.contains ·) b _ this
 ·intro h b a;exact h b (by have:=(List.dropWhile_sublist _).mem (List.mem_reverse.1 a); exact List.mem_reverse.1 this)
theorem ZO(s:ByteArray)(d:Y5 (B1 s 0)=true):∀k,k<=s.size->(Y6 s k=true↔∀i,i<k->(Y5 (B1 s i)||GP (B1 s i))=true)
 | 0,_=>by simp[Y6]
 | k+1,hk=>by
   have g:=ZO s d k (by omega);simp only[Y6,ba,g];constructor
   ·rintro⟨f,a⟩ i hi;by_cases c:i=k
    ·subst c;unfold CO at a;cases hl:Y5 (B1 s i) with
     | true=>simp
     | false=>rw[hl] at a; simp only[Bool.false_or,ba] at a; simp[a.1]
    ·exact f i (by omega)
   ·intro h;refine⟨fun i hi=>h i (by omega),?_⟩;have:=h k (by omega);unfold CO;by_cases b:k=0
    ·subst b; simp[d]
    ·have e:decide (0<k)=true:=by simp; omega
     rw[e]; simpa using this
theorem u0M(s:ByteArray):Lib.trimS s.data.toList low36=[]↔∀i,i<s.size->(Y5 (B1 s i)||GP (B1 s i))=true:=by
 rw[r0K];have c:s.data.toList.length=s.size:=by simp
 constructor
 ·intro h i hi;have a:i<s.data.toList.length:=by rw[c]; exact hi
  have:=h s.data.toList[i] (List.getElem_mem a);rw[ZK] at this;unfold B1;rw[gq,List.getElem?_eq_getElem a];exact this
 ·intro h b d;obtain⟨i,hi,rfl⟩:=List.getElem_of_mem d;have:=h i (by rw[<- c]; exact hi);unfold B1 at this;rw[gq,List.getElem?_eq_getElem hi] at this;rw[ZK]; exact this
theorem v0C(s:ByteArray)(d:1<=s.size)(e:s.size<=8):D3 s=((Lib.trimS s.data.toList low36==[])&&decide (0<=Lib.indexByte low26 (B1 s 0).toNat.toUInt8)):=by
 have c:(B1 s 0).toNat.toUInt8=s.data.toList.getD 0 0:=by unfold B1; simp
 rw[c,ZL,s0M];show D3 s=(_&&Y5 (B1 s 0));have b:decide ((s.size:Int)≥1)=true:=by simp; omega
 have a:decide ((s.size:Int)<=8)=true:=by simp; omega
 unfold D3;rw[b,a,Bool.and_true,Bool.and_true];cases h0:Y5 (B1 s 0) with
 | false =>
   rw[Bool.and_false];cases hn:Y6 s s.size with
   | false=>rfl
   | true =>
     have:=s0A s 1 s.size d hn;simp[Y6,CO,h0] at this
 | true =>
   rw[Bool.and_true,Bool.eq_iff_iff,ZO s h0 s.size (Nat.le_refl _),beq_iff_eq,u0M]
end Go.Proofs.Sv
end
section
namespace Go.Proofs.Xd
open Go Go.Proofs.Xv Go.Proofs.Xl
abbrev BT:=List Int×List Int×List Int
abbrev A8:=Int×Int×Int×Int×List BT×List BT
abbrev I5:=ByteArray×Int×Int×Bool
abbrev A9:=ByteArray×Int×List Int
abbrev I6:=ByteArray×Int×Int
abbrev Rj:=List Int×List Int×List Int×List Int
def j3(x l h:Int):Bool:=decide (l<=x)&&decide (x<=h)
theorem r7{x l h:Int}:j3 x l h=true↔l<=x/\x<=h:=by simp[j3]
def BU(xs:List Int):Bool:=!(List.range xs.length).any fun i=>decide (0<i)&&decide (xs.getD i 0<=xs.getD (i-1) 0)
def B8(xs:List Int):Bool:=decide (1<=xs.length)&&decide (xs.length<=4)&&xs.all (j3 · 0 100000)&&BU xs
def w8(t:BT):Bool:=B8 t.1&&B8 t.2.1&&decide (t.2.2.length=t.1.length*t.2.1.length)&&t.2.2.all (j3 · (-1000000) 1000000)
theorem Be{xs:List Int}(h:B8 xs=true):1<=xs.length/\xs.length<=4:=by
 simp only[B8,ba,dq] at h;exact⟨h.1.1.1,h.1.1.2⟩
theorem CP{t:BT}(h:w8 t=true):1<=t.1.length/\t.1.length<=4/\1<=t.2.1.length/\t.2.1.length<=4/\t.2.2.length=t.1.length*t.2.1.length/\1<=t.2.2.length/\t.2.2.length<=16:=by
 simp only[w8,ba,dq] at h;obtain⟨⟨⟨g,f⟩,e⟩,_⟩:=h;obtain⟨d,a⟩:=Be g;obtain⟨b,c⟩:=Be f;have i:1*1<=t.1.length*t.2.1.length:=Nat.mul_le_mul d b;have j:t.1.length*t.2.1.length<=4*4:=Nat.mul_le_mul a c;exact⟨d,a,b,c,e,by omega,by omega⟩
def U8(xs:List Int):Int:=fN (fun i m=>min m (xs.getD (i+1) 0)) (xs.length-1) (xs.getD 0 0)
def B9(l:List BT)(p:Bool):Bool:=decide (l.length=2)&&l.all fun t=>w8 t&&!(p&&decide (U8 t.2.2<0))
theorem Y7{b:Type}(l:List b)(p:b->Bool):(!l.any fun x=>!p x)=l.all p:=by
 induction l with
 | nil=>rfl
 | cons a r c=>simp only[List.any_cons,List.all_cons,Bool.not_or,Bool.not_not,c]
end Go.Proofs.Xd
end
section
namespace Go.Proofs.Xd
open Go Go.Proofs.Sv Go.Proofs.Xv Go.Proofs.Xl
theorem ZP(s:ByteArray):∀n,Y6 s n=!(List.range n).any fun i=>!CO (B1 s i) i
 | 0=>rfl
 | n+1=>by
   rw[Y6,ZP s n,List.range_succ,List.any_append,Bool.not_or];simp
def J6(f:Nat->ByteArray)(i:Nat):Bool:=(List.range i).any fun k=>decide (f k=f i)
def x4(n:Nat)(f:Nat->ByteArray):Bool:=!(List.range n).any fun i=>!D3 (f i)||J6 f i
theorem l0F{n:Nat}{f g:Nat->ByteArray}(h:∀i,i<n->f i=g i):x4 n f=x4 n g:=by
 unfold x4;congr 1;refine KK fun i hi=>?_;rw[h i hi];congr 1;unfold J6;refine KK fun k a=>?_;rw[h i hi,h k (by omega)]
theorem u0S(l:List ByteArray)(d:ByteArray)(i:Nat)(h:i<l.length):((l.take i).any fun y=>decide (l.getD i d=y))=J6 (fun k=>l.getD k d) i:=by
 have b:(l.take i).length=i:=by rw[List.length_take]; omega
 rw[<- M5 (l.take i) d (fun y=>decide (l.getD i d=y)),b];unfold J6;refine KK fun k a=>?_;have:(l.take i).getD k d=l.getD k d:=by
  rw[gq,gq,List.getElem?_take_of_lt a]
 rw[this,decide_eq_decide];exact eq_comm
theorem t0b{a b:Type}(f:a->b)(l:List a)(i:Nat)(d:a)(e:b)(h:i<l.length):(l.map f).getD i e=f (l.getD i d):=by
 rw[gq,gq,List.getElem?_map,List.getElem?_eq_getElem h]; rfl
theorem s0n{a b:Type}(l:List a)(d:a)(f:a->b):(List.range l.length).map (fun i=>f (l.getD i d))=l.map f:=by
 apply List.ext_getElem?;intro i;rw[List.getElem?_map,List.getElem?_map];by_cases h:i<l.length
 ·rw[List.getElem?_range h,List.getElem?_eq_getElem h];show some (f (l.getD i d))=some (f l[i]);rw[gq,List.getElem?_eq_getElem h]; rfl
 ·rw[List.getElem?_eq_none (by simpa using h),List.getElem?_eq_none (by omega)]; rfl
def As(n:Nat)(q:I5)(i:Nat):Bool:=j3 q.2.2.1 0 500&&(if i+1=n then q.2.1==2&&q.2.2.1==0&&!q.2.2.2 else q.2.1==1)
def U9(n:Nat)(p:Nat->I5):Bool:=decide (2<=n)&&decide (n<=5)&&x4 n (fun i=>(p i).1)&&!(List.range n).any fun i=>!As n (p i) i
def D1(n:Nat)(p:Nat->I5):Int:=fN (fun i s=>if(p i).2.2.2=true then s+1 else s) n 0
def CQ(n:Nat)(p:Nat->I5):Int:=match(List.range n).find? (fun i=>(p i).2.2.2) with | some i=>(i:Int) | none => -1
def GQ(a:Nat->A8)(i:Nat):Bool:=(List.range i).any fun k=>(a k).1==(a i).1&&(a k).2.1==(a i).2.1&&(a k).2.2.1==(a i).2.2.1
def B4(n:Nat)(p:Nat->I5)(a:A8):Bool :=
 j3 a.2.1 0 ((n:Int)-1-1)&&j3 a.2.2.1 0 ((n:Int)-1) &&
 if a.1=1 then !(p a.2.1.toNat).2.2.2&&a.2.2.1==(n:Int)-1&&j3 a.2.2.2.1 1 3&&B9 a.2.2.2.2.1 true&&B9 a.2.2.2.2.2 true
 else if a.1=2∨a.1=3 then(p a.2.1.toNat).2.2.2&&a.2.2.1==(n:Int)-1&&a.2.2.2.1==0&&B9 a.2.2.2.2.1 true&&B9 a.2.2.2.2.2 true
 else if a.1=4∨a.1=5 then(p a.2.1.toNat).2.2.2&&decide (a.2.2.1 < (n:Int)-1)&&!(p a.2.2.1.toNat).2.2.2&&a.2.2.2.1==0&&B9 a.2.2.2.2.1 false&&(a.2.2.2.2.2.length:Int)==0
 else false
def BV(n:Nat)(p:Nat->I5)(a:A8):Bool :=
 if a.1=4∨a.1=5 then a.2.2.2.1==0&&(a.2.2.2.2.2.length:Int)==0&&B9 a.2.2.2.2.1 false&&a.2.1==CQ n p&&decide (0<=a.2.1)&&j3 a.2.2.1 0 ((n:Int)-1-1)&&a.2.2.1 != a.2.1
 else B9 a.2.2.2.2.1 true&&B9 a.2.2.2.2.2 true&&a.2.2.1==(n:Int)-1&&j3 a.2.1 0 ((n:Int)-1-1) &&
  if a.1=1 then !(p a.2.1.toNat).2.2.2&&j3 a.2.2.2.1 1 3
  else if a.1=2∨a.1=3 then(p a.2.1.toNat).2.2.2&&a.2.2.2.1==0
  else false
theorem ZQ(p:Nat->I5):∀n,0<=D1 n p/\D1 n p<=n
 | 0=>⟨Int.le_refl _,Int.le_refl _⟩
 | n+1=>by
   have:=ZQ p n
   grind[D1,fN]
theorem ZR{p:Nat->I5}:∀{n i:Nat},i<n->(p i).2.2.2=true->1<=D1 n p
 | n+1,i,hi,h=>by
   have c:=(ZQ p n).1;have b:i<n->1<=D1 n p:=fun a=>ZR a h;unfold D1 at *
   rw[fN]
   grind
theorem ZS{p:Nat->I5}:∀{n i j:Nat},i<j->j<n->(p i).2.2.2=true->(p j).2.2.2=true->2<=D1 n p
 | n+1,i,j,hij,hj,h,k=>by
   have b:j<n->2<=D1 n p:=fun a=>ZS hij a h k;have c:i<n->1<=D1 n p:=fun a=>ZR a h;unfold D1 at *
   rw[fN]
   grind
theorem B0m{p:Nat->I5}{n i:Nat}(f:D1 n p<=1)(hi:i<n):(p i).2.2.2=decide (CQ n p=(i:Int)):=by
 unfold CQ;cases h:(List.range n).find? (fun i=>(p i).2.2.2) with
 | none =>
   grind
 | some j =>
   have b:=List.find?_some h;have d:=List.mem_range.1 (List.mem_of_find?_eq_some h);show _=decide ((j:Int)=(i:Int));by_cases e:j=i
   ·grind
   ·rw[decide_eq_false (by omega),<- Bool.not_eq_true];intro c;rcases Nat.lt_or_gt_of_ne e with a | a
    ·have:=ZS (p:=p) a hi b c; omega
    simp_all
theorem B0l{p:Nat->I5}{n:Nat}:CQ n p<n:=by
 grind[CQ,List.range,List.mem_of_find?_eq_some]
theorem GR{p:Nat->I5}{n:Nat}(h:U9 n p=true):2<=n/\n<=5/\(p (n-1)).2.2.2=false:=by
 grind[U9,As]
theorem Rl{p:Nat->I5}{n:Nat}(h:U9 n p=true)(j:D1 n p<=1)(a:A8):BV n p a=B4 n p a:=by
 obtain⟨m,s,k⟩:=GR h;obtain⟨b,o,r,q,de,v⟩:=a;rw[Bool.eq_iff_iff];unfold BV B4;dsimp only;have g:∀x:Int,0<=x->x<=(n:Int)-1->(p x.toNat).2.2.2=decide (CQ n p=x):=fun x t u=>by
  rw[B0m j (by omega)];rw[decide_eq_decide]; omega
 have f:CQ n p≠(n:Int)-1:=fun e=>by
  have:=g ((n:Int)-1) (by omega) (by omega);have l:((n:Int)-1).toNat=n-1:=by omega
  rw[l,k,decide_eq_true e] at this;cases this
 have i:=B0l (p:=p) (n:=n);by_cases AW:b=4∨b=5
 ·rw[if_pos AW,if_neg (by omega),if_neg (by omega),if_pos AW];simp only[ba,r7,dq,beq_iff_eq,bne_iff_ne,Bool.not_eq_true']
  grind
 ·rw[if_neg AW];by_cases d:b=1
  ·rw[if_pos d,if_pos d];simp only[ba,r7,beq_iff_eq]
   grind
  ·rw[if_neg d,if_neg d];by_cases c:b=2∨b=3
   ·rw[if_pos c,if_pos c];simp only[ba,r7,beq_iff_eq]
    grind
   grind
def B5(m:Nat)(a:Nat->A8)(k:Int):Bool:=(List.range m).any fun i=>(a i).1==k
def GS(k:Int)(n:Nat)(p:Nat->I5)(m:Nat)(a:Nat->A8)(tr:List Int):Bool :=
 if k=1 then D1 n p==0&&(tr.length:Int)==1*2 ^ (n-1)&&tr.all (j3 · 0 1)
 else if k=2 then D1 n p==1&&(tr.length:Int)==0&&!B5 m a 1&&!(B5 m a 2==B5 m a 3)
 else if k=3 then D1 n p==1&&(tr.length:Int)==0&&B5 m a 1&&B5 m a 2&&!B5 m a 3
 else false
theorem v0K{k:Int}{n:Nat}{p:Nat->I5}{m:Nat}{a:Nat->A8}{b:List Int}(h:GS k n p m a b=true):D1 n p<=1:=by
 grind[GS]
def Fa(q:A8->Bool)(m:Nat)(a:Nat->A8):Bool:=decide (m<=8)&&!(List.range m).any fun i=>!q (a i)||GQ a i
def O1(q:Nat->(Nat->I5)->A8->Bool)(nm:ByteArray)(k:Int)(n:Nat)(p:Nat->I5)(m:Nat)(a:Nat->A8)(tr:List Int)(lk en:Int):Bool :=
 D3 nm&&U9 n p&&Fa (q n p) m a&&j3 lk 0 100000&&j3 en 0 100000&&GS k n p m a tr
theorem B0n(c:ByteArray)(k:Int)(n:Nat)(p:Nat->I5)(m:Nat)(a:Nat->A8)(b:List Int)(lk d:Int):O1 BV c k n p m a b lk d=O1 B4 c k n p m a b lk d:=by
 unfold O1;cases hp:U9 n p with
 | false=>simp
 | true =>
   cases hk:GS k n p m a b with
   | false=>simp
   | true =>
     have:BV n p=B4 n p:=funext fun x=>Rl hp (v0K hk) x;rw[this]
theorem r0M{a:Type}(l:List a)(d:a)(q:a->Bool)(i:Nat)(h:i<=l.length):(l.take i).any q=(List.range i).any fun k=>q (l.getD k d):=by
 have c:(l.take i).length=i:=by rw[List.length_take]; omega
 rw[<- M5 (l.take i) d q,c];refine KK fun k b=>?_;rw[gq,gq,List.getElem?_take_of_lt b]
theorem ZT{n:Nat}{p:Nat->I5}{a:A8}(h:B4 n p a=true):1<=a.1/\a.1<=5:=by
 grind[B4]
theorem ZU{n:Nat}(h:n<=5) : -9223372036854775808<=(1:Int)*2 ^ (n-1)/\(1:Int)*2 ^ (n-1)<=9223372036854775807:=by
 have:∀k:Fin 6,-9223372036854775808<=(1:Int)*2 ^ (k.val-1)/\(1:Int)*2 ^ (k.val-1)<=9223372036854775807:=by decide
 exact this ⟨n,by omega⟩
def Fb(a:Nat->A8)(k:Int)(m:Nat):Int:=fN (fun i s=>if(a i).1=k then s+1 else s) m 0
theorem KL(a:Nat->A8)(k:Int):∀m,0<=Fb a k m/\Fb a k m<=m
 | 0=>⟨Int.le_refl _,Int.le_refl _⟩
 | m+1=>by
   have:=KL a k m
   grind[Fb,fN]
theorem GU(a:Nat->A8)(k:Int):∀m,B5 m a k=decide (0<Fb a k m)
 | 0=>rfl
 | m+1=>by
   have b:=GU a k m;have c:=(KL a k m).1
   grind[B5,Fb,fN]
def Fc(a:Nat->A8)(i:Nat)(v:List Int):List Int:=v.set (a i).1.toNat (v.getD (a i).1.toNat 0+1)
theorem Rm(a:Nat->A8):∀m,(∀i,i<m->1<=(a i).1/\(a i).1<=5)->(fN (Fc a) m (List.replicate 6 0)).length=6/\∀k:Nat,k<6->(fN (Fc a) m (List.replicate 6 0)).getD k 0=Fb a k m
 | 0,_=>⟨by simp[fN],fun k b=>by
   have:∀k:Fin 6,(List.replicate 6 (0:Int)).getD k.val 0=0:=by decide
   exact this ⟨k,b⟩⟩
 | m+1,h=>by
   obtain⟨d,c⟩:=Rm a m (fun i hi=>h i (by omega))
   grind[fN,Fc,Fb]
def Au(v:List Int)(x:Int):List Int:=v.set x.toNat (v.getD x.toNat 0+1)
def S5(v:List Int)(n b:Nat):Prop:=v.length=n/\∀k:Nat,0<=v.getD k 0/\v.getD k 0<=(b:Int)
theorem Nq(n b:Nat):S5 (List.replicate n 0) n b:=by
 refine⟨List.length_replicate,fun k=>?_⟩;rw[gq,List.getElem?_replicate];split <;> (show(0:Int)<=0/\(0:Int)<=b; omega)
theorem GV{v:List Int}{n b:Nat}(h:S5 v n b)(x:Int):S5 (Au v x) n (b+1):=by
 refine⟨by unfold Au; rw[List.length_set]; exact h.1,fun k=>?_⟩;have c:=h.2 x.toNat;have a:=h.2 k;unfold Au;rw[gq,List.getElem?_set];by_cases e:x.toNat=k
 ·rw[if_pos e];split
  ·rw[Option.getD_some]; omega
  ·show(0:Int)<=0/\(0:Int)<=_; omega
 ·rw[if_neg e,<- gq]; omega
theorem Rn{v:List Int}{n b a:Nat}(h:S5 v n b)(c:b<=a):S5 v n a:=⟨h.1,fun k=>by have:=h.2 k; omega⟩
theorem v0E{v:List Int}{n b:Nat}(h:S5 v n b){x:Int}(a:j3 x 0 ((n:Int)-1)=true):ix x v.length/\x.toNat<v.length:=by
 rw[r7] at a;rw[ix,h.1];omega
def Bf(n:Nat)(ok:Nat->Bool)(nm:Nat->ByteArray):Bool:=!((List.range n).any fun i=>!ok i||J6 nm i)&&decide (n<=8)
theorem F0f{n:Nat}{b:Nat->Bool}{a:Nat->ByteArray}(h:∀i,i<n->b i=true->D3 (a i)=true):(if((List.range n).any fun i=>!b i)=true then false else decide (n<=8)&&x4 n a)=Bf n b a:=by
 unfold Bf x4;have e:((List.range n).any fun i=>!b i||J6 a i)=(((List.range n).any fun i=>!b i)||(List.range n).any fun i=>J6 a i):=Nr _ _;rw[e];cases ha:(List.range n).any fun i=>!b i with
 | true=>rfl
 | false =>
   have d:=(Av (n:=n) (c:=fun i=>!b i)).1 (by rw[ha]; rfl);have:((List.range n).any fun i=>!D3 (a i)||J6 a i)=(List.range n).any fun i=>J6 a i:=KK fun i hi=>by
    have:=d i hi;rw[Bool.not_eq_false'] at this;rw[h i hi this]; rfl
   rw[this,if_neg (by simp),Bool.false_or,Bool.and_comm]
def K9(nc:Nat)(I7:Int->Nat)(nn:Nat)(x:A9):Bool:=j3 x.2.1 0 ((nc:Int)-1)&&(x.2.2.length:Int)==(I7 x.2.1:Int)&&x.2.2.all fun y=>j3 y 0 ((nn:Int)-1)
def L0(nn:Nat)(x:I6):Bool:=j3 x.2.1 1 2&&j3 x.2.2 0 ((nn:Int)-1)
def M6(x:Nat->A9)(i:Nat)(v:List Int):List Int:=Au v ((x i).2.2.getD ((x i).2.2.length-1) 0)
def H7(x:Nat->I6)(i:Nat)(v:List Int):List Int:=if(x i).2.1=1 then Au v (x i).2.2 else v
def CR(ni np nn:Nat)(x:Nat->A9)(y:Nat->I6):List Int:=fN (H7 y) np (fN (M6 x) ni (List.replicate nn 0))
theorem Ro(x:Nat->A9)(a:Nat):∀i,S5 (fN (M6 x) i (List.replicate a 0)) a i
 | 0=>Nq a 0
 | i+1=>GV (Ro x a i) _
def Bg(lib:Bool)(nc:Nat)(I7:Int->Nat)(ni np nn:Nat)(x:Nat->A9)(y:Nat->I6)(nets:Nat->ByteArray):Bool :=
 lib&&decide (ni<=14)&&decide (nn<=30)&&decide (np<=8)&&x4 ni (fun i=>(x i).1)&&x4 nn nets&&x4 np (fun i=>(y i).1) &&
  !((List.range ni).any fun i=>!K9 nc I7 nn (x i))&&!((List.range np).any fun i=>!L0 nn (y i))&&(CR ni np nn x y).all (·==1)
def Y8(w:Rj)(n:Int):Bool :=
 decide (1<=w.1.length)&&decide (w.1.length<=8)&&decide (w.2.1.length=w.1.length)&&decide (w.2.2.1.length=w.1.length)&&(w.2.2.2.length:Int)==n &&
  w.2.1.all (j3 · 0 1000)&&w.2.2.1.all (j3 · 0 500)&&w.2.2.2.all (j3 · 0 ((w.1.length:Int)-1)) &&
  !(List.range w.1.length).any fun i=>(i==0&&(w.1.getD i 0 != -1||w.2.1.getD 0 0 != 0))||(decide (0<i)&&!j3 (w.1.getD i 0) 0 ((i:Int)-1))
abbrev u0:=Int×Int×Int×Bool
def M7(x:A9)(i:Int)(k:Nat)(s:List u0):List u0:=s++[(i,(k:Int),x.2.2.getD k 0,(k:Int)==(x.2.2.length:Int)-1)]
def K3(y:Nat->I6)(i:Nat)(s:List u0):List u0:=s++[(-1,(i:Int),(y i).2.2,(y i).2.1==1)]
def J7(x:Nat->A9)(i:Nat)(s:List u0):List u0:=fN (M7 (x i) i) (x i).2.2.length s
def I8(ni np:Nat)(x:Nat->A9)(y:Nat->I6):List u0:=fN (K3 y) np (fN (J7 x) ni [])
theorem Fe(x:A9)(i:Int)(s:List u0):∀k,(fN (M7 x i) k s).length=s.length+k
 | 0=>rfl
 | k+1=>by
   rw[fN,M7,List.length_append,Fe x i s k]; rfl
theorem KM(y:Nat->I6)(s:List u0):∀k,(fN (K3 y) k s).length=s.length+k
 | 0=>rfl
 | k+1=>by
   rw[fN,K3,List.length_append,KM y s k]; rfl
def BW(pl:Nat->u0)(i:Nat)(v:List Int):List Int:=if(pl i).2.2.2=false then Au v (pl i).2.2.1 else v
def P7(pl:Nat->u0)(t:Int)(m:Nat):Int:=fN (fun i s=>if((pl i).2.2.1==t&&!(pl i).2.2.2)=true then s+1 else s) m 0
theorem ZV(pl:Nat->u0)(t:Int):∀m,0<=P7 pl t m/\P7 pl t m<=m
 | 0=>⟨Int.le_refl _,Int.le_refl _⟩
 | m+1=>by
   have:=ZV pl t m;unfold P7 at *
   rw[fN];split <;> omega
theorem ZW(pl:Nat->u0)(n:Nat):∀m,(∀i,i<m->j3 (pl i).2.2.1 0 ((n:Int)-1)=true)->(fN (BW pl) m (List.replicate n 0)).length=n/\∀k:Nat,k<n->(fN (BW pl) m (List.replicate n 0)).getD k 0=P7 pl k m
 | 0,_=>⟨by simp[fN],fun k b=>by
   show(List.replicate n (0:Int)).getD k 0=0;rw[gq,List.getElem?_replicate,if_pos b]; rfl⟩
 | m+1,h=>by
   obtain⟨d,c⟩:=ZW pl n m (fun i hi=>h i (by omega));have f:=r7.1 (h m (by omega));rw[fN];generalize fN (BW pl) m (List.replicate n 0)=v at *
   unfold BW;have e:∀k:Nat,P7 pl k (m+1)=if((pl m).2.2.1==(k:Int)&&!(pl m).2.2.2)=true then P7 pl k m+1 else P7 pl k m:=fun k=>by unfold P7; rw[fN]
   cases hd:(pl m).2.2.2 with
   | true =>
     refine⟨by rw[if_neg (by simp)]; exact d,fun k b=>?_⟩;rw[if_neg (by simp),c k b,e,hd,if_neg (by simp)]
   | false =>
     rw[if_pos rfl];unfold Au;refine⟨by rw[List.length_set]; exact d,fun k b=>?_⟩;rw[e,hd,gq,List.getElem?_set];by_cases a:(pl m).2.2.1.toNat=k
     ·rw[if_pos a,if_pos (by rw[d]; omega),if_pos (by simp; omega),Option.getD_some,a,c k b]
     ·rw[if_neg a,if_neg (by simp; omega),<- gq,c k b]
def I9(pl:Nat->u0)(t:Int)(i:Nat)(s:List Int):List Int:=if((pl i).2.2.1==t&&!(pl i).2.2.2)=true then s++[(i:Int)] else s
theorem KN(pl:Nat->u0)(t:Int):∀m,((fN (I9 pl t) m []).length:Int)=P7 pl t m
 | 0=>rfl
 | m+1=>by
   have:=KN pl t m;rw[fN];unfold P7 at *
   rw[fN];unfold I9 at *
   split
   ·rw[List.length_append];show((_+1:Nat):Int)=_;omega
   ·exact this
def GW(n:Nat)(s:List u0):Prop:=∀p∈s,j3 p.2.2.1 0 ((n:Int)-1)=true
theorem ZX{n:Nat}{x:A9}{i:Int}(b:∀k,k<x.2.2.length->j3 (x.2.2.getD k 0) 0 ((n:Int)-1)=true){s:List u0}(a:GW n s):∀k,k<=x.2.2.length->GW n (fN (M7 x i) k s)
 | 0,_=>a
 | k+1,hk=>by
   rw[fN,M7];intro p c;rcases List.mem_append.1 c with h | h
   ·exact ZX b a k (by omega) p h
   ·cases List.mem_singleton.1 h;exact b k (by omega)
theorem ZY{n:Nat}{x:Nat->A9}{ni:Nat}(a:∀i,i<ni->∀k,k < (x i).2.2.length->j3 ((x i).2.2.getD k 0) 0 ((n:Int)-1)=true):∀i,i<=ni->GW n (fN (J7 x) i [])
 | 0,_=>fun p b=>by cases b
 | i+1,hi=>by
   rw[fN,J7];exact ZX (a i (by omega)) (ZY a i (by omega)) _ (Nat.le_refl _)
theorem ZZ{n:Nat}{y:Nat->I6}{np:Nat}(b:∀i,i<np->j3 (y i).2.2 0 ((n:Int)-1)=true){s:List u0}(a:GW n s):∀k,k<=np->GW n (fN (K3 y) k s)
 | 0,_=>a
 | k+1,hk=>by
   rw[fN,K3];intro p c;rcases List.mem_append.1 c with h | h
   ·exact ZZ b a k (by omega) p h
   ·cases List.mem_singleton.1 h;exact b k (by omega)
theorem Ns{x:Nat->A9}{ni:Nat}(a:∀i,i<ni->(x i).2.2.length<=5):∀i,i<=ni->(fN (J7 x) i []).length<=5*i
 | 0,_=>Nat.le_refl _
 | i+1,hi=>by
   rw[fN,J7,Fe];have:=Ns a i (by omega);have:=a i (by omega);omega
theorem F4{a:Type}{l:List a}{i:Nat}{d:a}(h:i<l.length):l.getD i d∈l:=by
 rw[gq,List.getElem?_eq_getElem h];exact List.getElem_mem h
theorem GX{l:List Int}{p:Int->Bool}(h:l.all p=true){i:Nat}(hi:i<l.length):p (l.getD i 0)=true:=List.all_eq_true.1 h _ (F4 hi)
structure DesignFacts(nc:Nat)(I7:Int->Nat)(ni np nn:Nat)(x:Nat->A9)(y:Nat->I6):Prop where
 ni14:ni<=14
 np8:np<=8
 nn30:nn<=30
 inst:∀i,i<ni->K9 nc I7 nn (x i)=true
 port:∀i,i<np->L0 nn (y i)=true
theorem m0b{a:Bool}{c:Nat}{I7:Int->Nat}{ni np d:Nat}{x:Nat->A9}{y:Nat->I6}{b:Nat->ByteArray}(h:Bg a c I7 ni np d x y b=true):a=true/\DesignFacts c I7 ni np d x y:=by
 unfold Bg at h;simp only[ba,dq] at h;obtain⟨⟨⟨⟨⟨⟨⟨⟨⟨f,j⟩,l⟩,k⟩,_⟩,_⟩,_⟩,e⟩,g⟩,_⟩:=h;refine⟨f,j,k,l,fun i hi=>?_,fun i hi=>?_⟩
 ·have:=Av.1 e i hi
  rwa [Bool.not_eq_false'] at this
 ·have:=Av.1 g i hi
  rwa [Bool.not_eq_false'] at this
theorem DesignFacts.net{c:Nat}{I7:Int->Nat}{ni np a:Nat}{x:Nat->A9}{y:Nat->I6}(h:DesignFacts c I7 ni np a x y):(∀i,i<ni->∀k,k < (x i).2.2.length->j3 ((x i).2.2.getD k 0) 0 ((a:Int)-1)=true)/\∀i,i<np->j3 (y i).2.2 0 ((a:Int)-1)=true:=by
 refine⟨fun i hi k b=>?_,fun i hi=>?_⟩
 ·have:=h.inst i hi;unfold K9 at this;rw[ba] at this;exact GX (p:=fun y=>j3 y 0 ((a:Int)-1)) this.2 b
 ·have:=h.port i hi;unfold L0 at this;rw[ba] at this;exact this.2
end Go.Proofs.Xd
end
section
namespace Go.Proofs.Xd
open Go Go.Proofs Go.Proofs.Xl
def CS(v:List Int)(i:Nat)(x:Int):List Int:=v.set i (v.getD i 0+x)
theorem m0s{v:List Int}{i:Nat}{x:Int}:(CS v i x).length=v.length:=by grind[CS]
theorem Nt{v:List Int}{i j:Nat}{x:Int}(hi:i<v.length):(CS v i x).getD j 0=if j=i then v.getD i 0+x else v.getD j 0:=by
 grind[CS]
def S6(v:List Int)(k:Nat):Int:=fN (fun i s=>s+v.getD i 0) k 0
theorem GY(v:List Int)(k:Nat):S6 v (k+1)=S6 v k+v.getD k 0:=rfl
theorem Rp{v:List Int}{i:Nat}{x:Int}(hi:i<v.length):∀k,S6 (CS v i x) k=S6 v k+if i<k then x else 0
 | 0=>by simp[S6,fN]
 | k+1=>by
   rw[GY,GY,Rp hi k,Nt hi];by_cases h:k=i
   ·subst h; simp; omega
   ·rw[if_neg h];by_cases a:i<k
    ·rw[if_pos a,if_pos (by omega)]; omega
    ·rw[if_neg a,if_neg (by omega)]; omega
theorem l0c{v:List Int}(a:∀j,0<=v.getD j 0):∀k,0<=S6 v k
 | 0=>by simp[S6,fN]
 | k+1=>by have:=l0c a k; grind[GY]
theorem Rq{v:List Int}(a:∀j,0<=v.getD j 0):∀{k j:Nat},j<k->v.getD j 0<=S6 v k
 | k+1,j,h=>by
   rw[GY];have c:=l0c a k;have b:=a k;by_cases e:j=k
   ·grind
   ·have:=Rq a (k:=k) (j:=j) (by omega); omega
structure Low(v:List Int)(n:Nat)(S:Int):Prop where
 len:v.length=n
 pos:∀j,0<=v.getD j 0
 sum:S6 v n<=S
theorem o0k{v:List Int}{c:Int}(a:∀j,v.getD j 0<=c):∀k:Nat,S6 v k<=c*(k:Int)
 | 0=>by simp[S6,fN]
 | k+1=>by
   have:=o0k a k
   grind[GY,Int.natCast_add,Int.mul_add]
theorem A0F{v:List Int}{n:Nat}(b:v.length=n)(h:v.all (j3 · 0 500)=true):Low v n (500*(n:Int)):=by
 have a:∀j,0<=v.getD j 0/\v.getD j 0<=500:=fun j=>by
  grind[Nat.lt_or_ge,r7,GX,j3,List.getElem?_eq_none]
 exact⟨b,fun j=>(a j).1,o0k (fun j=>(a j).2) n⟩
theorem Low.bd{v:List Int}{n:Nat}{S:Int}(h:Low v n S)(b:0<=S)(j:Nat):0<=v.getD j 0/\v.getD j 0<=S:=by
 refine⟨h.pos j,?_⟩;rcases Nat.lt_or_ge j n with a | a
 ·exact Int.le_trans (Rq h.pos a) h.sum
 ·rw[gq,List.getElem?_eq_none (by rw[h.len]; exact a)]; exact b
theorem Low.add{v:List Int}{n:Nat}{S:Int}(h:Low v n S){i:Nat}(hi:i<n){x:Int}(b:0<=x):Low (CS v i x) n (S+x):=by
 have a:i<v.length:=by rw[h.len]; exact hi
 refine⟨by rw[m0s]; exact h.len,fun j=>?_,?_⟩
 ·rw[Nt a];have:=h.pos i;have:=h.pos j;omega
 ·rw[Rp a,if_pos hi]; have:=h.sum; omega
def Aw(s c:Nat->Int)(i:Nat)(v:List Int):List Int:=CS v (s i).toNat (c i)
theorem p0l{s c:Nat->Int}{v:List Int}{n:Nat}{S:Int}(h:Low v n S):∀m,(∀i,i<m->0<=s i/\(s i).toNat<n/\0<=c i/\c i<=500)->Low (fN (Aw s c) m v) n (S+500*(m:Int))
 | 0,_=>⟨h.len,h.pos,by have:=h.sum; show S6 v n<=_; omega⟩
 | m+1,hm=>by
   have d:=p0l h m (fun i hi=>hm i (by omega));obtain⟨f,a,b,e⟩:=hm m (by omega);have:=d.add a b;refine⟨this.len,this.pos,?_⟩;have:=this.sum;rw[Int.natCast_add,Int.mul_add];refine Int.le_trans this ?_;omega
def O2(P:Nat->Int)(n k:Nat)(v:List Int):List Int:=CS v (P (n-1-k)).toNat (v.getD (n-1-k) 0)
structure GZ(v:List Int)(n k:Nat)(S:Int):Prop where
 len:v.length=n
 pos:∀j,0<=v.getD j 0
 bd:∀j,v.getD j 0<=S
 sum:S6 v (n-k)<=S
theorem Rr{P:Nat->Int}{v:List Int}{n k:Nat}{S:Int}(h:GZ v n k S)(_:k<n-1)(f:0<=P (n-1-k)/\(P (n-1-k)).toNat<n-1-k):GZ (O2 P n k v) n (k+1) S:=by
 have b:(P (n-1-k)).toNat<v.length:=by rw[h.len]; omega
 have a:∀j,0<=(O2 P n k v).getD j 0:=fun j=>by
  unfold O2;rw[Nt b];have:=h.pos (P (n-1-k)).toNat;have:=h.pos (n-1-k);have:=h.pos j;omega
 have d:S6 (O2 P n k v) (n-(k+1))<=S:=by
  unfold O2;have e:n-(k+1)=n-1-k:=by omega
  rw[Rp b,e,if_pos f.2];have:=h.sum;rw[show n-k=(n-1-k)+1 by omega,GY] at this;exact this
 refine⟨by unfold O2; rw[m0s]; exact h.len,a,fun j=>?_,d⟩;by_cases e:j=(P (n-1-k)).toNat
 ·have c:j<n-(k+1):=by omega
  exact Int.le_trans (Rq a c) d
 ·unfold O2;rw[Nt b,if_neg e];exact h.bd j
theorem l0r{P:Nat->Int}{v:List Int}{n:Nat}{S:Int}(h:Low v n S)(a:0<=S)(b:∀i,0<i->i<n->0<=P i/\(P i).toNat<i):∀k,k<=n-1->GZ (fN (O2 P n) k v) n k S
 | 0,_=>⟨h.len,h.pos,fun j=>(h.bd a j).2,h.sum⟩
 | k+1,hk=>Rr (l0r h a b k (by omega)) (by omega) (b _ (by omega) (by omega))
def F0e(cap:List Int)(n m:Nat)(s c P:Nat->Int):List Int:=fN (O2 P n) (n-1) (fN (Aw s c) m cap)
theorem Ha{a:Type}{l r:List a}{d:a}{i:Nat}(h:i<l.length):(l++r).getD i d=l.getD i d:=by
 grind
theorem Rs{a:Type}{l r:List a}{d:a}{i:Nat}(h:l.length<=i):(l++r).getD i d=r.getD (i-l.length) d:=by
 grind
def L3(P R L:Nat->Int)(k:Nat)(s:List Int):List Int:=s++[s.getD (P (k+1)).toNat 0+R (k+1)*L (k+1)]
def B0e(n:Nat)(P R L:Nat->Int):List Int:=fN (L3 P R L) (n-1) [0]
theorem KO{a b A B:Int}(c:0<=a)(d:a<=A)(e:0<=b)(f:b<=B):0<=a*b/\a*b<=A*B :=
 ⟨Int.mul_nonneg c e,Int.mul_le_mul d f e (Int.le_trans c d)⟩
theorem t0q{P R L:Nat->Int}{n:Nat}{S:Int}(b:∀i,i<n->0<=R i/\R i<=1000)(a:∀i,i<n->0<=L i/\L i<=S)(d:0<=S):∀k,k<=n-1->(fN (L3 P R L) k [0]).length=k+1/\∀j,0<=(fN (L3 P R L) k [0]).getD j 0/\(fN (L3 P R L) k [0]).getD j 0<=1000*S*(k:Int)
 | 0,_=>⟨rfl,fun j=>by
   grind[fN]⟩
 | k+1,hk=>by
   obtain⟨g,c⟩:=t0q b a d k (by omega);have l:=KO (b (k+1) (by omega)).1 (b (k+1) (by omega)).2 (a (k+1) (by omega)).1 (a (k+1) (by omega)).2;have f:0<=1000*S*(k:Int):=Int.mul_nonneg (by omega) (by omega);have e:1000*S*((k+1:Nat):Int)=1000*S*(k:Int)+1000*S:=by rw[Int.natCast_add,Int.mul_add]; simp
   have h:fN (L3 P R L) (k+1) [0]=L3 P R L k (fN (L3 P R L) k [0]):=rfl;rw[h];generalize fN (L3 P R L) k [0]=s at g c
   grind[L3,List.length_append,Nat.lt_or_ge,Ha,Rs,List.getD_cons_zero,List.getD_cons_succ,List.getD_nil]
theorem w0i{s:List Int}{k n:Nat}{x:Int}(a:s.length=k+1)(b:k+1<n):(s++List.replicate (n-1-k) 0).set (k+1) x=(s++[x])++List.replicate (n-1-(k+1)) 0:=by
 have e:n-1-k=(n-1-(k+1))+1:=by omega
 rw[e,List.replicate_succ,List.set_append_right _ _ (by omega),a,Nat.sub_self,List.set_cons_zero,List.append_assoc];rfl
theorem w0j{s:List Int}{k n p:Nat}(a:s.length=k+1)(b:p<k+1):(s++List.replicate (n-1-k) 0).getD p 0=s.getD p 0:=Ha (by omega)
def Ff(D:List Int)(S:Nat->Int)(i:Nat)(s:List Int):List Int:=s++[D.getD (S i).toNat 0]
theorem Rt(D:List Int)(S:Nat->Int):∀i,(fN (Ff D S) i []).length=i
 | 0=>rfl
 | i+1=>by
   have:=Rt D S i
   grind[Ff,fN,List.length_append]
theorem t0k(D:List Int)(S:Nat->Int):∀n i,i<n->(fN (Ff D S) n []).getD i 0=D.getD (S i).toNat 0
 | n+1,i,h=>by
   have b:=Rt D S n;have a:=t0k D S n i
   grind[Ff,fN]
def Hb(ni np:Nat)(x:Nat->A9)(p:u0):Prop:=(p.1 = -1/\0<=p.2.1/\p.2.1.toNat<np)∨(0<=p.1/\p.1.toNat<ni/\0<=p.2.1/\p.2.1.toNat < (x p.1.toNat).2.2.length)
theorem j0m{ni np:Nat}{x:Nat->A9}{i:Nat}(hi:i<ni){s:List u0}(b:∀p∈s,Hb ni np x p):∀k,k<=(x i).2.2.length->∀p∈fN (M7 (x i) i) k s,Hb ni np x p
 | 0,_=>b
 | k+1,hk=>fun p a=>by
   have a:p∈M7 (x i) i k (fN (M7 (x i) i) k s):=a;unfold M7 at a;rcases List.mem_append.1 a with a | a
   ·exact j0m hi b k (by omega) p a
   ·cases List.mem_singleton.1 a;exact .inr ⟨Int.natCast_nonneg _,by omega,Int.natCast_nonneg _,by grind⟩
theorem g0a{ni np:Nat}{x:Nat->A9}:∀i,i<=ni->∀p∈fN (J7 x) i [],Hb ni np x p
 | 0,_=>fun p a=>by cases a
 | i+1,hi=>j0m (by omega) (g0a i (by omega)) _ (Nat.le_refl _)
theorem j0e{ni np:Nat}{x:Nat->A9}{y:Nat->I6}{s:List u0}(b:∀p∈s,Hb ni np x p):∀k,k<=np->∀p∈fN (K3 y) k s,Hb ni np x p
 | 0,_=>b
 | k+1,hk=>fun p a=>by
   have a:p∈K3 y k (fN (K3 y) k s):=a;unfold K3 at a;rcases List.mem_append.1 a with a | a
   ·exact j0e b k (by omega) p a
   ·cases List.mem_singleton.1 a;exact .inl ⟨rfl,Int.natCast_nonneg _,by grind⟩
theorem m0U(ni np:Nat)(x:Nat->A9)(y:Nat->I6):∀p∈I8 ni np x y,Hb ni np x p:=j0e (g0a ni (Nat.le_refl _)) np (Nat.le_refl _)
theorem Nu(pl:Nat->u0)(t:Int):∀m,∀x∈fN (I9 pl t) m [],∃j:Nat,x=(j:Int)/\j<m/\(pl j).2.2.1=t/\(pl j).2.2.2=false
 | 0,x,h=>by cases h
 | m+1,x,h=>by
   have c:=Nu pl t m x;have h:x∈I9 pl t m (fN (I9 pl t) m []):=h;generalize fN (I9 pl t) m []=s at c h;unfold I9 at h;split at h
   ·rename_i d;rw[ba,beq_iff_eq,Bool.not_eq_true'] at d;rcases List.mem_append.1 h with h | h
    ·obtain⟨j,b,e,a⟩:=c h;exact⟨j,b,by omega,a⟩
    ·cases List.mem_singleton.1 h;exact⟨m,rfl,by omega,d⟩
   ·obtain⟨j,b,e,a⟩:=c h;exact⟨j,b,by omega,a⟩
structure m0u(w:Rj)(n:Int):Prop where
 n1:1<=w.1.length
 n8:w.1.length<=8
 res:w.2.1.length=w.1.length
 cap:w.2.2.1.length=w.1.length
 snk:(w.2.2.2.length:Int)=n
 resIn:∀i,i<w.1.length->0<=w.2.1.getD i 0/\w.2.1.getD i 0<=1000
 capOk:w.2.2.1.all (j3 · 0 500)=true
 snkIn:∀i,i<w.2.2.2.length->0<=w.2.2.2.getD i 0/\(w.2.2.2.getD i 0).toNat<w.1.length
 par:∀i,0<i->i<w.1.length->0<=w.1.getD i 0/\(w.1.getD i 0).toNat<i
theorem p0x{w:Rj}{n:Int}(h:Y8 w n=true):m0u w n:=by
 unfold Y8 at h;simp only[ba,dq,beq_iff_eq] at h;obtain⟨⟨⟨⟨⟨⟨⟨⟨c,d⟩,g⟩,e⟩,b⟩,k⟩,j⟩,f⟩,l⟩:=h;refine⟨c,d,g,e,b,fun i hi=>?_,j,fun i hi=>?_,fun i m hi=>?_⟩
 ·exact r7.1 (GX (p:=fun x=>j3 x 0 1000) k (by omega))
 ·have:=r7.1 (GX (p:=fun x=>j3 x 0 ((w.1.length:Int)-1)) f hi);omega
 ·have:=Av.1 l i hi;rw[Bool.or_eq_false_iff] at this;have a:=this.2;rw[Bool.and_eq_false_iff,decide_eq_false_iff_not,Bool.not_eq_false',r7] at a;rcases a with h | h
  ·omega
  ·omega
abbrev o6:=Int×Int×Int×Int
def D4(k s:Int):List (Int×Int):=if(k==2)=true then [(0,0),(0,1)] else if(k==3)=true then [(1,0),(1,1)] else if(k != 1)=true then [] else if(s==1)=true then [(0,0),(1,1)] else if(s==2)=true then [(0,1),(1,0)] else [(0,0),(0,1),(1,0),(1,1)]
theorem Nv(k s:Int):(D4 k s).length<=4/\∀t∈D4 k s,0<=t.1/\t.1<=1/\0<=t.2/\t.2<=1:=by
 unfold D4;split
 ·grind
 split
 ·grind
 split
 ·grind
 grind
def S7(f a b x:Int)(tr:List (Int×Int))(k:Nat)(s:List o6):List o6:=s++[(2*(f+a)+(tr.getD k (0,0)).1,2*(f+b)+(tr.getD k (0,0)).2,1,x)]
theorem j0y(f a b x:Int)(c:List (Int×Int))(s:List o6):∀k,(fN (S7 f a b x c) k s).length=s.length+k
 | 0=>rfl
 | k+1=>by
   have:=j0y f a b x c s k
   grind[S7,fN,List.length_append]
def L4(f:Int)(arcs:Nat->A8)(j:Nat)(s:List o6):List o6:=fN (S7 f (arcs j).2.1 (arcs j).2.2.1 (j:Int) (D4 (arcs j).1 (arcs j).2.2.2.1)) (D4 (arcs j).1 (arcs j).2.2.2.1).length s
theorem Ru(f:Int)(a:Nat->A8)(j:Nat)(s:List o6):(L4 f a j s).length<=s.length+4:=by
 grind[L4,j0y,Nv]
def V0(f:Int)(arcs:Nat->A8)(m:Nat):List o6:=fN (L4 f arcs) m []
theorem KP(f:Int)(a:Nat->A8):∀m,(V0 f a m).length<=4*m
 | 0=>Nat.le_refl _
 | m+1=>by
   have c:=KP f a m;have b:=Ru f a m (V0 f a m);show(L4 f a m (V0 f a m)).length<=_;omega
def O3(nets:Nat->Nat)(arcs:Nat->Nat->A8)(ms:Nat->Nat)(i:Nat)(s:Int×List o6):Int×List o6:=(s.1+(nets i:Int),s.2++V0 s.1 (arcs i) (ms i))
theorem l0O{a:Nat->Nat}{b:Nat->Nat->A8}{c:Nat->Nat}{n:Nat}(h:∀i,i<n->a i<=5/\c i<=8):∀m,m<=n->0<=(fN (O3 a b c) m (0,[])).1/\(fN (O3 a b c) m (0,[])).1<=5*(m:Int)/\(fN (O3 a b c) m (0,[])).2.length<=32*m
 | 0,_=>⟨Int.le_refl _,Int.le_refl _,Nat.le_refl _⟩
 | m+1,hm=>by
   obtain⟨f,e,d⟩:=l0O h m (by omega);obtain⟨g,j⟩:=h m (by omega);show 0<=(O3 a b c m (fN (O3 a b c) m (0,[]))).1/\(O3 a b c m (fN (O3 a b c) m (0,[]))).1<=_/\(O3 a b c m (fN (O3 a b c) m (0,[]))).2.length<=_;generalize fN (O3 a b c) m (0,[])=z at f e d
   grind[O3,KP,V0,List.length_append]
def P8(pl:Nat->u0)(i:Nat)(s:List (List Int)×List Int):List (List Int)×List Int:=if(pl i).2.2.2=true then(s.1,s.2.set (pl i).2.2.1.toNat (i:Int)) else(s.1.set (pl i).2.2.1.toNat (s.1.getD (pl i).2.2.1.toNat []++[(i:Int)]),s.2)
def M8(pl:Nat->u0)(t:Int)(m:Nat):Int:=fN (fun i s=>if((pl i).2.2.1==t&&(pl i).2.2.2)=true then(i:Int) else s) m 0
theorem Rv(pl:Nat->u0)(t:Int):∀m,0<=M8 pl t m/\M8 pl t m<=m
 | 0=>⟨Int.le_refl _,Int.le_refl _⟩
 | m+1=>by
   have:=Rv pl t m;have e:M8 pl t (m+1)=if((pl m).2.2.1==t&&(pl m).2.2.2)=true then(m:Int) else M8 pl t m:=rfl
   omega
theorem j0b(pl:Nat->u0)(t:Int)(m:Nat):fN (I9 pl t) (m+1) []=if((pl m).2.2.1==t&&!(pl m).2.2.2)=true then fN (I9 pl t) m []++[(m:Int)] else fN (I9 pl t) m []:=rfl
theorem Rw{a:Type}{l:List a}{i j:Nat}{x d:a}(hi:i<l.length):(l.set i x).getD j d=if j=i then x else l.getD j d:=by
 grind
theorem l0R(pl:Nat->u0)(n:Nat):∀m,(∀i,i<m->j3 (pl i).2.2.1 0 ((n:Int)-1)=true)->(fN (P8 pl) m (List.replicate n [],List.replicate n 0)).1.length=n/\(fN (P8 pl) m (List.replicate n [],List.replicate n 0)).2.length=n /\
  ∀k:Nat,k<n->(fN (P8 pl) m (List.replicate n [],List.replicate n 0)).1.getD k []=fN (I9 pl k) m []/\(fN (P8 pl) m (List.replicate n [],List.replicate n 0)).2.getD k 0=M8 pl k m
 | 0,_=>⟨List.length_replicate,List.length_replicate,fun k b=>by
   constructor
   ·show(List.replicate n ([]:List Int)).getD k []=[]
    grind
   ·show(List.replicate n (0:Int)).getD k 0=0
    grind⟩
 | m+1,h=>by
   obtain⟨d,a,g⟩:=l0R pl n m (fun i hi=>h i (by omega));have l:=r7.1 (h m (by omega));have e:fN (P8 pl) (m+1) (List.replicate n [],List.replicate n 0)=P8 pl m (fN (P8 pl) m (List.replicate n [],List.replicate n 0)):=rfl;rw[e];generalize fN (P8 pl) m (List.replicate n [],List.replicate n 0)=z at d a g;have j:(pl m).2.2.1.toNat<n:=by omega
   have f:∀k:Nat,M8 pl k (m+1)=if((pl m).2.2.1==(k:Int)&&(pl m).2.2.2)=true then(m:Int) else M8 pl k m:=fun _=>rfl
   have c:∀k:Nat,((pl m).2.2.1==(k:Int))=decide (k=(pl m).2.2.1.toNat):=fun k=>by
    grind
   unfold P8;cases hd:(pl m).2.2.2 with
   | true =>
     rw[if_pos rfl];refine⟨d,by grind,fun k b=>?_⟩;rw[j0b,f k,c,hd]
     grind
   | false =>
     rw[if_neg (by simp)];refine⟨by grind,a,fun k b=>?_⟩;rw[j0b,f k,c,hd]
     grind
def Rx(d s x:Int)(t:Nat)(z:List o6):List o6:=z++[(2*d+(t:Int),2*s+(t:Int),2,x)]
def Ax(d:Int)(sn:List Int)(k:Nat)(z:List o6):List o6:=fN (Rx d (sn.getD k 0) (k:Int)) 2 z
theorem Ry(d:Int)(a:List Int)(k:Nat)(z:List o6):(Ax d a k z).length=z.length+2:=by
 show((z++_)++_).length=_
 grind
def Y9(d:Nat->Int)(sn:Nat->List Int)(i:Nat)(z:List o6):List o6:=fN (Ax (d i) (sn i)) (sn i).length z
theorem Nw(d:Int)(a:List Int)(z:List o6):∀k,(fN (Ax d a) k z).length=z.length+2*k
 | 0=>rfl
 | k+1=>by
   have:=Nw d a z k
   grind[Ax,fN,Ry]
theorem o0Q(d:Nat->Int)(a:Nat->List Int)(z:List o6){n c:Nat}(h:∀i,i<n->(a i).length<=c):∀m,m<=n->(fN (Y9 d a) m z).length<=z.length+2*(c*m)
 | 0,_=>by simp[fN]
 | m+1,hm=>by
   have b:=o0Q d a z h m (by omega)
   grind[fN,Ax,Y9,Nw,Nat.mul_add]
def V2{α:Type}(f:Nat->α)(i:Nat)(s:List α):List α:=s++[f i]
theorem Fg{a:Type}(f:Nat->a):∀n,(fN (V2 f) n []).length=n
 | 0=>rfl
 | n+1=>by
   have:=Fg f n
   grind[V2,fN,List.length_append]
theorem KQ{a:Type}(f:Nat->a)(d:a):∀n i,i<n->(fN (V2 f) n []).getD i d=f i
 | n+1,i,h=>by
   have c:=Fg f n;have b:=KQ f d n i
   grind[V2,fN]
end Go.Proofs.Xd
end
section
namespace Go.Proofs.YtechodbafnmddaaGreatDoor
open Go Go.Proofs Go.Proofs.Xv Go.Proofs.Xl Go.Proofs.Xd
theorem P9(a b c:Int):s6 a b c=some (j3 a b c):=rfl
theorem L5(a b c:Int):m3 a b c=some (j3 a b c):=rfl
theorem K0Y(a b c:Int):JY a b c=some (!j3 a b c):=by
 unfold JY;rw[P9,gP ⟨rfl,trivial⟩,vS]
theorem v0t(xs:List Int)(b c:Int)(h:xs.length<=9223372036854775807):MG xs (b,c)=some (xs.any fun x=>!j3 x b c):=by
 have a:MF xs (b,c)=_:=Bh h (fun i=>!j3 (xs.getD i 0) b c) (fun g i hi=>Fh hi h (K0Y _ _ _)) (fun g=>aE);have:=Fi a;rw[M5 xs 0 (fun x=>!j3 x b c)] at this;exact this
theorem Fj(xs:List Int)(b c:Int)(h:xs.length<=9223372036854775807):D0 xs b c=some (xs.all (j3 · b c)):=by
 unfold D0;rw[v0t _ _ _ h,gP ⟨rfl,trivial⟩,vS,Y7]
theorem Rz(xs:List Int)(h:xs.length<=9223372036854775807)(b:1<=xs.length):Bb xs=some (BU xs):=by
 have a:=A0E h (fun i=>decide (xs.getD i 0<=xs.getD (i-1) 0)) (some false) (e:=some true) (F:=Yl xs) 1 b (fun g i c hi=>by
  have e:((i:Int)-1).toNat=i-1:=by omega
  refine(Ay hi h ⟨oo,oo,oo,trivial⟩).trans ?_;rw[e]; rfl) (fun g=>aE)
 refine a.trans ?_;unfold BU
 grind
theorem I0G(xs:List Int)(h:xs.length<=9223372036854775807):X8 xs=some (B8 xs):=by
 unfold X8;have e:A4 xs=some (xs.length:Int):=rfl;have c:∀a:Bool,(a=true->1<=xs.length)->(a=true/\True->(Bb xs).isSome=true):=fun a f b=>by grind[Rz]
 rw[e,vS,P9,vS,Fj xs 0 100000 h,vS,gP ⟨rfl,rfl,fun _=>rfl,c _ (fun b=>by
  grind[j3]),trivial⟩]
 congr 1;unfold B8;by_cases d:1<=xs.length
 ·rw[Rz xs h d,vS]
  grind[j3]
 grind[decide,j3]
theorem I0H(xs:List Int)(h:xs.length<=9223372036854775807):BJ xs=some (B8 xs):=by
 have c:=C2 (n:=xs.length) h (fun i=>!j3 (xs.getD i 0) 0 100000||decide (0<i)&&decide (xs.getD i 0<=xs.getD (i-1) 0)) (some false) (e:=Ms xs ()) (F:=VR xs) (fun g i hi=>by
  have e:((i:Int)-1).toNat=i-1:=by omega
  have k:decide ((0:Int) < (i:Int))=decide (0<i):=by rw[decide_eq_decide]; omega
  refine(Ay hi h ⟨oo,rfl,fun f=>oo,fun f=>⟨by have:=f.1; simp at this; omega,by omega⟩,fun f=>oo,trivial⟩).trans ?_;rw[e,L5,vS,k]; rfl) (fun g=>aE)
 refine c.trans ?_;unfold B8 Ms;have j:((List.range xs.length).any fun i=>!j3 (xs.getD i 0) 0 100000||decide (0<i)&&decide (xs.getD i 0<=xs.getD (i-1) 0))=!(xs.all (j3 · 0 100000)&&BU xs):=by
  rw[<- Y7,<- M5 xs 0 (fun x=>!j3 x 0 100000),BU,<- Bool.not_or,Bool.not_not];rw[Bool.eq_iff_iff,Bool.or_eq_true,List.any_eq_true,List.any_eq_true,List.any_eq_true];constructor
  ·rintro⟨i,a,b⟩;rcases Bool.or_eq_true _ _ ▸ b with d | d
   ·exact .inl ⟨i,a,d⟩
   ·exact .inr ⟨i,a,d⟩
  ·rintro(⟨i,a,b⟩ | ⟨i,a,b⟩)
   ·exact⟨i,a,by rw[b]; rfl⟩
   ·exact⟨i,a,by rw[b,Bool.or_true]⟩
 rw[j];cases hA:(xs.all (j3 · 0 100000)&&BU xs) with
 | false=>grind
 | true =>
   rw[if_neg (by simp),Bool.and_assoc,hA,Bool.and_true];refine congrArg some ?_
   grind
theorem K0E(t:m0)(g:wf y269 t):GJ t=some (w8 t):=by
 obtain⟨⟨i,_⟩,⟨c,_⟩,b,_⟩:=g;unfold GJ;have f:(B8 t.1&&B8 t.2.1)=true/\True->c7 ((t.1.length:Int)*(t.2.1.length:Int)):=fun a=>by
  have a:=a.1;rw[ba] at a;obtain⟨l,d⟩:=Be a.1;obtain⟨k,h⟩:=Be a.2;have j:t.1.length*t.2.1.length<=4*4:=Nat.mul_le_mul d h;have e:(t.1.length:Int)*(t.2.1.length:Int)=((t.1.length*t.2.1.length:Nat):Int):=by simp
  rw[e];exact oo
 rw[I0G _ i,I0G _ c,Fj _ _ _ b,vS,vS,vS,gP ⟨rfl,fun _=>rfl,f,fun _=>rfl,trivial⟩];congr 1
 grind[w8]
theorem K0G(t:m0)(l:wf y269 t):IK t=some (w8 t):=by
 obtain⟨⟨o,_⟩,⟨d,_⟩,c,_⟩:=l;unfold IK;have j:(!B8 t.1||!B8 t.2.1)=false/\True->c7 ((t.1.length:Int)*(t.2.1.length:Int)):=fun a=>by
  have a:=a.1;simp only[Bool.or_eq_false_iff,Bool.not_eq_false'] at a;obtain⟨s,f⟩:=Be a.1;obtain⟨r,m⟩:=Be a.2;have q:t.1.length*t.2.1.length<=4*4:=Nat.mul_le_mul f m;have e:(t.1.length:Int)*(t.2.1.length:Int)=((t.1.length*t.2.1.length:Nat):Int):=by simp
  rw[e];exact oo
 rw[I0H _ o,I0H _ d,vS,vS,gP ⟨rfl,fun _=>rfl,j,trivial⟩];have b:=C2 (n:=t.2.2.length) c (fun i=>!j3 (t.2.2.getD i 0) (-1000000) 1000000) (some false) (e:=some true) (F:=VT t) (fun g i hi=>Ay hi c ⟨oo,rfl,trivial⟩) (fun g=>aE);rw[b,M5 t.2.2 0 (fun x=>!j3 x (-1000000) 1000000)];have e:((t.2.2.length:Int) != (t.1.length:Int)*(t.2.1.length:Int))=!decide (t.2.2.length=t.1.length*t.2.1.length):=by
  rw[Bool.eq_iff_iff];simp only[bne_iff_ne,Bool.not_eq_true',decide_eq_false_iff_not,ne_eq];constructor
  ·intro h k; exact h (by exact_mod_cast k)
  ·intro h k; exact h (by exact_mod_cast k)
 grind[w8,Y7,B8,decide,j3]
end Go.Proofs.YtechodbafnmddaaGreatDoor
end
section
namespace Go.Proofs.YtechodbafnmddaaGreatDoor
open Go Go.Proofs Go.Proofs.Sv Go.Proofs.Xv Go.Proofs.Xl Go.Proofs.Xd
theorem Nx(s:ByteArray)(h:s.size<=9223372036854775807):R7 s=some (D3 s):=by
 have a:=C2 (n:=s.size) h (fun i=>!CO (B1 s i) i) (some false) (e:=Mo s ()) (F:=VE s) (fun g i hi=>by
  refine(B0s hi h ⟨oo,fun _=>oo,trivial⟩ ⟨oo,fun _=>oo,trivial⟩).trans ?_;have c:decide ((0:Int) < (i:Int))=decide (0<i):=by rw[decide_eq_decide]; omega
  have b:((i:Int)).toNat=i:=rfl;rw[c,b];unfold CO Y5 GP;rw[Bool.not_or]) (fun g=>aE)
 refine a.trans ?_;unfold D3 Mo;rw[ZP];cases(List.range s.size).any fun i=>!CO (B1 s i) i
 ·rfl
 ·rfl
theorem RA(s:ByteArray)(h:s.size<=9223372036854775807):K8 s=some (D3 s):=by
 unfold K8;have f:CH s ⟨#[97,98,99,100,101,102,103,104,105,106,107,108,109,110,111,112,113,114,115,116,117,118,119,120,121,122,48,49,50,51,52,53,54,55,56,57]⟩=some ⟨(Lib.trimS s.data.toList low36).toArray⟩:=if_pos ⟨by decide,by decide⟩;have g:∀c,ML ⟨#[97,98,99,100,101,102,103,104,105,106,107,108,109,110,111,112,113,114,115,116,117,118,119,120,121,122]⟩ c=some (Lib.indexByte low26 c.toNat.toUInt8):=fun _=>rfl;rw[f,g,P9,vS,vS,vS,gP ⟨rfl,fun _=>rfl,fun a=>⟨by decide,by
  have:=a.1;rw[ba,r7] at this;omega⟩,fun _=>rfl,trivial⟩,lE]
 refine congrArg some ?_;show(j3 (s.size:Int) 1 8&&decide ((⟨(Lib.trimS s.data.toList low36).toArray⟩:ByteArray)=⟨#[]⟩)&&decide (0<=Lib.indexByte low26 (B1 s (Int.toNat 0)).toNat.toUInt8))=D3 s;by_cases e:1<=s.size/\s.size<=8
 ·rw[v0C s e.1 e.2];have b:j3 (s.size:Int) 1 8=true:=by rw[r7]; omega
  have d:decide ((⟨(Lib.trimS s.data.toList low36).toArray⟩:ByteArray)=⟨#[]⟩)=(Lib.trimS s.data.toList low36==[]):=by
   rw[Bool.eq_iff_iff,dq,beq_iff_eq];constructor
   ·intro h;injection h with h;have:=congrArg Array.toList h;simpa using this
   ·intro h; rw[h]
  rw[b,d,Bool.true_and];rfl
 ·have b:j3 (s.size:Int) 1 8=false:=by rw[<- Bool.not_eq_true,r7]; omega
  have d:D3 s=false:=by
   rw[<- Bool.not_eq_true];intro a;simp only[D3,ba,dq] at a;omega
  rw[b,d]; rfl
theorem K0L(xs:List ByteArray)(x:ByteArray)(h:xs.length<=9223372036854775807):MK xs x=some (xs.any fun y=>decide (x=y)):=by
 have a:MJ xs x=_:=Bh h (fun i=>decide (x=xs.getD i (a7 .str))) (fun g i hi=>by
  refine(if_pos (by simpa using hi)).trans ?_;rw[gP ⟨oo,trivial⟩,gP ⟨oo,trivial⟩];rfl) (fun g=>aE)
 have:=Fi a;rw[M5 xs (a7 .str) (fun y=>decide (x=y))] at this;exact this
theorem KS(xs:List ByteArray)(c:wf (.sl .str) xs):P5 xs=some (x4 xs.length fun i=>xs.getD i (a7 .str)):=by
 have h:=c.1;have a:=C2 (n:=xs.length) h (fun i=>!D3 (xs.getD i (a7 .str))||J6 (fun i=>xs.getD i (a7 .str)) i) (some false) (e:=some true) (F:=Yb xs) (fun g i hi=>by
  have f:=H2 (d:=a7 .str) hi c;have l:(xs.take i).length<=9223372036854775807:=by rw[List.length_take]; omega
  have k:=RA _ f;have b:=K0L (xs.take i) (xs.getD i (a7 .str)) l;rw[u0S xs (a7 .str) i hi] at b;have j:((i:Int)).toNat=i:=rfl;refine(if_pos (by simpa using hi)).trans ?_;rw[j,k,b,vS,vS,gP ⟨oo,trivial⟩,gP ⟨rfl,fun _=>⟨by omega,by omega,by omega⟩,fun _=>rfl,trivial⟩,gP ⟨oo,trivial⟩]) (fun g=>aE)
 refine a.trans ?_;unfold x4;cases(List.range xs.length).any fun i=>!D3 (xs.getD i (a7 .str))||J6 (fun i=>xs.getD i (a7 .str)) i <;> rfl
theorem RC(xs:List ByteArray)(c:wf (.sl .str) xs):Aj xs=some (x4 xs.length fun i=>xs.getD i (a7 .str)):=by
 have h:=c.1;have b:=C2 (n:=xs.length) h (fun i=>!D3 (xs.getD i (a7 .str))||J6 (fun i=>xs.getD i (a7 .str)) i) (some false) (e:=some true) (F:=VH xs) (fun g i hi=>by
  have f:=H2 (d:=a7 .str) hi c;have o:=Nx _ f;have l:((i:Int)).toNat=i:=rfl;have a:=C2 (n:=i) (by omega) (fun k=>decide (xs.getD k (a7 .str)=xs.getD i (a7 .str))) (some false) (e:=g ((i:Int)+1)) (F:=VG xs (i:Int) g) (fun m k j=>by
   refine(Ay j (by omega) ⟨oo,oo,trivial⟩).trans ?_;rfl) (fun m=>by
   refine aE.trans ?_;unfold PV;exact gP ⟨oo,trivial⟩)
  refine(if_pos (by simpa using hi)).trans ?_;rw[l,o,vS,gP ⟨oo,rfl,trivial⟩,a];unfold J6;cases D3 (xs.getD i (a7 .str)) <;> cases(List.range i).any fun k=>decide (xs.getD k (a7 .str)=xs.getD i (a7 .str)) <;> rfl) (fun g=>aE)
 refine b.trans ?_;unfold x4;cases(List.range xs.length).any fun i=>!D3 (xs.getD i (a7 .str))||J6 (fun i=>xs.getD i (a7 .str)) i <;> rfl
theorem I0I(xs:List Int)(h:xs.length<=9223372036854775807)(b:1<=xs.length):GI xs=some (U8 xs):=by
 unfold GI;rw[if_neg (by simp; omega)];unfold QC;rw[gP ⟨oo,trivial⟩];have a:=lF (n:=xs.length-1) (by omega) (fun i (m:Int)=>(m,((i+1:Nat):Int))) (fun i m=>min m (xs.getD (i+1) 0)) (fun _ _=>True) (J:=fun m=>some m) (F:=QB xs) (fun g i s hi _=>by
  refine(if_pos (by simp; omega)).trans ?_;rw[gP ⟨oo,trivial⟩,gP ⟨oo,trivial⟩];rfl) (fun _ _ _ _=>trivial) (fun g s _=>by
  have e:xs.length-1+1=xs.length:=by omega
  show QB xs g (s,((xs.length-1+1:Nat):Int))=some s;rw[e];exact aE) (xs.getD 0 0) trivial
 exact a
theorem K0F(t:m0)(p:Bool)(a:wf y269 t):Kl t p=some (!w8 t||p&&decide (U8 t.2.2<0)):=by
 unfold Kl;have c:p=true/\(!w8 t)=false/\True->(GI t.2.2).isSome=true:=fun b=>by
  have d:w8 t=true:=by simpa using b.2.1
  rw[I0I _ a.2.2.1 (CP d).2.2.2.2.2.1]; rfl
 rw[K0E t a,vS,gP ⟨rfl,c,trivial⟩,lE];refine congrArg some ?_;cases hT:w8 t with
 | false=>rfl
 | true=>rw[I0I _ a.2.2.1 (CP hT).2.2.2.2.2.1,vS]
theorem RD(l:List m0)(p:Bool)(a:wf (.sl y269) l):N9 l p=some (B9 l p):=by
 have h:=a.1;have c:MR l p=_:=Bh h (fun i=>!w8 (l.getD i (a7 y269))||p&&decide (U8 (l.getD i (a7 y269)).2.2<0)) (fun g i hi=>Fh hi h (K0F _ _ (H2 hi a))) (fun g=>aE);have b:MS l p=_:=Fi c;rw[M5 l (a7 y269) (fun t=>!w8 t||p&&decide (U8 t.2.2<0))] at b;unfold N9;rw[b,vS,gP ⟨fun _=>rfl,trivial⟩];refine congrArg some ?_;unfold B9;have e:((l.length:Int)==2)=decide (l.length=2):=by
  rw[Bool.eq_iff_iff,beq_iff_eq,dq]; omega
 rw[e,<- Y7];congr 3;funext t;rw[Bool.not_and,Bool.not_not]
theorem p0b(xs:List Int):∀n,(fN (fun i (s:Int×Int)=>(min s.1 (xs.getD (i+1) 0),max s.2 (xs.getD (i+1) 0))) n (xs.getD 0 0,xs.getD 0 0)).1=fN (fun i m=>min m (xs.getD (i+1) 0)) n (xs.getD 0 0)
 | 0=>rfl
 | n+1=>by rw[fN,fN,p0b xs n]
theorem K0I(t:m0)(b:wf y269 t):∃l,IL t=some (if w8 t=true then((U8 t.2.2,l),0) else((0,0),1)):=by
 unfold IL;rw[K0G t b,vS,gP ⟨rfl,trivial⟩];cases hT:w8 t with
 | false=>exact⟨0,rfl⟩
 | true =>
   have c:=(CP hT).2.2.2.2.2.1;have h:=b.2.2.1;have a:=lF (n:=t.2.2.length-1) (by omega) (fun i (s:Int×Int)=>(((i+1:Nat):Int),s.1,s.2)) (fun i s=>(min s.1 (t.2.2.getD (i+1) 0),max s.2 (t.2.2.getD (i+1) 0))) (fun _ _=>True) (J:=fun s=>some ((s.1,s.2),(0:Int))) (F:=PW t) (fun g i s hi _=>by
    refine(if_pos (by simp; omega)).trans ?_;rw[gP ⟨oo,trivial⟩,gP ⟨oo,trivial⟩,gP ⟨oo,trivial⟩];rfl) (fun _ _ _ _=>trivial) (fun g s _=>by
    have e:t.2.2.length-1+1=t.2.2.length:=by omega
    show PW t g (((t.2.2.length-1+1:Nat):Int),s.1,s.2)=_;rw[e];exact aE) (t.2.2.getD 0 0,t.2.2.getD 0 0) trivial
   rw[if_neg (by simp),gP ⟨oo,oo,trivial⟩];rw[p0b] at a;exact⟨_,a⟩
theorem KT(l:List m0)(p:Bool)(f:wf (.sl y269) l):P4 l p=some (B9 l p):=by
 unfold P4;have e:((l.length:Int) != 2)=!decide (l.length=2):=by
  rw[Bool.eq_iff_iff]; simp; omega
 rw[e];unfold B9;by_cases b:l.length=2
 ·have a:=C2 (n:=2) (by decide) (fun i=>!w8 (l.getD i (a7 y269))||p&&decide (U8 (l.getD i (a7 y269)).2.2<0)) (some false) (e:=some true) (F:=PX p l) (fun g i hi=>by
   obtain⟨m,c⟩:=K0I (l.getD i (a7 y269)) (H2 (by omega) f);have d:((i:Int)).toNat=i:=rfl;refine(if_pos (by simp; omega)).trans ?_;rw[d,c,vS,gP ⟨oo,rfl,trivial⟩,lE,gP ⟨oo,trivial⟩];cases w8 (l.getD i (a7 y269)) <;> rfl) (fun g=>by
   unfold PX;exact if_neg (by decide))
  rw[decide_eq_true b,if_neg (by simp)];refine a.trans ?_;have:=M5 l (a7 y269) (fun t=>!w8 t||p&&decide (U8 t.2.2<0));rw[b] at this;rw[this,<- Y7,Bool.true_and];have h:(fun t:m0=>!(w8 t&&!(p&&decide (U8 t.2.2<0))))=fun t=>!w8 t||p&&decide (U8 t.2.2<0):=by
   funext t; rw[Bool.not_and,Bool.not_not]
  rw[h];cases l.any fun t=>!w8 t||p&&decide (U8 t.2.2<0) <;> rfl
 ·rw[decide_eq_false b]; rfl
abbrev m8(c:l6)(i:Nat):A7:=c.2.2.1.getD i (a7 y293)
abbrev j9(c:l6)(i:Nat):r9:=c.2.2.2.1.getD i (a7 y158)
theorem RE(c:l6)(a:wf y153 c):N8 c=some ((c.2.2.1.length:Int)-1):=by
 have h:=a.2.2.1.1;have e:Ba c.2.2.1=some (c.2.2.1.length:Int):=rfl;unfold N8;rw[e,vS,gP ⟨rfl,oo,trivial⟩,lE]
theorem I0J(c:l6)(a:wf y153 c)(x:Int):DQ c x=some (j3 x 0 ((c.2.2.1.length:Int)-1-1)):=by
 have h:=a.2.2.1.1;unfold DQ;rw[RE c a,vS,P9,vS,gP ⟨rfl,oo,rfl,trivial⟩]
theorem K0H(c:l6)(a:wf y153 c):GK c=some (CQ c.2.2.1.length (m8 c)):=by
 have h:=a.2.2.1.1;have b:MT c.2.2.1=_:=Bh h (fun i=>(m8 c i).2.2.2) (fun g i hi=>Fh hi h rfl) (fun g=>aE);unfold GK;rw[b,vS,gP ⟨rfl,trivial⟩,lE];rfl
theorem RF(c:l6)(a:wf y153 c)(k:Int):J5 c k=some (B5 c.2.2.2.1.length (j9 c) k):=by
 have h:=a.2.2.2.1.1;have d:MN c.2.2.2.1 k=_:=Bh h (fun i=>(j9 c i).1==k) (fun g i hi=>Fh hi h rfl) (fun g=>aE);have b:MO c.2.2.2.1 k=_:=Fi d;unfold J5;rw[b,vS,gP ⟨rfl,trivial⟩];rfl
theorem K0K(c:l6)(a:r9)(d:wf y153 c)(r:wf y158 a):DR c a=some (BV c.2.2.1.length (m8 c) a):=by
 obtain⟨_,_,_,_,n,q⟩:=r;have t:MU a.1=some (a.1==4||a.1==5):=rfl;have m:j3 a.2.1 0 ((c.2.2.1.length:Int)-1-1)=true->ix a.2.1 c.2.2.1.length:=fun h=>by
  rw[r7] at h; exact oo
 unfold DR;rw[t,RD _ _ n,RD _ _ n,RD _ _ q,K0H c d,I0J c d,I0J c d,RE c d]
 repeat rw[vS]
 rw[gP ⟨rfl,trivial⟩];unfold BV;by_cases AW:a.1=4∨a.1=5
 ·have i:(a.1==4||a.1==5)=true:=by simpa using AW
  rw[if_pos i,if_pos AW,gP ⟨fun _=>rfl,fun _=>rfl,fun _=>rfl,trivial⟩,lE]
 ·have i:(a.1==4||a.1==5)=false:=by
   rw[<- Bool.not_eq_true]; simpa using AW
  rw[i,if_neg (by simp),if_neg AW,gP ⟨rfl,fun _=>rfl,fun _=>rfl,fun _=>rfl,trivial⟩,lE];by_cases g:B9 a.2.2.2.2.1 true=true/\B9 a.2.2.2.2.2 true=true/\a.2.2.1=(c.2.2.1.length:Int)-1/\j3 a.2.1 0 ((c.2.2.1.length:Int)-1-1)=true
  ·obtain⟨l,k,o,e⟩:=g;have s:(B9 a.2.2.2.2.1 true&&B9 a.2.2.2.2.2 true&&a.2.2.1==(c.2.2.1.length:Int)-1&&j3 a.2.1 0 ((c.2.2.1.length:Int)-1-1))=true:=by
    rw[l,k,e,o]; simp
   have u:(!B9 a.2.2.2.2.1 true||!B9 a.2.2.2.2.2 true||a.2.2.1 != (c.2.2.1.length:Int)-1||!j3 a.2.1 0 ((c.2.2.1.length:Int)-1-1))=false:=by
    rw[l,k,e,o]; simp
   rw[s,Bool.true_and];refine(if_neg (by rw[u]; simp)).trans ?_;by_cases f:a.1=1
   ·rw[if_pos (beq_iff_eq.2 f),if_pos f,P9,gP ⟨m e,fun _=>rfl,trivial⟩];rfl
   ·rw[if_neg (by grind),if_neg f];have j:∀b,Km c a b=some (if b=true then(m8 c a.2.1.toNat).2.2.2&&a.2.2.2.1==0 else false):=fun b=>by
     unfold Km;cases b with
     | false=>rfl
     | true=>rw[if_pos rfl,if_pos rfl,gP ⟨m e,trivial⟩]
    grind
  grind
theorem K0S(c:l6)(a:r9)(l:wf y153 c)(k:wf y158 a):IP c a=some (B4 c.2.2.1.length (m8 c) a):=by
 obtain⟨_,_,_,_,f,g⟩:=k;have h:=l.2.2.1.1;unfold IP;rw[gP ⟨oo,trivial⟩,L5,L5]
 repeat rw[vS]
 rw[gP ⟨oo,rfl,fun _=>rfl,trivial⟩];unfold B4;by_cases e:j3 a.2.1 0 ((c.2.2.1.length:Int)-1-1)=true/\j3 a.2.2.1 0 ((c.2.2.1.length:Int)-1)=true
 ·obtain⟨j,i⟩:=e;have n:=r7.1 j;have o:=r7.1 i;rw[j,i,if_neg (by simp),gP ⟨oo,trivial⟩,lE,Bool.true_and,Bool.true_and];by_cases d:a.1=1
  ·rw[if_pos (beq_iff_eq.2 d),if_pos d,L5,KT _ _ f,KT _ _ g,gP ⟨fun _=>rfl,fun _=>rfl,fun _=>rfl,trivial⟩];rfl
  ·rw[if_neg (by grind),if_neg d];have q:∀b,IM (m8 c a.2.1.toNat) a c b=some (if b=true then(m8 c a.2.1.toNat).2.2.2&&decide (a.2.2.1 < (c.2.2.1.length:Int)-1)&&!(m8 c a.2.2.1.toNat).2.2.2&&a.2.2.2.1==0&&B9 a.2.2.2.2.1 false&&(a.2.2.2.2.2.length:Int)==0 else false):=fun b=>by
    unfold IM;cases b with
    | false=>rfl
    | true =>
      rw[if_pos rfl,if_pos rfl,KT _ _ f,gP ⟨fun _=>oo,fun _=>rfl,trivial⟩];rfl
   have m:∀b,IN (m8 c a.2.1.toNat) a c b=some (if b=true then(m8 c a.2.1.toNat).2.2.2&&a.2.2.1==(c.2.2.1.length:Int)-1&&a.2.2.2.1==0&&B9 a.2.2.2.2.1 true&&B9 a.2.2.2.2.2 true else if a.1=4∨a.1=5 then(m8 c a.2.1.toNat).2.2.2&&decide (a.2.2.1 < (c.2.2.1.length:Int)-1)&&!(m8 c a.2.2.1.toNat).2.2.2&&a.2.2.2.1==0&&B9 a.2.2.2.2.1 false&&(a.2.2.2.2.2.length:Int)==0 else false):=fun b=>by
    unfold IN;cases b with
    | true =>
      rw[if_pos rfl,if_pos rfl,KT _ _ f,KT _ _ g,gP ⟨fun _=>rfl,fun _=>rfl,trivial⟩];rfl
    | false =>
      grind
   grind
 grind
theorem RG{c:l6}(a:wf y153 c):wf (.sl y293) c.2.2.1:=a.2.2.1
theorem RH{c:l6}(a:wf y153 c):wf (.sl y158) c.2.2.2.1:=a.2.2.2.1
theorem Hc{a:Type}(l:List a)(f:a->ByteArray)(d:a)(e:ByteArray):x4 (l.map f).length (fun i=>(l.map f).getD i e)=x4 l.length fun i=>f (l.getD i d):=by
 grind[List.length_map,l0F,hi,t0b]
theorem Hd{a:Type}{l:List a}{f:a->ByteArray}(h:l.length<=9223372036854775807)(d:∀x∈l,(f x).size<=9223372036854775807):wf (.sl .str) (l.map f):=by
 refine⟨by grind,fun x b=>?_⟩;obtain⟨y,c,rfl⟩:=List.mem_map.1 b;exact d y c
def Q2(f:Nat->ByteArray)(i:Nat)(s:List ByteArray):List ByteArray:=s++[f i]
theorem t0d(f:Nat->ByteArray):∀n,fN (Q2 f) n []=(List.range n).map f
 | 0=>rfl
 | n+1=>by
   rw[fN,t0d f n,List.range_succ,List.map_append]; rfl
theorem He{a:Type}(l:List a)(d:a)(f:a->ByteArray):fN (Q2 fun i=>f (l.getD i d)) l.length []=l.map f:=by
 rw[t0d,s0n]
theorem Ny{n i b:Nat}(h:i<n)(c:n<=1048576)(a:b<=4096):i+1<=9223372036854775807/\(i+1)*b<=140737488355328:=by
 have:(i+1)*b<=1048576*4096:=Nat.mul_le_mul (by omega) a;exact oo
theorem K0O(l:List A7)(d:wf (.sl y293) l)(f:l.length<=1048576):CI l=some (U9 l.length fun i=>l.getD i (a7 y293)):=by
 have h:=d.1;have c:=KU (n:=l.length) h (fun i (s:List ByteArray)=>(s,(i:Int))) (Q2 fun i=>(l.getD i (a7 y293)).1) (fun i=>!As l.length (l.getD i (a7 y293)) i) (some false) (fun i s=>s.length=i) (J:=Ko l) (F:=Yw l) (fun g i s hi t=>by
  refine(if_pos (by simpa using hi)).trans ?_;have o:((i:Int)).toNat=i:=rfl;have E:(s++[(l.getD i (a7 y293)).1]).length<=9223372036854775807:=by rw[List.length_append]; show s.length+1<=_; omega
  have H:=Ny (b:=16) hi f (by decide);have r:∀a,MX (i:Int) g a=g (a,((i+1:Nat):Int)):=fun a=>gP ⟨oo,trivial⟩;rw[o,gP ⟨oo,trivial⟩,lE,gP ⟨⟨by show s.length+1<=_; omega,by show(s.length+1)*16<=_; omega⟩,trivial⟩,gP ⟨oo,trivial⟩,r,P9,gP ⟨fun _=>rfl,trivial⟩,vS];unfold As Q2;dsimp only;by_cases z:i+1=l.length
  ·have y:((i:Int)==(l.length:Int)-1)=true:=by rw[beq_iff_eq]; omega
   rw[if_pos y,if_pos z];generalize l.getD i (a7 y293)=q;have P:(q.2.1 != 2)=!(q.2.1==2):=rfl;have G:(q.2.2.1 != 0)=!(q.2.2.1==0):=rfl
   grind[j3]
  grind) (fun i s hi t _=>by grind[Q2,List.length_append]) (fun g s _=>aE) [] rfl
 refine c.trans ?_;rw[He];have u:wf (.sl .str) (l.map fun q:A7=>q.1):=Hd h fun x m=>(d.2 x m).1;have w:Ba l=some (l.length:Int):=rfl;have k:∀v:List ByteArray,wf (.sl .str) v->Ko l v=some (j3 (l.length:Int) 2 5&&x4 v.length fun i=>v.getD i (a7 .str)):=fun v j=>by
  rw[Ko];rw[w,KS _ j]
  repeat rw[vS]
  rw[P9,vS,gP ⟨rfl,rfl,fun _=>rfl,trivial⟩]
 rw[k _ u,Hc l (fun q:A7=>q.1) (a7 y293)];unfold U9;have e:j3 (l.length:Int) 2 5=(decide (2<=l.length)&&decide (l.length<=5)):=by
  rw[Bool.eq_iff_iff,r7]; simp; omega
 rw[e];cases(List.range l.length).any fun i=>!As l.length (l.getD i (a7 y293)) i
 ·simp
 ·simp
theorem K0T(c:l6)(v:wf y153 c):IQ c=some (if U9 c.2.2.1.length (m8 c)=true then(D1 c.2.2.1.length (m8 c),true) else(0,false)):=by
 have l:=RG v;have h:=l.1;unfold IQ;by_cases b:2<=c.2.2.1.length/\c.2.2.1.length<=5
 ·have m:(decide ((c.2.2.1.length:Int)<2)||decide (5 < (c.2.2.1.length:Int)))=false:=by
   rw[<- Bool.not_eq_true]; simp; omega
  rw[m,if_neg (by simp)];have j:=KU (n:=c.2.2.1.length) h (fun i (s:Int)=>(s,(i:Int))) (fun i s=>if(m8 c i).2.2.2=true then s+1 else s) (fun i=>(!D3 (m8 c i).1||J6 (fun i=>(m8 c i).1) i)||!As c.2.2.1.length (m8 c i) i) (some ((0:Int),false)) (fun i s=>0<=s/\s<=i) (J:=PY) (F:=VZ c) (fun g i s hi Q=>by
   refine(if_pos (by simpa using hi)).trans ?_;have z:((i:Int)).toNat=i:=rfl;have r:(m8 c i).1.size<=9223372036854775807:=(H2 (d:=a7 y293) hi l).1;rw[z,gP ⟨oo,trivial⟩,lE];have a:=C2 (n:=i) (by omega) (fun k=>decide ((m8 c k).1=(m8 c i).1)) (some ((0:Int),false)) (e:=Mu (i:Int) s (m8 c i) c g ()) (F:=VY c (m8 c i) (i:Int) s g) (fun G k u=>Ay u (by omega) ⟨oo,trivial⟩) (fun G=>aE);refine a.trans ?_;have y:Mu (i:Int) s (m8 c i) c g ()=if(!D3 (m8 c i).1||!As c.2.2.1.length (m8 c i) i)=true then some ((0:Int),false) else g (if(m8 c i).2.2.2=true then s+1 else s,((i+1:Nat):Int)):=by
    have o:∀f,Mt (i:Int) g f=g (f,((i+1:Nat):Int)):=fun f=>gP ⟨oo,trivial⟩;show gd _ (if(!vl (R7 (m8 c i).1)||!vl (m3 (m8 c i).2.2.1 0 500))=true then _ else gd _ (if _=true then _ else if _=true then gd _ _ else _))=_;rw[Nx _ r,L5,vS,vS,gP ⟨rfl,fun _=>rfl,trivial⟩,gP ⟨oo,fun _=>oo,trivial⟩,gP ⟨oo,trivial⟩,o,o];generalize m8 c i=q;have x:((i:Int)==(c.2.2.1.length:Int)-1)=decide (i+1=c.2.2.1.length):=by
     rw[Bool.eq_iff_iff,beq_iff_eq,dq]; omega
    have H:decide ((i:Int) < (c.2.2.1.length:Int)-1)=!decide (i+1=c.2.2.1.length):=by
     rw[Bool.eq_iff_iff]; simp; omega
    rw[x,H];have hz:As c.2.2.1.length q i=(j3 q.2.2.1 0 500&&(if decide (i+1=c.2.2.1.length)=true then q.2.1==2&&q.2.2.1==0&&!q.2.2.2 else q.2.1==1)):=by
     unfold As;by_cases V:i+1=c.2.2.1.length
     ·grind
     ·grind
    rw[hz];have T:(q.2.1 != 2)=!(q.2.1==2):=rfl;have t:(q.2.2.1 != 0)=!(q.2.2.1==0):=rfl;have n3:(q.2.1 != 1)=!(q.2.1==1):=rfl;rw[T,t,n3];cases D3 q.1 <;> cases j3 q.2.2.1 0 500 <;> cases decide (i+1=c.2.2.1.length) <;> cases q.2.1==2 <;> cases q.2.2.1==0 <;> cases q.2.1==1 <;> cases q.2.2.2 <;> rfl
   rw[y];have W:J6 (fun i=>(m8 c i).1) i=(List.range i).any fun k=>decide ((m8 c k).1=(m8 c i).1):=rfl
   grind) (fun i s hi Q _=>by
   omega) (fun g s _=>aE) 0 oo
  refine j.trans ?_;rw[Nr];unfold U9 x4;rw[decide_eq_true b.1,decide_eq_true b.2];cases(List.range c.2.2.1.length).any (fun i=>!D3 (m8 c i).1||J6 (fun i=>(m8 c i).1) i) <;> cases(List.range c.2.2.1.length).any (fun i=>!As c.2.2.1.length (m8 c i) i) <;> rfl
 ·have m:(decide ((c.2.2.1.length:Int)<2)||decide (5 < (c.2.2.1.length:Int)))=true:=by
   simp; omega
  have X:¬U9 c.2.2.1.length (m8 c)=true:=fun E=>by
   obtain⟨w,P,_⟩:=GR E;exact b ⟨w,P⟩
  grind
theorem K0N(c:l6)(l:wf y153 c):DS c=some (Fa (BV c.2.2.1.length (m8 c)) c.2.2.2.1.length (j9 c)):=by
 have j:=RH l;have h:=j.1;have r:∀(a:List r9) (o:r9),a.length<=9223372036854775807->Kn a o=some (a.any fun x=>x.1==o.1&&x.2.1==o.2.1&&x.2.2.1==o.2.2.1):=fun a o d=>by
  have q:MV a o=_:=Bh d (fun i=>(a.getD i (a7 y158)).1==o.1&&(a.getD i (a7 y158)).2.1==o.2.1&&(a.getD i (a7 y158)).2.2.1==o.2.2.1) (fun g i hi=>Fh hi d rfl) (fun g=>aE);have f:Kn a o=_:=Fi q;rw[M5 a (a7 y158) (fun x=>x.1==o.1&&x.2.1==o.2.1&&x.2.2.1==o.2.2.1)] at f;exact f
 have b:=C2 (n:=c.2.2.2.1.length) h (fun i=>!BV c.2.2.1.length (m8 c) (j9 c i)||GQ (j9 c) i) (some false) (e:=MW c ()) (F:=Yv c) (fun g i hi=>by
  have m:((i:Int)).toNat=i:=rfl;have t:(c.2.2.2.1.take i).length<=9223372036854775807:=by rw[List.length_take]; omega
  have s:=K0K c (j9 c i) l (H2 hi j);have k:=r (c.2.2.2.1.take i) (j9 c i) t;rw[r0M c.2.2.2.1 (a7 y158) _ i (by omega)] at k;refine(if_pos (by grind)).trans ?_;rw[m,gP ⟨oo,trivial⟩,lE,s,k,vS,vS,gP ⟨rfl,fun _=>⟨by omega,by omega,by omega⟩,fun _=>rfl,trivial⟩,gP ⟨oo,trivial⟩];rfl) (fun g=>aE)
 refine b.trans ?_;unfold Fa MW;have e:decide ((c.2.2.2.1.length:Int)<=8)=decide (c.2.2.2.1.length<=8):=by rw[decide_eq_decide]; omega
 rw[e];cases(List.range c.2.2.2.1.length).any fun i=>!BV c.2.2.1.length (m8 c) (j9 c i)||GQ (j9 c) i
 ·simp
 ·simp
theorem KV{n:Nat}(h:1<=n):((n:Int)-1).toNat=n-1:=by omega
theorem K0M(c:l6)(a:wf y153 c)(u:2<=c.2.2.1.length)(t:c.2.2.1.length<=5):MQ c=some (GS c.2.1 c.2.2.1.length (m8 c) c.2.2.2.1.length (j9 c) c.2.2.2.2.1):=by
 have q:=RG a;have h:=q.1;have l:=a.2.2.2.2.1.1;have d:=lF (n:=c.2.2.1.length) h (fun i (s:Int)=>(s,(i:Int))) (fun i s=>if(m8 c i).2.2.2=true then s+1 else s) (fun i s=>0<=s/\s<=i) (J:=GH c) (F:=Yg c) (fun g i s hi m=>by
  have k:∀j,MP (i:Int) g j=g (j,((i+1:Nat):Int)):=fun j=>gP ⟨oo,trivial⟩;have r:((i:Int)).toNat=i:=rfl;refine(if_pos (by grind)).trans ?_;rw[r,gP ⟨oo,trivial⟩,lE,gP ⟨oo,trivial⟩,k,k]
  grind) (fun i s hi m=>by
  omega) (fun g s _=>aE) 0 oo
 refine d.trans ?_;show GH c (D1 c.2.2.1.length (m8 c))=_;have o:∀b:Int,GH c b=some (if c.2.1=1 then b==0&&(c.2.2.2.2.1.length:Int)==1*2 ^ (c.2.2.1.length-1)&&c.2.2.2.2.1.all (j3 · 0 1)
  else if c.2.1=2 then b==1&&(c.2.2.2.2.1.length:Int)==0&&!B5 c.2.2.2.1.length (j9 c) 1&&!(B5 c.2.2.2.1.length (j9 c) 2==B5 c.2.2.2.1.length (j9 c) 3)
  else if c.2.1=3 then b==1&&(c.2.2.2.2.1.length:Int)==0&&B5 c.2.2.2.1.length (j9 c) 1&&B5 c.2.2.2.1.length (j9 c) 2&&!B5 c.2.2.2.1.length (j9 c) 3
  else false):=fun b=>by
  rw[GH,RE c a,Fj _ _ _ l,RF c a,RF c a,RF c a]
  repeat rw[vS]
  rw[KV (by omega)];by_cases e:c.2.1=1
  ·rw[if_pos (beq_iff_eq.2 e),if_pos e,gP ⟨fun _=>rfl,fun _=>⟨by omega,ZU t⟩,fun _=>rfl,trivial⟩,lE,KV (by omega)]
  ·rw[if_neg (by grind),if_neg e];by_cases f:c.2.1=2
   ·rw[if_pos (beq_iff_eq.2 f),if_pos f,gP ⟨fun _=>rfl,fun _=>rfl,fun _=>rfl,trivial⟩]
   ·rw[if_neg (by grind),if_neg f];by_cases k3:c.2.1=3
    ·rw[if_pos (beq_iff_eq.2 k3),if_pos k3,gP ⟨fun _=>rfl,fun _=>rfl,fun _=>rfl,trivial⟩]
    grind
 exact o (D1 c.2.2.1.length (m8 c))
abbrev Az(q:Nat->(Nat->I5)->A8->Bool)(c:l6):Bool:=O1 q c.1 c.2.1 c.2.2.1.length (m8 c) c.2.2.2.1.length (j9 c) c.2.2.2.2.1 c.2.2.2.2.2.1 c.2.2.2.2.2.2
theorem K0V(c:l6)(b:wf y153 c)(e:c.2.2.1.length<=1048576):Kp c=some (Az B4 c):=by
 have f:=RG b;show _=some (O1 B4 _ _ _ _ _ _ _ _ _);rw[<- B0n];unfold Kp O1;rw[RA c.1 b.1,K0O _ f e,K0N c b,P9,P9]
 repeat rw[vS]
 cases hpo:U9 c.2.2.1.length (m8 c) with
 | false =>
   rw[gP ⟨rfl,fun _=>rfl,fun a=>by simp at a,fun a=>by simp at a,fun a=>by simp at a,fun a=>by simp at a,trivial⟩];simp
 | true =>
   obtain⟨d,g,_⟩:=GR hpo;rw[K0M c b d g,vS,gP ⟨rfl,fun _=>rfl,fun _=>rfl,fun _=>rfl,fun _=>rfl,fun _=>rfl,trivial⟩]
theorem K0R(c:l6)(r:wf y153 c)(x:c.2.2.2.1.length<=8)(k:∀i,i<c.2.2.2.1.length->1<=(j9 c i).1/\(j9 c i).1<=5):IJ c=some (fN (Fc (j9 c)) c.2.2.2.1.length (List.replicate 6 0)):=by
 have h:=(RH r).1;unfold IJ;rw[gP ⟨⟨by omega,rfl,by decide,by omega⟩,trivial⟩];have m:=lF (n:=c.2.2.2.1.length) h (fun i (v:List Int)=>((i:Int),v)) (Fc (j9 c)) (fun i v=>i<=c.2.2.2.1.length/\v=fN (Fc (j9 c)) i (List.replicate 6 0)) (J:=fun v=>some v) (F:=VP c) (fun g i v hi e=>by
  obtain⟨u,o⟩:=Rm (j9 c) i (fun j z=>k j (by omega));obtain⟨w,y⟩:=k i hi;have l:v.length=6:=by rw[e.2]; exact u
  have a:=o (j9 c i).1.toNat (by omega);have q:=KL (j9 c) ((j9 c i).1.toNat:Int) i;rw[<- e.2] at a;have t:((i:Int)).toNat=i:=rfl;refine(if_pos (by grind)).trans ?_;have f:c7 (v.getD (j9 c i).1.toNat 0+1):=by rw[a]; exact oo
  have d:ix (j9 c i).1 v.length:=oo;have b:(j9 c i).1.toNat<v.length:=by omega
  rw[t,gP ⟨oo,d,b,f,d,b,trivial⟩,lE,gP ⟨oo,trivial⟩];rfl) (fun i v hi e=>⟨by omega,by rw[e.2]; rfl⟩) (fun g s _=>aE) (List.replicate 6 0) ⟨by omega,rfl⟩
 grind
theorem K0X(c:l6)(f:wf y153 c):IT c=some (Az B4 c):=by
 have V:=RH f;have h:=V.1;show _=some (O1 B4 _ _ _ _ _ _ _ _ _);unfold IT O1;rw[K0T c f,Nx c.1 f.1,L5,L5]
 repeat rw[vS]
 rw[gP ⟨rfl,trivial⟩,lE,gP ⟨fun _=>rfl,fun _=>rfl,fun _=>rfl,trivial⟩];cases hpo:U9 c.2.2.1.length (m8 c) with
 | false =>
   grind
 | true =>
   obtain⟨h2,h5,_⟩:=GR hpo;have e9:(if true=true then(D1 c.2.2.1.length (m8 c),true) else((0:Int),false))=(D1 c.2.2.1.length (m8 c),true):=rfl;rw[e9];by_cases E:D3 c.1=true/\c.2.2.2.1.length<=8/\j3 c.2.2.2.2.2.1 0 100000=true/\j3 c.2.2.2.2.2.2 0 100000=true
   ·obtain⟨g1,T,y,g4⟩:=E;have e0:decide (8 < (c.2.2.2.1.length:Int))=false:=decide_eq_false (by omega);rw[g1,e0,y,g4];refine(if_neg (by simp)).trans ?_;have t:=C2 (n:=c.2.2.2.1.length) h (fun i=>!B4 c.2.2.1.length (m8 c) (j9 c i)||GQ (j9 c) i) (some false) (e:=Mv c (D1 c.2.2.1.length (m8 c),true) ()) (F:=Wf c (D1 c.2.2.1.length (m8 c),true)) (fun g i hi=>by
     have e3:((i:Int)).toNat=i:=rfl;have e1:=K0S c (j9 c i) f (H2 hi V);have d:=C2 (n:=i) (by omega) (fun k=>(j9 c k).1==(j9 c i).1&&(j9 c k).2.1==(j9 c i).2.1&&(j9 c k).2.2.1==(j9 c i).2.2.1) (some false) (e:=g ((i:Int)+1)) (F:=We c (j9 c i) (i:Int) g) (fun y k hk=>Ay hk (by omega) ⟨oo,fun _=>oo,fun _=>oo,trivial⟩) (fun y=>by
      refine aE.trans ?_;exact gP ⟨oo,trivial⟩)
     refine(if_pos (by grind)).trans ?_;rw[e3,gP ⟨oo,trivial⟩,lE,e1,vS,gP ⟨rfl,trivial⟩,d];unfold GQ
     grind) (fun g=>aE)
    refine t.trans ?_;unfold Fa;rw[decide_eq_true T];cases hany:(List.range c.2.2.2.1.length).any fun i=>!B4 c.2.2.1.length (m8 c) (j9 c i)||GQ (j9 c) i with
    | true=>simp
    | false =>
      rw[if_neg (by simp)];have b:∀i,i<c.2.2.2.1.length->B4 c.2.2.1.length (m8 c) (j9 c i)=true:=fun i hi=>by
       grind
      have j:=K0R c f T (fun i hi=>ZT (b i hi));obtain⟨q,a⟩:=Rm (j9 c) c.2.2.2.1.length (fun i hi=>ZT (b i hi));have P:=a 1 (by omega);have c2:=a 2 (by omega);have X:=a 3 (by omega);rw[Mv,j,vS,gP ⟨rfl,trivial⟩,lE];generalize fN (Fc (j9 c)) c.2.2.2.1.length (List.replicate 6 0)=v at *
      have q1:((v.getD 1 0)==(0:Int))=!B5 c.2.2.2.1.length (j9 c) 1:=by
       rw[P,GU];have:=(KL (j9 c) 1 c.2.2.2.1.length).1;rw[Bool.eq_iff_iff]; simp; omega
      have z:decide (0<v.getD 1 0)=B5 c.2.2.2.1.length (j9 c) 1:=by rw[P,GU]; rfl
      have W:decide (0<v.getD 2 0)=B5 c.2.2.2.1.length (j9 c) 2:=by rw[c2,GU]; rfl
      have q3:decide (0<v.getD 3 0)=B5 c.2.2.2.1.length (j9 c) 3:=by rw[X,GU]; rfl
      have r:((v.getD 3 0)==(0:Int))=!B5 c.2.2.2.1.length (j9 c) 3:=by
       rw[X,GU];have:=(KL (j9 c) 3 c.2.2.2.1.length).1;rw[Bool.eq_iff_iff]; simp; omega
      have H:ix (1:Int) v.length:=oo;have i2:ix (2:Int) v.length:=oo;have i3:ix (3:Int) v.length:=oo;have Y:Int.toNat (1:Int)<v.length:=by rw[q]; decide
      have G:Int.toNat (2:Int)<v.length:=by rw[q]; decide
      have n3:Int.toNat (3:Int)<v.length:=by rw[q]; decide
      unfold GS;by_cases m:c.2.1=1
      ·rw[if_pos (beq_iff_eq.2 m),if_pos m];have Q:=f.2.2.2.2.1.1;have l:=C2 (n:=c.2.2.2.2.1.length) Q (fun i=>!j3 (c.2.2.2.2.1.getD i 0) 0 1) (some false) (e:=IS (D1 c.2.2.1.length (m8 c),true) c ()) (F:=Wc c (D1 c.2.2.1.length (m8 c),true)) (fun g i hi=>Ay hi Q ⟨oo,rfl,trivial⟩) (fun g=>aE);refine l.trans ?_;rw[M5 c.2.2.2.2.1 0 (fun x=>!j3 x 0 1),<- Y7];have e5:IS (D1 c.2.2.1.length (m8 c),true) c ()=some (D1 c.2.2.1.length (m8 c)==0&&(c.2.2.2.2.1.length:Int)==1*2 ^ (c.2.2.1.length-1)):=by
        rw[IS,KV (by omega),gP ⟨fun _=>oo,fun _=>oo,fun _=>⟨by omega,ZU h5⟩,trivial⟩]
       rw[e5];cases c.2.2.2.2.1.any fun x=>!j3 x 0 1 <;> simp
      ·rw[if_neg (by simpa using m),if_neg m];by_cases o:c.2.1=2
       ·rw[if_pos (beq_iff_eq.2 o),if_pos o,gP ⟨fun _=>H,fun _=>Y,fun _=>i2,fun _=>G,fun _=>i3,fun _=>n3,trivial⟩];have s:Int.toNat (1:Int)=1:=rfl;have w:Int.toNat (2:Int)=2:=rfl;have u:Int.toNat (3:Int)=3:=rfl;rw[s,w,u,q1,W,q3];cases D1 c.2.2.1.length (m8 c)==1 <;> cases(c.2.2.2.2.1.length:Int)==0 <;> cases B5 c.2.2.2.1.length (j9 c) 1 <;> cases B5 c.2.2.2.1.length (j9 c) 2 <;> cases B5 c.2.2.2.1.length (j9 c) 3 <;> rfl
       ·rw[if_neg (by simpa using o),if_neg o];by_cases k3:c.2.1=3
        ·rw[if_pos (beq_iff_eq.2 k3),if_pos k3,gP ⟨fun _=>H,fun _=>Y,fun _=>i2,fun _=>G,fun _=>i3,fun _=>n3,trivial⟩];have s:Int.toNat (1:Int)=1:=rfl;have w:Int.toNat (2:Int)=2:=rfl;have u:Int.toNat (3:Int)=3:=rfl;rw[s,w,u,z,W,r];cases D1 c.2.2.1.length (m8 c)==1 <;> cases(c.2.2.2.2.1.length:Int)==0 <;> cases B5 c.2.2.2.1.length (j9 c) 1 <;> cases B5 c.2.2.2.1.length (j9 c) 2 <;> cases B5 c.2.2.2.1.length (j9 c) 3 <;> rfl
        ·rw[if_neg (by grind),if_neg k3];rfl
   grind[D3,decide,j3,trans,Fa]
abbrev Q3(l:List l6)(i:Nat):l6:=l.getD i (a7 y153)
abbrev BX(l:List l6):Bool:=Bf l.length (fun i=>Az B4 (Q3 l i)) (fun i=>(Q3 l i).1)
theorem t0B{c:l6}(h:Az B4 c=true):D3 c.1=true:=by
 grind[O1,B4]
theorem L0h(l:List l6)(d:wf (.sl y153) l)(f:j0 (.sl y153) l<=1048576):Kr l=some (BX l):=by
 have h:=d.1;have y:=w4 f;have a:=KU (n:=l.length) h (fun i (s:List ByteArray)=>(s,(i:Int))) (Q2 fun i=>(Q3 l i).1) (fun i=>!Az B4 (Q3 l i)) (some false) (fun i s=>s.length=i) (J:=Kq l) (F:=Yx l) (fun g i s hi m=>by
  have r:((i:Int)).toNat=i:=rfl;have e:j0 y153 (Q3 l i)<=1048576:=K2 hi f;have q:(Q3 l i).2.2.1.length<=1048576:=w4 (cF (cS (cS e)));have w:=K0V (Q3 l i) (H2 hi d) q;have z:=Ny (b:=16) hi y (by decide);refine(if_pos (by grind)).trans ?_;rw[r,gP ⟨oo,trivial⟩,lE,w,vS,gP ⟨rfl,trivial⟩,gP ⟨⟨by grind,by grind⟩,trivial⟩,gP ⟨oo,trivial⟩];rfl) (fun i s hi m _=>by grind[Q2,List.length_append]) (fun g s _=>aE) [] rfl
 refine a.trans ?_;rw[He l (a7 y153) (fun c:l6=>c.1)];have t:wf (.sl .str) (l.map fun c:l6=>c.1):=Hd h fun x j=>(d.2 x j).1;have u:∀v:List ByteArray,wf (.sl .str) v->Kq l v=some (decide (l.length<=8)&&x4 v.length fun i=>v.getD i (a7 .str)):=fun v k=>by
  have o:decide ((l.length:Int)<=8)=decide (l.length<=8):=by rw[decide_eq_decide]; omega
  rw[Kq,KS _ k,vS,gP ⟨fun _=>rfl,trivial⟩,o]
 rw[u _ t,Hc l (fun c:l6=>c.1) (a7 y153)];show _=some (Bf _ _ _);rw[<- F0f (fun i _ e=>t0B e)];split <;> rfl
theorem L0l(l:List l6)(c:wf (.sl y153) l):IU l=some (BX l):=by
 have h:=c.1;have b:=C2 (n:=l.length) h (fun i=>!Az B4 (Q3 l i)||J6 (fun i=>(Q3 l i).1) i) (some false) (e:=Mw l ()) (F:=Wi l) (fun g i hi=>by
  have j:((i:Int)).toNat=i:=rfl;have o:=K0X (Q3 l i) (H2 hi c);have a:=C2 (n:=i) (by omega) (fun k=>decide ((Q3 l k).1=(Q3 l i).1)) (some false) (e:=g ((i:Int)+1)) (F:=Wh l (i:Int) g) (fun m k f=>Ay f (by omega) ⟨oo,oo,trivial⟩) (fun m=>by
   refine aE.trans ?_;exact gP ⟨oo,trivial⟩)
  refine(if_pos (by grind)).trans ?_;rw[j,o,vS,gP ⟨oo,rfl,trivial⟩,a];unfold J6
  grind) (fun g=>aE)
 refine b.trans ?_;show _=some (Bf _ _ _);unfold Bf Mw;have d:decide ((l.length:Int)<=8)=decide (l.length<=8):=by rw[decide_eq_decide]; omega
 rw[d];cases(List.range l.length).any (fun i=>!Az B4 (Q3 l i)||J6 (fun i=>(Q3 l i).1) i) <;> rfl
abbrev k6(d:m7)(i:Nat):B0:=d.1.getD i (a7 y155)
abbrev s8(d:m7)(i:Nat):D2:=d.2.2.getD i (a7 y231)
abbrev Q4(l:List l6)(x:Int):Nat:=(l.getD x.toNat (a7 y153)).2.2.1.length
abbrev Fk(l:List l6)(d:m7):Bool:=Bg (BX l) l.length (Q4 l) d.1.length d.2.2.length d.2.1.length (k6 d) (s8 d) (fun i=>d.2.1.getD i (a7 .str))
theorem I0N(d:m7)(a:wf y53 d)(x:Int):DP d x=some (j3 x 0 ((d.2.1.length:Int)-1)):=by
 have h:=a.2.1.1;have e:GG d.2.1=some (d.2.1.length:Int):=rfl;unfold DP;rw[e]
 repeat rw[vS]
 rw[P9,vS,gP ⟨rfl,oo,rfl,trivial⟩]
theorem L0f(d:m7)(l:List l6)(x:B0)(f:wf y53 d)(n:wf (.sl y153) l)(c:wf y155 x):Kh d l x=some (K9 l.length (Q4 l) d.2.1.length x):=by
 have h:=n.1;have b:=c.2.2.1;have e:CG l=some (l.length:Int):=rfl;have m:∀y,Kg y d=some (!j3 y 0 ((d.2.1.length:Int)-1)):=fun y=>by
  unfold Kg;rw[I0N d f,gP ⟨rfl,trivial⟩,vS]
 have j:MH x.2.2 d=_:=Bh b (fun i=>!j3 (x.2.2.getD i 0) 0 ((d.2.1.length:Int)-1)) (fun g i hi=>Fh hi b (m _)) (fun g=>aE);have a:MI x.2.2 d=_:=Fi j;rw[M5 x.2.2 0 (fun y=>!j3 y 0 ((d.2.1.length:Int)-1))] at a;unfold Kh;rw[e,a]
 repeat rw[vS]
 rw[P9,vS,gP ⟨rfl,oo,rfl,fun k=>by
  have:=r7.1 k.1;exact oo,fun _=>rfl,trivial⟩,Y7]
 rfl
theorem L0g(d:m7)(e:wf y53 d)(u:j0 y53 d<=1048576):MM d=some (decide (d.1.length<=14)&&decide (d.2.1.length<=30)&&decide (d.2.2.length<=8)&&x4 d.1.length (fun i=>(k6 d i).1)&&x4 d.2.1.length (fun i=>d.2.1.getD i (a7 .str))&&x4 d.2.2.length (fun i=>(s8 d i).1)):=by
 have h:=e.1.1;have a:=e.2.2.1;have m:d.1.length<=1048576:=w4 (cF u);have r:d.2.2.length<=1048576:=w4 (cS (cS u));have l:=lF (n:=d.1.length) h (fun i (s:List ByteArray)=>(s,(i:Int))) (Q2 fun i=>(k6 d i).1) (fun i s=>s.length=i) (J:=Kj d) (F:=Yd d) (fun g i s hi t=>by
  have o:((i:Int)).toNat=i:=rfl;have G:=Ny (b:=16) hi m (by decide);refine(if_pos (by grind)).trans ?_;rw[o,gP ⟨oo,trivial⟩,lE,gP ⟨⟨by grind,by grind⟩,trivial⟩,gP ⟨oo,trivial⟩];rfl) (fun i s hi t=>by grind[Q2,List.length_append]) (fun g s _=>aE) [] rfl
 refine l.trans ?_;rw[He d.1 (a7 y155) (fun c:B0=>c.1)];have j:wf (.sl .str) (d.1.map fun c:B0=>c.1):=Hd h fun x k=>(e.1.2 x k).1;have q:wf (.sl .str) (d.2.2.map fun c:D2=>c.1):=Hd a fun x k=>(e.2.2.2 x k).1;have P:∀v:List ByteArray,wf (.sl .str) v->v.length=d.1.length->Kj d v=some (decide (d.1.length<=14)&&decide (d.2.1.length<=30)&&decide (d.2.2.length<=8)&&(x4 v.length fun i=>v.getD i (a7 .str))&&x4 d.2.1.length (fun i=>d.2.1.getD i (a7 .str))&&x4 d.2.2.length (fun i=>(s8 d i).1)):=fun v E w=>by
  rw[Kj];have f:=lF (n:=d.2.2.length) a (fun i (s:List ByteArray)=>(s,(i:Int))) (Q2 fun i=>(s8 d i).1) (fun i s=>s.length=i) (J:=Ki v d) (F:=Yc d v) (fun g i s hi t=>by
   have o:((i:Int)).toNat=i:=rfl;have G:=Ny (b:=16) hi r (by decide);refine(if_pos (by grind)).trans ?_;rw[o,gP ⟨oo,trivial⟩,lE,gP ⟨⟨by grind,by grind⟩,trivial⟩,gP ⟨oo,trivial⟩];rfl) (fun i s hi t=>by grind[Q2,List.length_append]) (fun g s _=>aE) [] rfl
  refine f.trans ?_;rw[He d.2.2 (a7 y231) (fun c:D2=>c.1)];have V:∀z:List ByteArray,wf (.sl .str) z->z.length=d.2.2.length->Ki v d z=some (decide (d.1.length<=14)&&decide (d.2.1.length<=30)&&decide (d.2.2.length<=8)&&(x4 v.length fun i=>v.getD i (a7 .str))&&x4 d.2.1.length (fun i=>d.2.1.getD i (a7 .str))&&x4 z.length (fun i=>z.getD i (a7 .str))):=fun z hz H=>by
   have Q:decide ((v.length:Int)<=14)=decide (d.1.length<=14):=by rw[decide_eq_decide]; omega
   have T:decide ((d.2.1.length:Int)<=30)=decide (d.2.1.length<=30):=by rw[decide_eq_decide]; omega
   have y:decide ((z.length:Int)<=8)=decide (d.2.2.length<=8):=by rw[decide_eq_decide]; omega
   rw[Ki,KS _ E,KS _ hz,KS _ e.2.1,vS,vS,vS,gP ⟨fun _=>rfl,fun _=>rfl,fun _=>rfl,trivial⟩,Q,T,y]
  rw[V _ q (List.length_map _),Hc d.2.2 (fun c:D2=>c.1) (a7 y231)]
 rw[P _ j (List.length_map _),Hc d.1 (fun c:B0=>c.1) (a7 y155)]
theorem Nz{l:List l6}(h:BX l=true){x:Int}(b:j3 x 0 ((l.length:Int)-1)=true):2<=Q4 l x/\Q4 l x<=5:=by
 have h:Bf _ _ _=true:=h;unfold Bf at h;rw[ba] at h;rw[r7] at b;have:=Av.1 h.1 x.toNat (by omega);rw[Bool.or_eq_false_iff,Bool.not_eq_false'] at this;have a:O1 B4 _ _ _ _ _ _ _ _ _=true:=this.1;unfold O1 at a;simp only[ba] at a;have:=GR a.1.1.1.1.2
 grind
theorem RJ{a b:Nat}{I7:Int->Nat}{x:A9}(h:K9 a I7 b x=true)(c:∀y,j3 y 0 ((a:Int)-1)=true->2<=I7 y):1<=x.2.2.length/\j3 (x.2.2.getD (x.2.2.length-1) 0) 0 ((b:Int)-1)=true:=by
 grind[K9]
theorem L0k(l:List l6)(d:m7)(u:wf (.sl y153) l)(c:wf y53 d):Mr l d=some (!((List.range d.1.length).any fun i=>!K9 l.length (Q4 l) d.2.1.length (k6 d i))&&!((List.range d.2.2.length).any fun i=>!L0 d.2.1.length (s8 d i))):=by
 have h:=u.1;have f:=c.1.1;have m:=c.2.2.1;have v:=c.2.1.1;have w:Mq d ()=some (!((List.range d.2.2.length).any fun i=>!L0 d.2.1.length (s8 d i))):=by
  have b:=C2 (n:=d.2.2.length) m (fun i=>!L0 d.2.1.length (s8 d i)) (some false) (e:=some true) (F:=VJ d) (fun g i hi=>by
   have j:((i:Int)).toNat=i:=rfl;refine(if_pos (by grind)).trans ?_;rw[j,L5,L5,vS,vS,gP ⟨oo,rfl,fun _=>oo,fun _=>oo,fun _=>rfl,trivial⟩,gP ⟨oo,trivial⟩]
   grind[L0,Bool.not_and]) (fun g=>aE)
  refine b.trans ?_;cases(List.range d.2.2.length).any fun i=>!L0 d.2.1.length (s8 d i) <;> rfl
 have b:=C2 (n:=d.1.length) f (fun i=>!K9 l.length (Q4 l) d.2.1.length (k6 d i)) (some false) (e:=Mq d ()) (F:=VM d l) (fun g i hi=>by
  have j:((i:Int)).toNat=i:=rfl;have q:=H2 (d:=a7 y155) hi c.1;have o:=q.2.2.1;refine(if_pos (by grind)).trans ?_;rw[j,gP ⟨oo,trivial⟩,lE,L5,vS,gP ⟨oo,rfl,fun t=>by
   have:=t.1;rw[Bool.not_eq_false'] at this;have:=r7.1 this;exact oo,trivial⟩]
  have a:=C2 (n:=(k6 d i).2.2.length) o (fun k=>!j3 ((k6 d i).2.2.getD k 0) 0 ((d.2.1.length:Int)-1)) (some false) (e:=g ((i:Int)+1)) (F:=VL (k6 d i) d (i:Int) g) (fun r k s=>by
   refine(Ay s o ⟨oo,oo,rfl,trivial⟩).trans ?_;rfl) (fun r=>by
   refine aE.trans ?_;exact gP ⟨oo,trivial⟩)
  rw[M5 (k6 d i).2.2 0 (fun y=>!j3 y 0 ((d.2.1.length:Int)-1))] at a;rw[a];unfold K9
  grind[Y7]) (fun g=>aE)
 refine b.trans ?_
 grind
theorem o0B(v:List Int):(!v.any fun x=>x != 1)=v.all (·==1):=Y7 v (fun x=>x==1)
theorem RL{n b:Nat}(h:n<=1048576)(a:b<=4096):(0<=(n:Int)/\(n:Int)=(n:Int)/\(n:Int).toNat*b<=281474976710656/\(n:Int)<=9223372036854775807)/\True:=by
 have c:n*b<=1048576*4096:=Nat.mul_le_mul h a;exact⟨⟨by omega,rfl,by rw[Int.toNat_natCast]; omega,by omega⟩,trivial⟩
theorem KW{v:List Int}{n b:Nat}{x:Int}(h:S5 v n b)(e:b<=2097152)(d:j3 x 0 ((n:Int)-1)=true):ix x v.length/\x.toNat<v.length/\c7 (v.getD x.toNat 0+1)/\ix x v.length/\x.toNat<v.length/\True:=by
 obtain⟨c,a⟩:=v0E h d;have:=h.2 x.toNat;exact⟨c,a,oo,c,a,trivial⟩
theorem NA{n:Nat}(a:1<=n)(h:n<=9223372036854775807):c7 ((n:Int)-1)/\ix ((n:Int)-1) n:=⟨oo,oo⟩
theorem L0s(l:List l6)(d:m7)(G:wf (.sl y153) l)(e:wf y53 d)(Q:j0 (.sl y153) l<=1048576)(md:j0 y53 d<=1048576):Kt l d=some (Fk l d):=by
 have t:=e.1.1;have k:=e.2.2.1;have Y:d.1.length<=1048576:=w4 (cF md);have T:d.2.1.length<=1048576:=w4 (cF (cS md));have X:d.2.2.length<=1048576:=w4 (cS (cS md));show _=some (Bg _ _ _ _ _ _ _ _ _);unfold Kt Bg;rw[L0h l G Q,L0g d e md,vS,vS,gP ⟨rfl,fun _=>rfl,trivial⟩];cases hlo:BX l with
 | false=>grind
 | true =>
   rw[Bool.true_and];cases hno:(decide (d.1.length<=14)&&decide (d.2.1.length<=30)&&decide (d.2.2.length<=8)&&x4 d.1.length (fun i=>(k6 d i).1)&&x4 d.2.1.length (fun i=>d.2.1.getD i (a7 .str))&&x4 d.2.2.length (fun i=>(s8 d i).1)) with
   | false=>grind
   | true =>
     refine(if_neg (by simp)).trans ?_;rw[gP (RL T (by decide)),Int.toNat_natCast];have h:∀y,j3 y 0 ((l.length:Int)-1)=true->2<=Q4 l y:=fun y V=>(Nz hlo V).1;have o:=KU (n:=d.1.length) t (fun i (v:List Int)=>((i:Int),v)) (M6 (k6 d)) (fun i=>!K9 l.length (Q4 l) d.2.1.length (k6 d i)) (some false) (fun i v=>i<=d.1.length/\S5 v d.2.1.length i) (J:=Nb d) (F:=YB d l) (fun g i v hi c=>by
      have r:((i:Int)).toNat=i:=rfl;have w:=H2 (d:=a7 y155) hi e.1;refine(if_pos (by grind)).trans ?_;rw[r,gP ⟨oo,trivial⟩,lE,L0f d l _ e G w,vS,gP ⟨rfl,trivial⟩];cases hin:K9 l.length (Q4 l) d.2.1.length (k6 d i) with
      | false=>rfl
      | true =>
        obtain⟨q,H⟩:=RJ hin h;have a:(k6 d i).2.2.length<=9223372036854775807:=w.2.2.1;refine(if_neg (by simp)).trans ?_;rw[KV q,gP ⟨(NA q a).1,(NA q a).2,KW c.2 (by omega) H⟩,lE,gP ⟨oo,trivial⟩];rfl) (fun i v hi c _=>⟨by omega,GV c.2 _⟩) (fun g v _=>aE) (List.replicate d.2.1.length 0) ⟨by omega,Nq _ _⟩
     refine o.trans ?_;cases hia:(List.range d.1.length).any fun i=>!K9 l.length (Q4 l) d.2.1.length (k6 d i) with
     | true=>simp
     | false =>
       refine(if_neg (by simp)).trans ?_;have b:=Ro (k6 d) d.2.1.length d.1.length;unfold CR;generalize fN (M6 (k6 d)) d.1.length (List.replicate d.2.1.length 0)=v0 at *
       rw[Nb];have j:=KU (n:=d.2.2.length) k (fun i (v:List Int)=>((i:Int),v)) (H7 (s8 d)) (fun i=>!L0 d.2.1.length (s8 d i)) (some false) (fun i v=>i<=d.2.2.length/\S5 v d.2.1.length (d.1.length+i)) (J:=Ks) (F:=YA d) (fun g i v hi c=>by
        have r:((i:Int)).toNat=i:=rfl;have z:∀s,Na (i:Int) g s=g (((i+1:Nat):Int),s):=fun s=>gP ⟨oo,trivial⟩;refine(if_pos (by grind)).trans ?_;rw[r,gP ⟨oo,trivial⟩,lE,I0N d e,vS,gP ⟨fun _=>rfl,trivial⟩,z,z];have W:((s8 d i).2.1 != 1&&(s8 d i).2.1 != 2||!j3 (s8 d i).2.2 0 ((d.2.1.length:Int)-1))=!L0 d.2.1.length (s8 d i):=by
         unfold L0;rw[Bool.not_and];congr 1;rw[Bool.eq_iff_iff];simp only[ba,bne_iff_ne,Bool.not_eq_true',<- Bool.not_eq_true,r7];omega
        show(if((s8 d i).2.1 != 1&&(s8 d i).2.1 != 2||!j3 (s8 d i).2.2 0 ((d.2.1.length:Int)-1))=true then some false else _)=_;rw[W];cases hpo:L0 d.2.1.length (s8 d i) with
        | false=>rfl
        | true =>
          have f:j3 (s8 d i).2.2 0 ((d.2.1.length:Int)-1)=true:=by
           unfold L0 at hpo;rw[ba] at hpo;exact hpo.2
          refine(if_neg (by simp)).trans ?_;show _=g (_,H7 (s8 d) i v);unfold H7;by_cases u:(s8 d i).2.1=1
          ·rw[if_pos (beq_iff_eq.2 u),if_pos u];exact gP (KW c.2 (by omega) f)
          grind) (fun i v hi c _=>⟨by omega,by
          grind[H7,GV,Rn]⟩) (fun g v _=>aE) v0 ⟨by omega,b⟩
       refine j.trans ?_;cases hpa:(List.range d.2.2.length).any fun i=>!L0 d.2.1.length (s8 d i) with
       | true=>simp
       | false =>
         refine(if_neg (by simp)).trans ?_;have m:∀v:List Int,v.length<=9223372036854775807->Ks v=some (v.all (·==1)):=fun v m=>by
          have P:MY v=_:=Bh m (fun i=>v.getD i 0 != 1) (fun g i hi=>Fh hi m rfl) (fun g=>aE);have E:MZ v=_:=Fi P;rw[M5 v 0 (fun x=>x != 1)] at E;rw[Ks,E,vS,gP ⟨rfl,trivial⟩,o0B]
         have a:(fN (H7 (s8 d)) d.2.2.length v0).length<=9223372036854775807:=by
          have:∀n,(fN (H7 (s8 d)) n v0).length=v0.length:=by
           intro n
           induction n with
           | zero=>rfl
           | succ n ih =>
             grind[fN,H7,Au,List.length_set]
          rw[this,b.1]; omega
         grind
theorem L0t(l:List l6)(d:m7)(hl:wf (.sl y153) l)(t:wf y53 d)(md:j0 y53 d<=1048576):IZ l d=some (Fk l d):=by
 have r:=t.1.1;have k:=t.2.2.1;have mi:d.1.length<=1048576:=w4 (cF md);have mn:d.2.1.length<=1048576:=w4 (cF (cS md));have mp:d.2.2.length<=1048576:=w4 (cS (cS md));show _=some (Bg _ _ _ _ _ _ _ _ _);unfold IZ;rw[L0l l hl,L0k l d hl t,vS,vS,gP ⟨rfl,fun _=>rfl,trivial⟩];by_cases m:BX l=true/\d.1.length<=14/\d.2.1.length<=30/\d.2.2.length<=8/\((List.range d.1.length).any fun i=>!K9 l.length (Q4 l) d.2.1.length (k6 d i))=false/\((List.range d.2.2.length).any fun i=>!L0 d.2.1.length (s8 d i))=false
 ·obtain⟨T,W,X,h8,Q,G⟩:=m;have a1:decide (14 < (d.1.length:Int))=false:=decide_eq_false (by omega);have a2:decide (30 < (d.2.1.length:Int))=false:=decide_eq_false (by omega);have a3:decide (8 < (d.2.2.length:Int))=false:=decide_eq_false (by omega);rw[T,a1,a2,a3,Q,G];refine(if_neg (by simp)).trans ?_;have P:∀y,j3 y 0 ((l.length:Int)-1)=true->2<=Q4 l y:=fun y hy=>(Nz T hy).1;have E:∀i,i<d.1.length->K9 l.length (Q4 l) d.2.1.length (k6 d i)=true:=fun i hi=>by
   grind
  have o:∀i,i<d.2.2.length->L0 d.2.1.length (s8 d i)=true:=fun i hi=>by
   grind
  have PB:∀v:List Int,v.length<=9223372036854775807->IV v=some (v.all (·==1)):=fun v u=>by
   rw[IV];have a:=C2 (n:=v.length) u (fun i=>v.getD i 0 != 1) (some false) (e:=some true) (F:=Wk v) (fun g i hi=>by
    refine(Ay hi u ⟨oo,by omega,trivial⟩).trans ?_;rfl) (fun g=>aE)
   refine a.trans ?_;rw[M5 v 0 (fun x=>x != 1),<- o0B]
   grind
  have k7:∀v:List Int,S5 v d.2.1.length d.1.length->IW d v=some ((fN (H7 (s8 d)) d.2.2.length v).all (·==1)):=fun Y f=>by
   rw[IW];have a:=lF (n:=d.2.2.length) k (fun i (v:List Int)=>((i:Int),v)) (H7 (s8 d)) (fun i v=>i<=d.2.2.length/\S5 v d.2.1.length (d.1.length+i)) (J:=IV) (F:=Wl d) (fun g i v hi b=>by
    have q:((i:Int)).toNat=i:=rfl;have j8:∀v',Mx (i:Int) g v'=g (((i+1:Nat):Int),v'):=fun v'=>gP ⟨oo,trivial⟩;have w:j3 (s8 d i).2.2 0 ((d.2.1.length:Int)-1)=true:=by
     have:=o i hi;unfold L0 at this;rw[ba] at this;exact this.2
    refine(if_pos (by grind)).trans ?_;rw[q,gP ⟨oo,trivial⟩,j8];show(if((s8 d i).2.1==1)=true then _ else _)=g (_,H7 (s8 d) i v);unfold H7;by_cases k1:(s8 d i).2.1=1
    ·rw[if_pos (beq_iff_eq.2 k1),if_pos k1];refine(gP ⟨oo,KW b.2 (by omega) w⟩).trans ?_;rw[lE];exact j8 _
    grind) (fun i v hi b=>⟨by omega,by
    grind[H7,GV,Rn]⟩) (fun g v _=>aE) Y ⟨by omega,f⟩
   refine a.trans (PB _ ?_);have:∀n,(fN (H7 (s8 d)) n Y).length=Y.length:=by
    intro n
    induction n with
    | zero=>rfl
    | succ n ih =>
      grind[fN,H7,Au,List.length_set]
   rw[this,f.1]; omega
  have k5:lp (PZ d) ((0:Int),List.replicate d.2.1.length 0)=some ((CR d.1.length d.2.2.length d.2.1.length (k6 d) (s8 d)).all (·==1)):=by
   have a:=lF (n:=d.1.length) r (fun i (v:List Int)=>((i:Int),v)) (M6 (k6 d)) (fun i v=>i<=d.1.length/\S5 v d.2.1.length i) (J:=IW d) (F:=PZ d) (fun g i v hi b=>by
    have q:((i:Int)).toNat=i:=rfl;have H:=H2 (d:=a7 y155) hi t.1;obtain⟨g1,g2⟩:=RJ (E i hi) P;have h:(k6 d i).2.2.length<=9223372036854775807:=H.2.2.1;refine(if_pos (by grind)).trans ?_;rw[q,gP ⟨oo,trivial⟩,lE,KV g1,gP ⟨(NA g1 h).1,(NA g1 h).2,KW b.2 (by omega) g2⟩,lE,gP ⟨oo,trivial⟩];rfl) (fun i v hi b=>⟨by omega,GV b.2 _⟩) (fun g v _=>aE) (List.replicate d.2.1.length 0) ⟨by omega,Nq _ _⟩
   refine a.trans (k7 _ (Ro _ _ _))
  have V:wf (.sl .str) (d.1.map fun c:B0=>c.1):=Hd r fun x H=>(t.1.2 x H).1;have aA:wf (.sl .str) (d.2.2.map fun c:D2=>c.1):=Hd k fun x H=>(t.2.2.2 x H).1;have k2:∀v z:List ByteArray,wf (.sl .str) v->wf (.sl .str) z->IX d v z=some ((x4 v.length fun i=>v.getD i (a7 .str))&&(x4 z.length fun i=>z.getD i (a7 .str))&&x4 d.2.1.length (fun i=>d.2.1.getD i (a7 .str))&&(CR d.1.length d.2.2.length d.2.1.length (k6 d) (s8 d)).all (·==1)):=fun v z u hz=>by
   rw[IX,RC _ u,RC _ hz,RC _ t.2.1,vS,vS,vS,gP ⟨rfl,fun _=>rfl,fun _=>rfl,trivial⟩,gP (RL mn (by decide)),Int.toNat_natCast,k5];cases(x4 v.length fun i=>v.getD i (a7 .str)) <;> cases(x4 z.length fun i=>z.getD i (a7 .str)) <;> cases x4 d.2.1.length (fun i=>d.2.1.getD i (a7 .str)) <;> rfl
  have k3:∀v:List ByteArray,wf (.sl .str) v->IY d v=some ((x4 v.length fun i=>v.getD i (a7 .str))&&x4 d.2.2.length (fun i=>(s8 d i).1)&&x4 d.2.1.length (fun i=>d.2.1.getD i (a7 .str))&&(CR d.1.length d.2.2.length d.2.1.length (k6 d) (s8 d)).all (·==1)):=fun v u=>by
   rw[IY];have a:=lF (n:=d.2.2.length) k (fun i (s:List ByteArray)=>((i:Int),s)) (Q2 fun i=>(s8 d i).1) (fun i s=>s.length=i) (J:=IX d v) (F:=Wm d v) (fun g i s hi b=>by
    have q:((i:Int)).toNat=i:=rfl;refine(if_pos (by grind)).trans ?_;rw[q,gP ⟨oo,⟨by grind,by grind⟩,trivial⟩,gP ⟨oo,trivial⟩];rfl) (fun i s hi b=>by grind[Q2,List.length_append]) (fun g s _=>aE) [] rfl
   refine a.trans ?_;rw[He d.2.2 (a7 y231) (fun c:D2=>c.1),k2 _ _ u aA,Hc d.2.2 (fun c:D2=>c.1) (a7 y231)]
  have a:=lF (n:=d.1.length) r (fun i (s:List ByteArray)=>((i:Int),s)) (Q2 fun i=>(k6 d i).1) (fun i s=>s.length=i) (J:=IY d) (F:=Wn d) (fun g i s hi b=>by
   have q:((i:Int)).toNat=i:=rfl;refine(if_pos (by grind)).trans ?_;rw[q,gP ⟨oo,⟨by grind,by grind⟩,trivial⟩,gP ⟨oo,trivial⟩];rfl) (fun i s hi b=>by grind[Q2,List.length_append]) (fun g s _=>aE) [] rfl
  refine a.trans ?_;rw[He d.1 (a7 y155) (fun c:B0=>c.1),k3 _ V,Hc d.1 (fun c:B0=>c.1) (a7 y155)];unfold Bg;rw[Q,G,decide_eq_true W,decide_eq_true X,decide_eq_true h8];cases x4 d.1.length (fun i=>(k6 d i).1) <;> cases x4 d.2.1.length (fun i=>d.2.1.getD i (a7 .str)) <;> cases x4 d.2.2.length (fun i=>(s8 d i).1) <;> rfl
 ·have e0:(!BX l||decide (14 < (d.1.length:Int))||decide (30 < (d.2.1.length:Int))||decide (8 < (d.2.2.length:Int))||!(!((List.range d.1.length).any fun i=>!K9 l.length (Q4 l) d.2.1.length (k6 d i))&&!((List.range d.2.2.length).any fun i=>!L0 d.2.1.length (s8 d i))))=true:=by
   rw[<- Bool.not_eq_false];intro j;simp only[Bool.or_eq_false_iff,Bool.not_eq_false',decide_eq_false_iff_not,ba,Bool.not_eq_true'] at j;exact m ⟨j.1.1.1.1,by omega,by omega,by omega,j.2.1,j.2.2⟩
  refine(if_pos e0).trans ?_;refine congrArg some ?_
  symm
  rw[<- Bool.not_eq_true];intro j;unfold Bg at j;simp only[ba,dq,Bool.not_eq_true'] at j;obtain⟨⟨⟨⟨⟨⟨⟨⟨⟨c1,c2⟩,c3⟩,c4⟩,_⟩,_⟩,_⟩,c5⟩,c6⟩,_⟩:=j;exact m ⟨c1,c2,c3,c4,c5,c6⟩
abbrev KX(w:w7)(i:Nat):Bool:=(i==0&&(w.1.getD i 0 != -1||w.2.1.getD 0 0 != 0))||(decide (0<i)&&!j3 (w.1.getD i 0) 0 ((i:Int)-1))
theorem L0e(w:w7)(d:wf y172 w)(j:w.2.1.length=w.1.length):AZ w=some (!(List.range w.1.length).any (KX w)):=by
 have h:=d.1.1;have a:=C2 (n:=w.1.length) h (KX w) (some false) (e:=some true) (F:=XQ w) (fun g i hi=>by
  have c:((i:Int)).toNat=i:=rfl;have f:((i:Int)==0)=(i==0):=by rw[Bool.eq_iff_iff,beq_iff_eq,beq_iff_eq]; omega
  have b:decide ((0:Int) < (i:Int))=decide (0<i):=by rw[decide_eq_decide]; omega
  refine(if_pos (by simpa using hi)).trans ?_;rw[c,f,b,P9,vS,gP ⟨oo,trivial⟩,gP ⟨fun _=>oo,fun _=>oo,fun _=>rfl,trivial⟩,gP ⟨oo,trivial⟩];rfl) (fun g=>aE)
 refine a.trans ?_
 grind
theorem L0r(w:w7)(n:Int)(d:wf y172 w):Kc w n=some (Y8 w n):=by
 obtain⟨⟨i,_⟩,⟨f,_⟩,⟨g,_⟩,h,_⟩:=id d;have e:∀xs:List Int,A4 xs=some (xs.length:Int):=fun _=>rfl;unfold Kc;rw[e,e,e,e]
 repeat rw[vS]
 rw[gP ⟨rfl,trivial⟩,lE,P9,Fj _ _ _ f,Fj _ _ _ g,Fj _ _ _ h]
 repeat rw[vS]
 by_cases b:(j3 (w.1.length:Int) 1 8&&(w.2.1.length:Int)==(w.1.length:Int)&&(w.2.2.1.length:Int)==(w.1.length:Int))=true
 ·have c:=b;simp only[ba,beq_iff_eq,r7] at c;rw[L0e w d (by omega),vS,gP ⟨rfl,fun _=>rfl,fun _=>rfl,fun _=>rfl,fun _=>rfl,fun _=>rfl,fun _=>rfl,fun _=>oo,fun _=>rfl,trivial⟩,lE];refine congrArg some ?_;rw[b];unfold Y8;rw[decide_eq_true (show 1<=w.1.length by omega),decide_eq_true (show w.1.length<=8 by omega),decide_eq_true (show w.2.1.length=w.1.length by omega),decide_eq_true (show w.2.2.1.length=w.1.length by omega)];cases(List.range w.1.length).any (KX w) <;> cases w.2.1.all (j3 · 0 1000) <;> cases w.2.2.1.all (j3 · 0 500) <;> cases(w.2.2.2.length:Int)==n <;> cases w.2.2.2.all (j3 · 0 ((w.1.length:Int)-1)) <;> rfl
 ·have c:(j3 (w.1.length:Int) 1 8&&(w.2.1.length:Int)==(w.1.length:Int)&&(w.2.2.1.length:Int)==(w.1.length:Int))=false:=by simpa using b
  rw[c,gP ⟨rfl,fun _=>rfl,fun _=>rfl,fun a=>by simp at a,fun a=>by simp at a,fun a=>by simp at a,fun a=>by simp at a,fun a=>by simp at a,fun a=>by simp at a,trivial⟩,lE];refine congrArg some ?_;rw[c];simp only[Bool.false_and]
  symm
  rw[<- Bool.not_eq_true];intro a;unfold Y8 at a;simp only[ba,dq] at a;refine b ?_;simp only[ba,beq_iff_eq,r7];omega
theorem I0S(w:w7)(n:Int)(q:wf y172 w):II w n=some (Y8 w n):=by
 obtain⟨⟨s,_⟩,⟨v,_⟩,⟨u,_⟩,f,_⟩:=id q;unfold II;by_cases a:1<=w.1.length/\w.1.length<=8/\w.2.1.length=w.1.length/\w.2.2.1.length=w.1.length/\(w.2.2.2.length:Int)=n
 ·obtain⟨o,m,h,d,k⟩:=a;have b:(decide ((w.1.length:Int)<1)||decide (8 < (w.1.length:Int))||(w.2.1.length:Int) != (w.1.length:Int)||(w.2.2.1.length:Int) != (w.1.length:Int)||(w.2.2.2.length:Int) != n)=false:=by
   rw[<- Bool.not_eq_true]; simp; omega
  refine(if_neg (by rw[b]; simp)).trans ?_;have k3:=C2 (n:=w.2.2.2.length) f (fun i=>!j3 (w.2.2.2.getD i 0) 0 ((w.1.length:Int)-1)) (some false) (e:=some true) (F:=VC w) (fun g i hi=>Ay hi f ⟨oo,oo,rfl,trivial⟩) (fun g=>aE);rw[M5 w.2.2.2 0 (fun x=>!j3 x 0 ((w.1.length:Int)-1))] at k3;have l:=C2 (n:=w.1.length) s (fun i=>(!j3 (w.2.2.1.getD i 0) 0 500||!j3 (w.2.1.getD i 0) 0 1000)||KX w i) (some false) (e:=Mn w ()) (F:=VD w) (fun g i hi=>by
   have r:((i:Int)).toNat=i:=rfl;have b:((i:Int)==0)=(i==0):=by rw[Bool.eq_iff_iff,beq_iff_eq,beq_iff_eq]; omega
   have t:decide ((0:Int) < (i:Int))=decide (0<i):=by rw[decide_eq_decide]; omega
   refine(if_pos (by simpa using hi)).trans ?_;rw[r,b,t,L5,L5,L5]
   repeat rw[vS]
   rw[gP ⟨oo,rfl,fun _=>oo,fun _=>rfl,trivial⟩,gP ⟨fun _=>oo,fun _=>oo,fun _=>oo,fun _=>oo,fun _=>rfl,trivial⟩,gP ⟨oo,trivial⟩]
   grind) (fun g=>aE)
  refine l.trans ?_;rw[Nr,Nr];have j:=M5 w.2.2.1 0 (fun x=>!j3 x 0 500);have c:=M5 w.2.1 0 (fun x=>!j3 x 0 1000);rw[d] at j;rw[h] at c;rw[j,c];unfold Mn;rw[k3];unfold Y8;rw[decide_eq_true o,decide_eq_true m,decide_eq_true h,decide_eq_true d,beq_iff_eq.2 k,<- Y7,<- Y7,<- Y7];cases(List.range w.1.length).any (KX w) <;> cases w.2.1.any (fun x=>!j3 x 0 1000) <;> cases w.2.2.1.any (fun x=>!j3 x 0 500) <;> cases w.2.2.2.any (fun x=>!j3 x 0 ((w.1.length:Int)-1)) <;> rfl
 grind[decide,trans,Y8]
theorem NB(d:m7)(l:wf y53 d)(r:d.1.length<=14)(E:d.2.2.length<=8)(m:∀i,i<d.1.length->1<=(k6 d i).2.2.length/\(k6 d i).2.2.length<=5):An d=some (I8 d.1.length d.2.2.length (k6 d) (s8 d)):=by
 have c:=l.1.1;have h:=l.2.2.1;unfold An;have q:∀s:List v8,s.length<=70->Ke d s=some (fN (K3 (s8 d)) d.2.2.length s):=fun j y=>by
  rw[Ke];exact lF (n:=d.2.2.length) h (fun i (s:List v8)=>((i:Int),s)) (K3 (s8 d)) (fun i s=>s.length=j.length+i) (J:=fun s=>some s) (F:=XS d) (fun g i s hi e=>by
   have f:((i:Int)).toNat=i:=rfl;refine(if_pos (by grind)).trans ?_;rw[f,gP ⟨oo,trivial⟩,lE,gP ⟨⟨by grind,by grind⟩,trivial⟩,gP ⟨oo,trivial⟩];rfl) (fun i s hi e=>by grind[K3,List.length_append]) (fun g s _=>aE) j rfl
 have b:=lF (n:=d.1.length) c (fun i (s:List v8)=>(s,(i:Int))) (J7 (k6 d)) (fun i s=>s.length<=5*i) (J:=Ke d) (F:=XU d) (fun g i s hi e=>by
  have f:((i:Int)).toNat=i:=rfl;have w:=(m i hi).2;have u:(k6 d i).2.2.length<=9223372036854775807:=by omega
  refine(if_pos (by grind)).trans ?_;rw[f,gP ⟨oo,trivial⟩,lE];have a:=lF (n:=(k6 d i).2.2.length) u (fun k (s:List v8)=>((k:Int),s)) (M7 (k6 d i) i) (fun k z=>z.length=s.length+k) (J:=Qr (i:Int) g) (F:=XT (i:Int) (k6 d i) g) (fun v k z t hz=>by
   have o:((k:Int)).toNat=k:=rfl;refine(if_pos (by grind)).trans ?_;rw[o,gP ⟨oo,trivial⟩,gP ⟨oo,⟨by grind,by grind⟩,trivial⟩,lE];exact gP ⟨oo,trivial⟩) (fun k z t hz=>by grind[M7,List.length_append]) (fun v z _=>aE) s rfl
  refine a.trans ?_;exact gP ⟨oo,trivial⟩) (fun i s hi e=>by
  grind[J7,Fe]) (fun g s _=>aE) [] (Nat.zero_le _)
 refine b.trans (q _ ?_);have:=Ns (x:=k6 d) (ni:=d.1.length) (fun i hi=>(m i hi).2) d.1.length (Nat.le_refl _);omega
theorem CT(d:m7)(l:wf y53 d)(r:d.1.length<=14)(E:d.2.2.length<=8)(m:∀i,i<d.1.length->1<=(k6 d i).2.2.length/\(k6 d i).2.2.length<=5):F9 d=some (I8 d.1.length d.2.2.length (k6 d) (s8 d)):=by
 have c:=l.1.1;have h:=l.2.2.1;unfold F9;have q:∀s:List x9,s.length<=70->Iz d s=some (fN (K3 (s8 d)) d.2.2.length s):=fun j y=>by
  rw[Iz];exact lF (n:=d.2.2.length) h (fun i (s:List x9)=>((i:Int),s)) (K3 (s8 d)) (fun i s=>s.length=j.length+i) (J:=fun s=>some s) (F:=UN d) (fun g i s hi e=>by
   have f:((i:Int)).toNat=i:=rfl;refine(if_pos (by grind)).trans ?_;rw[f,gP ⟨oo,oo,⟨by grind,by grind⟩,trivial⟩,lE];exact gP ⟨oo,trivial⟩) (fun i s hi e=>by grind[K3,List.length_append]) (fun g s _=>aE) j rfl
 have b:=lF (n:=d.1.length) c (fun i (s:List x9)=>((i:Int),s)) (J7 (k6 d)) (fun i s=>s.length<=5*i) (J:=Iz d) (F:=UP d) (fun g i s hi e=>by
  have f:((i:Int)).toNat=i:=rfl;have w:=(m i hi).2;have u:(k6 d i).2.2.length<=9223372036854775807:=by omega
  refine(if_pos (by grind)).trans ?_;rw[f,gP ⟨oo,trivial⟩,lE];have a:=lF (n:=(k6 d i).2.2.length) u (fun k (s:List x9)=>((k:Int),s)) (M7 (k6 d i) i) (fun k z=>z.length=s.length+k) (J:=PE (i:Int) g) (F:=UO (i:Int) (k6 d i) g) (fun v k z t hz=>by
   have o:((k:Int)).toNat=k:=rfl;refine(if_pos (by grind)).trans ?_;rw[o,gP ⟨oo,oo,⟨by grind,by grind⟩,trivial⟩,lE];exact gP ⟨oo,trivial⟩) (fun k z t hz=>by grind[M7,List.length_append]) (fun v z _=>aE) s rfl
  refine a.trans ?_;exact gP ⟨oo,trivial⟩) (fun i s hi e=>by
  grind[J7,Fe]) (fun g s _=>aE) [] (Nat.zero_le _)
 refine b.trans (q _ ?_);have:=Ns (x:=k6 d) (ni:=d.1.length) (fun i hi=>(m i hi).2) d.1.length (Nat.le_refl _);omega
abbrev l9(d:m7):List u0:=I8 d.1.length d.2.2.length (k6 d) (s8 d)
abbrev p9(d:m7)(i:Nat):u0:=(l9 d).getD i (a7 y235)
abbrev j5(b:j1)(i:Nat):w7:=b.2.2.getD i (a7 y172)
def q7(b:j1):Bool:=Fk b.1 b.2.1&&decide (b.2.2.length=b.2.1.2.1.length)&&!(List.range b.2.2.length).any fun i=>!Y8 (j5 b i) (P7 (p9 b.2.1) i (l9 b.2.1).length)
structure DF(l:List l6)(d:m7):Prop where
 lib:BX l=true
 fac:DesignFacts l.length (Q4 l) d.1.length d.2.2.length d.2.1.length (k6 d) (s8 d)
 pin:∀i,i<d.1.length->1<=(k6 d i).2.2.length/\(k6 d i).2.2.length<=5
 plc:GW d.2.1.length (l9 d)
 len:(l9 d).length<=78
theorem M9{l:List l6}{d:m7}(h:Fk l d=true):DF l d:=by
 obtain⟨f,b⟩:=m0b h;have c:∀i,i<d.1.length->1<=(k6 d i).2.2.length/\(k6 d i).2.2.length<=5:=fun i hi=>by
  have a:=b.inst i hi;have m:=(RJ a (fun y g=>(Nz f g).1)).1;unfold K9 at a;simp only[ba,beq_iff_eq] at a
  grind[Nz]
 have e:=b.net;refine⟨f,b,c,ZZ e.2 (ZY e.1 d.1.length (Nat.le_refl _)) d.2.2.length (Nat.le_refl _),?_⟩;have:=Ns (x:=k6 d) (ni:=d.1.length) (fun i hi=>(c i hi).2) d.1.length (Nat.le_refl _);have j:=b.ni14;have k:=b.np8;unfold l9 I8
 grind[KM]
theorem L0F(b:j1)(f:wf l5 b)(h:j0 l5 b<=1048576):GL b=some (q7 b):=by
 have y:=f.1;have s:=f.2.1;have t:=f.2.2.1;have w:b.2.2.length<=1048576:=w4 (cS (cS h));unfold GL q7;rw[L0s b.1 b.2.1 y s (cF h) (cF (cS h)),vS,gP ⟨rfl,trivial⟩];cases hdo:Fk b.1 b.2.1 with
 | false=>grind
 | true =>
   have c:=M9 hdo;by_cases a:b.2.2.length=b.2.1.2.1.length
   ·have u:((b.2.2.length:Int) != (b.2.1.2.1.length:Int))=false:=by rw[a]; simp
    rw[u,decide_eq_true a];refine(if_neg (by simp)).trans ?_;rw[gP (RL w (by decide)),Int.toNat_natCast,NB b.2.1 s c.fac.ni14 c.fac.np8 c.pin,vS,gP ⟨rfl,trivial⟩,lE];have m:(l9 b.2.1).length<=9223372036854775807:=by have:=c.len; omega
    have d:∀i,i < (l9 b.2.1).length->j3 (p9 b.2.1 i).2.2.1 0 ((b.2.2.length:Int)-1)=true:=fun i hi=>by
     rw[a]; exact c.plc _ (F4 hi)
    have j:=lF (n:=(l9 b.2.1).length) m (fun i (v:List Int)=>((i:Int),v)) (BW (p9 b.2.1)) (fun i v=>i<=(l9 b.2.1).length/\S5 v b.2.2.length i) (J:=Nc b) (F:=YE (l9 b.2.1) b) (fun g i v hi r=>by
     have k:((i:Int)).toNat=i:=rfl;have q:∀l,Nd (i:Int) g l=g (((i+1:Nat):Int),l):=fun l=>gP ⟨oo,trivial⟩;refine(if_pos (by grind)).trans ?_;rw[k,gP ⟨oo,hi,trivial⟩,lE,q];show(if(!(p9 b.2.1 i).2.2.2)=true then _ else _)=g (_,BW (p9 b.2.1) i v);unfold BW;cases hdr:(p9 b.2.1 i).2.2.2 with
     | true=>rfl
     | false =>
       refine(if_pos rfl).trans ?_;refine(gP (KW r.2 (by have:=c.len; omega) (d i hi))).trans ?_;rw[lE];exact q _) (fun i v hi r=>⟨by omega,by
     grind[BW,GV,Rn]⟩) (fun g v _=>aE) (List.replicate b.2.2.length 0) ⟨by omega,Nq _ _⟩
    refine j.trans ?_;obtain⟨z,x⟩:=ZW (p9 b.2.1) b.2.2.length (l9 b.2.1).length d;generalize fN (BW (p9 b.2.1)) (l9 b.2.1).length (List.replicate b.2.2.length 0)=v at *
    rw[Nc];have o:=C2 (n:=b.2.2.length) t (fun i=>!Y8 (j5 b i) (P7 (p9 b.2.1) i (l9 b.2.1).length)) (some false) (e:=some true) (F:=YD v b) (fun g i hi=>by
     have k:((i:Int)).toNat=i:=rfl;refine(if_pos (by grind)).trans ?_;rw[k,gP ⟨oo,trivial⟩,lE,x i hi,L0r _ _ (H2 hi f.2.2),vS,gP ⟨oo,by omega,rfl,trivial⟩,gP ⟨oo,trivial⟩]) (fun g=>aE)
    grind
   grind
theorem RM(d:m7)(h:wf y53 d){l:List l6}(a:DF l d)(t:Int):X2 d t=some (fN (I9 (p9 d) t) (l9 d).length []):=by
 have k:=a.len;unfold X2;rw[CT d h a.fac.ni14 a.fac.np8 a.pin,vS,gP ⟨rfl,trivial⟩,lE];exact lF (n:=(l9 d).length) (by omega) (fun i (s:List Int)=>((i:Int),s)) (I9 (p9 d) t) (fun i s=>s.length<=i) (J:=fun s=>some s) (F:=UR (l9 d) t) (fun g i s hi c=>by
  have e:((i:Int)).toNat=i:=rfl;have b:∀s',LX (i:Int) g s'=g (((i+1:Nat):Int),s'):=fun j=>gP ⟨oo,trivial⟩;refine(if_pos (by grind)).trans ?_;have f:s.length<=i:=c;rw[e,gP ⟨oo,hi,fun _=>oo,fun _=>hi,trivial⟩,gP ⟨⟨by grind,by grind⟩,trivial⟩,b,b];show _=g (_,I9 (p9 d) t i s);unfold I9
  grind) (fun i s hi c=>by
  grind[I9,List.length_append]) (fun g s _=>aE) [] (Nat.le_refl _)
theorem RN(b:j1)(c:wf l5 b)(h:j0 l5 b<=1048576):U4 b=some (q7 b):=by
 have o:=c.1;have d:=c.2.1;have m:=c.2.2.1;unfold U4 q7;rw[L0t b.1 b.2.1 o d (cF (cS h)),vS,gP ⟨rfl,trivial⟩];cases hdo:Fk b.1 b.2.1 with
 | false=>grind
 | true =>
   have j:=M9 hdo;by_cases a:b.2.2.length=b.2.1.2.1.length
   ·have l:((b.2.2.length:Int) != (b.2.1.2.1.length:Int))=false:=by rw[a]; simp
    rw[l,decide_eq_true a];refine(if_neg (by simp)).trans ?_;have f:=C2 (n:=b.2.2.length) m (fun i=>!Y8 (j5 b i) (P7 (p9 b.2.1) i (l9 b.2.1).length)) (some false) (e:=some true) (F:=Wp b) (fun g i hi=>by
     have k:((i:Int)).toNat=i:=rfl;refine(if_pos (by grind)).trans ?_;rw[k,RM b.2.1 d j,vS,KN,I0S _ _ (H2 hi c.2.2),gP ⟨oo,rfl,rfl,trivial⟩,lE,KN,I0S _ _ (H2 hi c.2.2),vS,gP ⟨oo,trivial⟩]) (fun g=>aE)
    grind
   grind
theorem O4{b:j1}(h:q7 b=true):Fk b.1 b.2.1=true/\b.2.2.length=b.2.1.2.1.length/\∀i,i<b.2.2.length->Y8 (j5 b i) (P7 (p9 b.2.1) i (l9 b.2.1).length)=true:=by
 grind[q7,hi]
abbrev q8(d:m7)(t:Int):List Int:=fN (I9 (p9 d) t) (l9 d).length []
def CU(l:List l6)(d:m7)(p:u0):Int:=if p.1<0 then 0 else((l.getD (k6 d p.1.toNat).2.1.toNat (a7 y153)).2.2.1.getD p.2.1.toNat (a7 y293)).2.2.1
theorem NC{d:m7}{i:Nat}(h:i < (l9 d).length):p9 d i∈l9 d:=F4 h
theorem l0K{l:List l6}(h:BX l=true){i:Nat}(hi:i<l.length):Az B4 (Q3 l i)=true:=by
 have h:Bf _ _ _=true:=h;unfold Bf at h;rw[ba] at h;have:=Av.1 h.1 i hi;rw[Bool.or_eq_false_iff,Bool.not_eq_false'] at this;exact this.1
theorem RO{l:List l6}{d:m7}(c:DF l d){p:u0}(e:p∈l9 d):(p.1 = -1/\0<=p.2.1/\p.2.1.toNat<d.2.2.length) ∨
  (0<=p.1/\p.1.toNat<d.1.length/\0<=(k6 d p.1.toNat).2.1/\(k6 d p.1.toNat).2.1.toNat<l.length/\0<=p.2.1/\p.2.1.toNat < (l.getD (k6 d p.1.toNat).2.1.toNat (a7 y153)).2.2.1.length):=by
 rcases m0U d.1.length d.2.2.length (k6 d) (s8 d) p e with h | ⟨h1,h2,h3,h4⟩
 ·exact .inl h
 ·have a:=c.fac.inst p.1.toNat h2;unfold K9 at a;simp only[ba,beq_iff_eq] at a;have f:=r7.1 a.1.1;have b:=a.1.2;refine .inr ⟨h1,h2,f.1,by omega,h3,?_⟩;have b:((k6 d p.1.toNat).2.2.length:Int)=((l.getD (k6 d p.1.toNat).2.1.toNat (a7 y153)).2.2.1.length:Int):=b;omega
theorem A0r{l:List l6}{d:m7}(b:DF l d){p:u0}(c:p∈l9 d):0<=CU l d p/\CU l d p<=500:=by
 unfold CU;split
 ·exact⟨by decide,by decide⟩
 ·rename_i e;rcases RO b c with h | ⟨h1,h2,h3,h4,h5,h6⟩
  ·omega
  ·have a:O1 B4 _ _ _ _ _ _ _ _ _=true:=l0K b.lib h4;unfold O1 U9 at a;simp only[ba] at a;have:=Av.1 a.1.1.1.1.2.2 p.2.1.toNat h6;rw[Bool.not_eq_false'] at this;unfold As at this;rw[ba] at this;exact r7.1 this.1
theorem KY{d:m7}{t:Int}{k:Nat}(h:k < (q8 d t).length):0<=(q8 d t).getD k 0/\((q8 d t).getD k 0).toNat < (l9 d).length:=by
 obtain⟨j,b,a,_⟩:=Nu (p9 d) t (l9 d).length _ (F4 (d:=0) h);rw[b];exact⟨Int.natCast_nonneg _,by simpa using a⟩
structure NetOk(b:j1)(i:Nat):Prop where
 df:DF b.1 b.2.1
 lt:i<b.2.2.length
 wf:m0u (j5 b i) ((q8 b.2.1 i).length:Int)
theorem Z0{b:j1}(h:q7 b=true){i:Nat}(hi:i<b.2.2.length):NetOk b i:=by
 obtain⟨c,d,a⟩:=O4 h;refine⟨M9 c,hi,?_⟩;rw[KN];exact p0x (a i hi)
def o4(b:j1)(i k:Nat):Int:=(j5 b i).2.2.2.getD k 0
def O5(b:j1)(i k:Nat):Int:=CU b.1 b.2.1 (p9 b.2.1 ((q8 b.2.1 i).getD k 0).toNat)
def L6(b:j1)(i k:Nat):Int:=(j5 b i).1.getD k 0
def Bi(b:j1)(i k:Nat):Int:=(j5 b i).2.1.getD k 0
def r6(b:j1)(i:Nat):List Int:=F0e (j5 b i).2.2.1 (j5 b i).1.length (q8 b.2.1 i).length (o4 b i) (O5 b i) (L6 b i)
theorem NetOk.sn{b:j1}{i:Nat}(h:NetOk b i):(j5 b i).2.2.2.length=(q8 b.2.1 i).length:=by have:=h.wf.snk; omega
theorem NetOk.s78{b:j1}{i:Nat}(h:NetOk b i):(q8 b.2.1 i).length<=78:=by
 have e:=h.df.len;have d:=ZV (p9 b.2.1) i (l9 b.2.1).length;have a:=KN (p9 b.2.1) i (l9 b.2.1).length;have c:((q8 b.2.1 i).length:Int)=P7 (p9 b.2.1) i (l9 b.2.1).length:=a;omega
theorem NetOk.capIn{b:j1}{i:Nat}(h:NetOk b i){k:Nat}(a:k < (q8 b.2.1 i).length):0<=o4 b i k/\(o4 b i k).toNat < (j5 b i).1.length/\0<=O5 b i k/\O5 b i k<=500:=by
 have d:=h.wf.snkIn k (by rw[h.sn]; exact a);have c:=A0r h.df (NC (KY a).2);exact⟨d.1,d.2,c.1,c.2⟩
theorem NetOk.low{b:j1}{i:Nat}(h:NetOk b i):∀m,m<=(q8 b.2.1 i).length->Low (fN (Aw (o4 b i) (O5 b i)) m (j5 b i).2.2.1) (j5 b i).1.length (500*((j5 b i).1.length:Int)+500*(m:Int)):=fun m c=>p0l (A0F h.wf.cap h.wf.capOk) m (fun k a=>h.capIn (by omega))
theorem NetOk.pull{b:j1}{i:Nat}(h:NetOk b i):∀k,k<=(j5 b i).1.length-1->GZ (fN (O2 (L6 b i) (j5 b i).1.length) k (fN (Aw (o4 b i) (O5 b i)) (q8 b.2.1 i).length (j5 b i).2.2.1)) (j5 b i).1.length k 43000:=by
 have a:=h.low _ (Nat.le_refl _);have g:=h.s78;have f:=h.wf.n8;have d:Low (fN (Aw (o4 b i) (O5 b i)) (q8 b.2.1 i).length (j5 b i).2.2.1) (j5 b i).1.length 43000:=⟨a.len,a.pos,by have:=a.sum; omega⟩;exact l0r d (by decide) (fun k e c=>h.wf.par k e c)
theorem NetOk.loads{b:j1}{i:Nat}(h:NetOk b i):(r6 b i).length=(j5 b i).1.length/\∀j,0<=(r6 b i).getD j 0/\(r6 b i).getD j 0<=43000:=by
 have:=h.pull _ (Nat.le_refl _);exact⟨this.len,fun j=>⟨this.pos j,this.bd j⟩⟩
abbrev p7(b:j1)(i:Nat):l6:=b.1.getD (k6 b.2.1 i).2.1.toNat (a7 y153)
theorem CV{b:j1}(a:DF b.1 b.2.1){i:Nat}(hi:i<b.2.1.1.length):ix (k6 b.2.1 i).2.1 b.1.length/\Az B4 (p7 b i)=true/\(k6 b.2.1 i).2.2.length=(p7 b i).2.2.1.length:=by
 have:=a.fac.inst i hi;unfold K9 at this;rw[ba,ba,beq_iff_eq] at this;have d:=r7.1 this.1.1;have c:=this.1.2;have e:((k6 b.2.1 i).2.2.length:Int)=((p7 b i).2.2.1.length:Int):=c;exact⟨⟨d.1,by omega⟩,l0K a.lib (by omega),by omega⟩
theorem CW{c:l6}(h:Az B4 c=true):2<=c.2.2.1.length/\c.2.2.1.length<=5/\c.2.2.2.1.length<=8/\∀j,j<c.2.2.2.1.length->0<=(j9 c j).2.1/\(j9 c j).2.1 < (c.2.2.1.length:Int)-1/\0<=(j9 c j).2.2.1/\(j9 c j).2.2.1 < (c.2.2.1.length:Int):=by
 have h:O1 B4 _ _ _ _ _ _ _ _ _=true:=h;unfold O1 Fa at h;simp only[ba,dq] at h;have b:=GR h.1.1.1.1.2;refine⟨b.1,b.2.1,h.1.1.1.2.1,fun j d=>?_⟩;have:=Av.1 h.1.1.1.2.2 j d;rw[Bool.or_eq_false_iff,Bool.not_eq_false'] at this;have a:=this.1;unfold B4 at a;rw[ba,ba] at a;have f:=r7.1 a.1.1;have e:=r7.1 a.1.2;omega
theorem L0a(l:List l6)(d:m7)(b:DF l d){p:u0}(a:p∈l9 d):DU d l p=some (CU l d p):=by
 unfold DU CU;rcases RO b a with h | ⟨h1,h2,h3,h4,h5,h6⟩
 ·grind
 ·refine(if_neg (by grind)).trans ?_;rw[if_neg (by omega),gP ⟨oo,⟨h3,by grind⟩,⟨h5,by grind⟩,trivial⟩];rfl
theorem L0b(d:m7)(h:wf y53 d){l:List l6}(a:DF l d)(t:Int):Kv d t=some (q8 d t):=by
 have k:=a.len;unfold Kv;rw[NB d h a.fac.ni14 a.fac.np8 a.pin,vS,gP ⟨rfl,trivial⟩,lE];exact lF (n:=(l9 d).length) (by omega) (fun i (s:List Int)=>(s,(i:Int))) (I9 (p9 d) t) (fun i s=>s.length<=i) (J:=fun s=>some s) (F:=YG t (l9 d)) (fun g i s hi c=>by
  have e:((i:Int)).toNat=i:=rfl;have b:∀s',Nf (i:Int) g s'=g (s',((i+1:Nat):Int)):=fun j=>gP ⟨oo,trivial⟩;refine(if_pos (by grind)).trans ?_;have f:s.length<=i:=c;rw[e,gP ⟨oo,hi,trivial⟩,lE,gP ⟨⟨by grind,by grind⟩,trivial⟩,b,b];show _=g (I9 (p9 d) t i s,_);unfold I9
  grind) (fun i s hi c=>by
  grind[I9,List.length_append]) (fun g s _=>aE) [] (Nat.le_refl _)
theorem L0c(xs:List Int)(h:xs.length<=1048576):Nh xs=some xs:=gP ⟨oo,trivial⟩
theorem I0R(b:j1)(t:wf l5 b){i:Nat}(h:NetOk b i):Ao b (i:Int)=some (r6 b i):=by
 have y:=t.2.1;have df:=h.df;have hb:=t.2.2.1;have hi:=h.lt;have n1:=h.wf.n1;have n8:=h.wf.n8;have E:=h.sn;have hs:=h.s78;have P:=h.wf.cap;unfold Ao;have W:((i:Int)).toNat=i:=rfl;rw[gP ⟨oo,trivial⟩,lE,W,L0c _ (by grind),vS,gP ⟨rfl,trivial⟩,lE,NB b.2.1 y df.fac.ni14 df.fac.np8 df.pin,vS,gP ⟨rfl,trivial⟩,lE,L0b b.2.1 y df,vS,gP ⟨rfl,trivial⟩,lE];have o:=lF (n:=(q8 b.2.1 i).length) (by omega) (fun k (s:List Int)=>((k:Int),s)) (Aw (o4 b i) (O5 b i)) (fun k v=>Low v (j5 b i).1.length (500*((j5 b i).1.length:Int)+500*(k:Int))) (J:=Ng (j5 b i)) (F:=YI b (l9 b.2.1) (q8 b.2.1 i) (j5 b i)) (fun g k v c a=>by
  have G:((k:Int)).toNat=k:=rfl;obtain⟨r,m,u,c4⟩:=h.capIn c;obtain⟨X,x⟩:=KY c;have hv:=a.bd (by omega) (o4 b i k).toNat;have f:0<=(j5 b i).2.2.2.getD k 0:=r;have e:((j5 b i).2.2.2.getD k 0).toNat<v.length:=by rw[a.len]; exact m
  refine(if_pos (by grind)).trans ?_;rw[G,gP ⟨oo,c,trivial⟩,L0a b.1 b.2.1 df (NC x),vS];rw[gP ⟨oo,⟨f,by omega⟩,e,⟨X,by omega⟩,x,rfl,⟨by grind[o4,O5],by grind[o4,O5]⟩,⟨f,by omega⟩,e,trivial⟩,lE];exact gP ⟨oo,trivial⟩) (fun k v c a=>by
  obtain⟨r,m,u,c4⟩:=h.capIn c;have:=a.add m u;refine⟨this.len,this.pos,Int.le_trans this.sum ?_⟩;omega) (fun g s _=>aE) (j5 b i).2.2.1 (by
  have:=h.low 0 (Nat.zero_le _);exact this)
 refine o.trans ?_;have l:=(h.low _ (Nat.le_refl _)).len;have d:=h.pull 0 (Nat.zero_le _);have H:r6 b i=fN (O2 (L6 b i) (j5 b i).1.length) ((j5 b i).1.length-1) (fN (Aw (o4 b i) (O5 b i)) (q8 b.2.1 i).length (j5 b i).2.2.1):=rfl;rw[H];have q:=h.pull;generalize fN (Aw (o4 b i) (O5 b i)) (q8 b.2.1 i).length (j5 b i).2.2.1=v0 at l d q ⊢;rw[Ng,l,gP ⟨oo,trivial⟩];have e5:(((j5 b i).1.length:Int)-1,v0)=(fun(k:Nat) (s:List Int)=>(((j5 b i).1.length:Int)-1-(k:Int),s)) 0 v0:=by simp
 rw[e5];exact lF (n:=(j5 b i).1.length-1) (by omega) (fun(k:Nat) (s:List Int)=>(((j5 b i).1.length:Int)-1-(k:Int),s)) (O2 (L6 b i) (j5 b i).1.length) (fun k v=>GZ v (j5 b i).1.length k 43000) (J:=fun s=>some s) (F:=GM (j5 b i)) (fun g k v c a=>by
  have Q:=h.wf.par ((j5 b i).1.length-1-k) (by omega) (by omega);have j:0<=(j5 b i).1.getD ((j5 b i).1.length-1-k) 0/\((j5 b i).1.getD ((j5 b i).1.length-1-k) 0).toNat < (j5 b i).1.length-1-k:=Q;have w:=a.len;have z:((j5 b i).1.length:Int)-1-(k:Int)=(((j5 b i).1.length-1-k:Nat):Int):=by omega
  have T:((((j5 b i).1.length-1-k:Nat):Int)).toNat=(j5 b i).1.length-1-k:=rfl;have b1:=a.pos ((j5 b i).1.getD ((j5 b i).1.length-1-k) 0).toNat;have b2:=a.bd ((j5 b i).1.getD ((j5 b i).1.length-1-k) 0).toNat;have b3:=a.pos ((j5 b i).1.length-1-k);have b4:=a.bd ((j5 b i).1.length-1-k);have Y:((j5 b i).1.length:Int)-1-((k+1:Nat):Int)=(((j5 b i).1.length-1-k:Nat):Int)-1:=by omega
  show GM (j5 b i) g (((j5 b i).1.length:Int)-1-(k:Int),v)=g (((j5 b i).1.length:Int)-1-((k+1:Nat):Int),O2 (L6 b i) (j5 b i).1.length k v);rw[Y,z];refine(if_pos (decide_eq_true (by omega))).trans ?_;rw[T,gP ⟨oo,⟨j.1,by omega⟩,by omega,oo,by omega,oo,⟨j.1,by omega⟩,by omega,trivial⟩,lE];exact gP ⟨oo,trivial⟩) (fun k v c a=>Rr a c (h.wf.par _ (by omega) (by omega))) (fun g s _=>by
  have V:((j5 b i).1.length:Int)-1-(((j5 b i).1.length-1:Nat):Int)=0:=by omega
  show GM (j5 b i) g (((j5 b i).1.length:Int)-1-(((j5 b i).1.length-1:Nat):Int),s)=some s;rw[V];have:GM (j5 b i) g (0,s)=QH s:=by
   rw[GM];exact if_neg (by decide)
  exact this.trans rfl) v0 d
def s5(b:j1)(i:Nat):List Int:=B0e (j5 b i).1.length (L6 b i) (Bi b i) (fun k=>(r6 b i).getD k 0)
def Q5(b:j1)(i:Nat):List Int:=fN (Ff (s5 b i) (o4 b i)) (q8 b.2.1 i).length []
theorem NetOk.del{b:j1}{i:Nat}(h:NetOk b i):∀k,k<=(j5 b i).1.length-1->(fN (L3 (L6 b i) (Bi b i) (fun k=>(r6 b i).getD k 0)) k [0]).length=k+1/\∀j,0<=(fN (L3 (L6 b i) (Bi b i) (fun k=>(r6 b i).getD k 0)) k [0]).getD j 0/\(fN (L3 (L6 b i) (Bi b i) (fun k=>(r6 b i).getD k 0)) k [0]).getD j 0<=1000*43000*(k:Int) :=
 t0q (n:=(j5 b i).1.length) (fun k a=>h.wf.resIn k a) (fun k _=>h.loads.2 k) (by decide)
theorem NetOk.delays{b:j1}{i:Nat}(h:NetOk b i):(s5 b i).length=(j5 b i).1.length/\∀j,0<=(s5 b i).getD j 0/\(s5 b i).getD j 0<=301000000:=by
 have a:=h.del _ (Nat.le_refl _);have n1:=h.wf.n1;have n8:=h.wf.n8;refine⟨a.1.trans (by omega),fun j=>⟨(a.2 j).1,Int.le_trans (a.2 j).2 (by omega)⟩⟩
theorem K0Z(b:j1)(q:wf l5 b){i:Nat}(h:NetOk b i):Kx b (i:Int)=some (s5 b i):=by
 have hi:=h.lt;have Q:=q.2.2.1;have n1:=h.wf.n1;have n8:=h.wf.n8;have P:=h.wf.res;obtain⟨E,r⟩:=h.loads;have G:((i:Int)).toNat=i:=rfl;unfold Kx;rw[I0R b q h,vS,gP ⟨oo,rfl,trivial⟩,lE,G];show gd ((0<=((r6 b i).length:Int)/\((r6 b i).length:Int)=((r6 b i).length:Int)/\((r6 b i).length:Int).toNat*8<=281474976710656/\((r6 b i).length:Int)<=9223372036854775807)/\True) (lp (Kw (j5 b i) (r6 b i)) (1,List.replicate ((r6 b i).length:Int).toNat 0))=_;rw[E,gP ⟨⟨by omega,rfl,by omega,by omega⟩,trivial⟩];have H:((1:Int),List.replicate ((j5 b i).1.length:Int).toNat (0:Int))=(fun(k:Nat) (s:List Int)=>(((k+1:Nat):Int),s++List.replicate ((j5 b i).1.length-1-k) 0)) 0 [0]:=by
  show((1:Int),List.replicate (j5 b i).1.length (0:Int))=_;have:(j5 b i).1.length=((j5 b i).1.length-1)+1:=by omega
  rw[this,List.replicate_succ];rfl
 rw[H];refine(lF (n:=(j5 b i).1.length-1) (by omega) (fun(k:Nat) (s:List Int)=>(((k+1:Nat):Int),s++List.replicate ((j5 b i).1.length-1-k) 0)) (L3 (L6 b i) (Bi b i) (fun k=>(r6 b i).getD k 0)) (fun k s=>s.length=k+1/\∀j,0<=s.getD j 0/\s.getD j 0<=1000*43000*(k:Int)) (J:=fun s=>some s) (F:=Kw (j5 b i) (r6 b i)) (fun g k s u c=>?_) (fun k s u c=>?_) (fun g s c=>?_) [0] ?_)
 ·obtain⟨f,l⟩:=c;have m:=h.wf.par (k+1) (by omega) (by omega);have e:(s++List.replicate ((j5 b i).1.length-1-k) (0:Int)).length=(j5 b i).1.length:=by rw[List.length_append,List.length_replicate]; omega
  have w:(((k+1:Nat):Int)).toNat=k+1:=rfl;have o:=w0j (n:=(j5 b i).1.length) f m.2;have a:=h.wf.resIn (k+1) (by omega);have d:=r (k+1);have x:=KO a.1 a.2 d.1 d.2;have y:=l ((j5 b i).1.getD (k+1) 0).toNat;show Kw (j5 b i) (r6 b i) g (((k+1:Nat):Int),s++List.replicate ((j5 b i).1.length-1-k) 0)=g (((k+1+1:Nat):Int),L3 (L6 b i) (Bi b i) (fun k=>(r6 b i).getD k 0) k s++List.replicate ((j5 b i).1.length-1-(k+1)) 0);have t:L3 (L6 b i) (Bi b i) (fun k=>(r6 b i).getD k 0) k s++List.replicate ((j5 b i).1.length-1-(k+1)) 0=(s++List.replicate ((j5 b i).1.length-1-k) 0).set (k+1) (s.getD ((j5 b i).1.getD (k+1) 0).toNat 0+(j5 b i).2.1.getD (k+1) 0*(r6 b i).getD (k+1) 0):=(w0i f (by omega)).symm;rw[t,<- o];generalize s++List.replicate ((j5 b i).1.length-1-k) (0:Int)=v at e o ⊢;refine(if_pos (by grind)).trans ?_;rw[w,gP ⟨oo,⟨m.1,by omega⟩,by omega,oo,oo,by omega,oo,oo,oo,by omega,trivial⟩,lE];exact gP ⟨oo,trivial⟩
 ·obtain⟨f,l⟩:=c;have a:=h.wf.resIn (k+1) (by omega);have d:=r (k+1);have x:=KO a.1 a.2 d.1 d.2
  grind[L6,L3,List.length_append,Bi,r6,Nat.lt_or_ge,Ha,Rs,List.getD_cons_zero,List.getD_cons_succ,List.getD_nil]
 ·have z:(j5 b i).1.length-1-((j5 b i).1.length-1)=0:=by omega
  show Kw (j5 b i) (r6 b i) g ((((j5 b i).1.length-1+1:Nat):Int),s++List.replicate ((j5 b i).1.length-1-((j5 b i).1.length-1)) 0)=some s;rw[z,List.replicate_zero,List.append_nil,<- c.1];exact aE
 grind
theorem L0p(b:j1)(e:wf l5 b){i:Nat}(h:NetOk b i):CJ b (i:Int)=some (Q5 b i):=by
 have hi:=h.lt;have q:=e.2.2.1;have c:=h.sn;have o:=h.s78;obtain⟨r,m⟩:=h.delays;have j:((i:Int)).toNat=i:=rfl;unfold CJ;rw[K0Z b e h,vS,gP ⟨rfl,trivial⟩,lE,gP ⟨oo,trivial⟩,lE,j];unfold Q5;rw[<- c];exact lF (n:=(j5 b i).2.2.2.length) (by omega) (fun(k:Nat) (s:List Int)=>(s,(k:Int))) (Ff (s5 b i) (o4 b i)) (fun k s=>s.length=k) (J:=fun s=>some s) (F:=YN (s5 b i) (j5 b i)) (fun g k s d a=>by
  have f:((k:Int)).toNat=k:=rfl;have l:=h.wf.snkIn k d;have a:s.length=k:=a;refine(if_pos (by grind)).trans ?_;rw[f,gP ⟨oo,trivial⟩,gP ⟨⟨l.1,by omega⟩,by omega,⟨by grind,by grind⟩,trivial⟩,lE];exact gP ⟨oo,trivial⟩) (fun k s d a=>by
  grind[Ff,List.length_append]) (fun g s _=>aE) [] rfl
theorem Fl{b:j1}{i k:Nat}(a:k < (q8 b.2.1 i).length):(Q5 b i).getD k 0=(s5 b i).getD (o4 b i k).toNat 0:=t0k _ _ _ k a
theorem Fm(b:j1)(i:Nat):(Q5 b i).length=(q8 b.2.1 i).length:=Rt _ _ _
theorem L0d(a:r9):Ky a=some (D4 a.1 a.2.2.2.1):=by
 unfold Ky D4;split
 ·rfl
 split
 ·rfl
 split
 ·rfl
 split
 ·rfl
 split
 ·rfl
 ·rfl
theorem L0q(b:j1)(P:DF b.1 b.2.1){i:Nat}(hi:i<b.2.1.1.length)(f:Int)(W:0<=f)(Y:f<=1000):CK b (k6 b.2.1 i) f=some (V0 f (j9 (p7 b i)) (p7 b i).2.2.2.1.length):=by
 obtain⟨v,E,x3⟩:=CV P hi;obtain⟨w,r,Q,o⟩:=CW E;unfold CK;rw[gP ⟨v,trivial⟩,lE];show lp (QM f (p7 b i)) ([],0)=_;generalize p7 b i=c at w r Q o;refine lF (n:=c.2.2.2.1.length) (by omega) (fun(j:Nat) (s:List o6)=>(s,(j:Int))) (L4 f (j9 c)) (fun j s=>s.length<=4*j) (J:=fun s=>some s) (F:=QM f c) (fun g j s l e=>?_) (fun j s l e=>?_) (fun g s _=>aE) [] (Nat.le_refl _)
 ·have x:((j:Int)).toNat=j:=rfl;obtain⟨G,H,u,t⟩:=o j l;have e:s.length<=4*j:=e;refine(if_pos (by simpa using l)).trans ?_;rw[x,gP ⟨oo,trivial⟩,lE,L0d,vS,gP ⟨rfl,trivial⟩,lE];show lp (QL f (j9 c j) (j:Int) (D4 (j9 c j).1 (j9 c j).2.2.2.1) g) (0,s)=g (L4 f (j9 c) j s,_);obtain⟨q,m⟩:=Nv (j9 c j).1 (j9 c j).2.2.2.1;have y:L4 f (j9 c) j s=fN (S7 f (j9 c j).2.1 (j9 c j).2.2.1 (j:Int) (D4 (j9 c j).1 (j9 c j).2.2.2.1)) (D4 (j9 c j).1 (j9 c j).2.2.2.1).length s:=rfl;rw[y];generalize D4 (j9 c j).1 (j9 c j).2.2.2.1=tr at q m;generalize j9 c j=a at G H u t;refine(lF (n:=tr.length) (by omega) (fun(k:Nat) (s:List o6)=>((k:Int),s)) (S7 f a.2.1 a.2.2.1 (j:Int) tr) (fun k z=>z.length=s.length+k) (J:=fun z=>QK (j:Int) g z) (F:=QL f a (j:Int) tr g) (fun T k z h hz=>?_) (fun k z h hz=>?_) (fun T z _=>aE) s rfl).trans ?_
  ·have V:((k:Int)).toNat=k:=rfl;have X:=m _ (F4 (d:=((0,0):Int×Int)) h);have hz:z.length=s.length+k:=hz;refine(if_pos (by simpa using h)).trans ?_;rw[V,gP ⟨oo,h,trivial⟩,lE];show gd _ _=_;rw[gP ⟨oo,oo,oo,⟨by show _<=2*(f+a.2.1)+(tr.getD k (0,0)).1; omega,by show 2*(f+a.2.1)+(tr.getD k (0,0)).1<=_; omega⟩,oo,oo,oo,⟨by show _<=2*(f+a.2.2.1)+(tr.getD k (0,0)).2; omega,by show 2*(f+a.2.2.1)+(tr.getD k (0,0)).2<=_; omega⟩,⟨by show z.length+1<=_; omega,by show(z.length+1)*32<=_; omega⟩,trivial⟩,lE];exact gP ⟨oo,trivial⟩
  ·have hz:z.length=s.length+k:=hz;unfold S7;rw[List.length_append,hz]; rfl
  ·exact gP ⟨oo,trivial⟩
 ·have e:s.length<=4*j:=e;have:=Ru f (j9 c) j s;show _<=4*(j+1);omega
def Z1(b:j1)(i:Nat)(s:Int×List o6):Int×List o6:=O3 (fun i=>(k6 b.2.1 i).2.2.length) (fun i=>j9 (p7 b i)) (fun i=>(p7 b i).2.2.2.1.length) i s
def F0(b:j1)(i:Nat):Int:=M8 (p9 b.2.1) i (l9 b.2.1).length
def Hf(b:j1):List o6:=(fN (Z1 b) b.2.1.1.length (0,[])).2
def lV(b:j1):List o6:=fN (Y9 (F0 b) (fun i=>q8 b.2.1 i)) b.2.2.length (Hf b)
def z0j(b:j1):List Int:=fN (V2 fun i=>(r6 b i).getD 0 0) b.2.2.length []
def t0p(b:j1):List (List Int):=fN (V2 fun i=>Q5 b i) b.2.2.length []
def l7(b:j1):w9:=(b,l9 b.2.1,lV b,z0j b,t0p b,[])
theorem RP{b:j1}(a:DF b.1 b.2.1)(m:Nat)(c:m<=b.2.1.1.length):0<=(fN (Z1 b) m (0,[])).1/\(fN (Z1 b) m (0,[])).1<=5*(m:Int)/\(fN (Z1 b) m (0,[])).2.length<=32*m :=
 l0O (n:=b.2.1.1.length) (fun i hi=>⟨(a.pin i hi).2,(CW (CV a hi).2.1).2.2.1⟩) m c
def ND(b:j1)(i:Nat)(s:List Int×List (List Int)×List o6):List Int×List (List Int)×List o6:=(s.1++[(r6 b i).getD 0 0],s.2.1++[Q5 b i],Y9 (F0 b) (fun i=>q8 b.2.1 i) i s.2.2)
theorem i0Z(b:j1)(z:List o6):∀m,fN (ND b) m ([],[],z)=(fN (V2 fun i=>(r6 b i).getD 0 0) m [],fN (V2 fun i=>Q5 b i) m [],fN (Y9 (F0 b) (fun i=>q8 b.2.1 i)) m z)
 | 0=>rfl
 | m+1=>by
   show ND b m (fN (ND b) m ([],[],z))=_;rw[i0Z b z m]; rfl
theorem L0D(b:j1)(hw:wf l5 b)(hb:q7 b=true):KB b=some (l7 b):=by
 obtain⟨aF,X,aH⟩:=O4 hb;have d:=M9 aF;have hd:=hw.2.1;have aL:=d.fac.ni14;have aM:=d.fac.nn30;have aN:=d.len;have aA:b.2.1.1.length<=9223372036854775807:=by omega
 have eN:∀l,A4 l=some (l.length:Int):=fun _=>rfl;unfold KB;rw[NB b.2.1 hd d.fac.ni14 d.fac.np8 d.pin,vS,gP ⟨rfl,trivial⟩,lE];refine(lF (n:=b.2.1.1.length) aA (fun(i:Nat) (s:Int×List o6)=>(s.1,(i:Int),s.2)) (Z1 b) (fun i s=>0<=s.1/\s.1<=5*(i:Int)/\s.2.length<=32*i) (J:=fun s=>KA (l9 b.2.1) b s.2) (F:=YS b (l9 b.2.1)) (fun g i s hi m=>?_) (fun i s hi m=>?_) (fun g s _=>aE) (0,[]) ⟨Int.le_refl _,Int.le_refl _,Nat.le_refl _⟩).trans ?_
 ·have E:((i:Int)).toNat=i:=rfl;obtain⟨f,z⟩:=s;obtain⟨e,i2,i3⟩:=m;have e:0<=f:=e;have i2:f<=5*(i:Int):=i2;have i3:z.length<=32*i:=i3;have hp:=d.pin i hi;have aC:=KP f (j9 (p7 b i)) (p7 b i).2.2.2.1.length;have aB:=(CW (CV d hi).2.1).2.2.1;refine(if_pos (by grind)).trans ?_;rw[E,gP ⟨oo,trivial⟩,lE];show gd ((CK b (k6 b.2.1 i) f).isSome=true/\_/\True) _=_;rw[L0q b d hi f e (by omega),vS,gP ⟨rfl,oo,trivial⟩,lE];show gd ((A4 (k6 b.2.1 i).2.2).isSome=true/\c7 (f+vl (A4 (k6 b.2.1 i).2.2))/\True) _=_;rw[eN,vS,gP ⟨rfl,oo,trivial⟩,lE];exact gP ⟨oo,trivial⟩
 ·obtain⟨f,z⟩:=s;obtain⟨e,i2,i3⟩:=m;have e:0<=f:=e;have i2:f<=5*(i:Int):=i2;have i3:z.length<=32*i:=i3;have hp:=d.pin i hi;have aC:=KP f (j9 (p7 b i)) (p7 b i).2.2.2.1.length;have aB:=(CW (CV d hi).2.1).2.2.1;refine⟨by show 0<=f+((k6 b.2.1 i).2.2.length:Int); omega,by show f+((k6 b.2.1 i).2.2.length:Int)<=_; omega,?_⟩;show(z++V0 f (j9 (p7 b i)) (p7 b i).2.2.2.1.length).length<=_
  grind
 have hz:=(RP d _ (Nat.le_refl _)).2.2;have Y:Hf b=(fN (Z1 b) b.2.1.1.length (0,[])).2:=rfl;unfold l7 lV z0j t0p;rw[Y];generalize (fN (Z1 b) b.2.1.1.length (0,[])).2=z at hz;show KA (l9 b.2.1) b z=_;have aJ:b.2.2.length<=30:=by omega
 rw[KA,gP ⟨⟨by omega,rfl,by omega,by omega⟩,trivial⟩,gP ⟨⟨by omega,rfl,by omega,by omega⟩,trivial⟩];show lp (QR (l9 b.2.1) b z) (0,List.replicate b.2.2.length [],List.replicate b.2.2.length 0)=_;have h:∀i,i < (l9 b.2.1).length->j3 (p9 b.2.1 i).2.2.1 0 ((b.2.2.length:Int)-1)=true:=fun i hi=>by rw[X]; exact d.plc _ (NC hi)
 have gf:=l0R (p9 b.2.1) b.2.2.length;refine(lF (n:=(l9 b.2.1).length) (by omega) (fun(i:Nat) (s:List (List Int)×List Int)=>((i:Int),s.1,s.2)) (P8 (p9 b.2.1)) (fun i s=>s.1.length=b.2.2.length/\s.2.length=b.2.2.length/\∀k:Nat,(s.1.getD k []).length<=i) (J:=fun s=>QQ b (l9 b.2.1) z s) (F:=QR (l9 b.2.1) b z) (fun g i s hi m=>?_) (fun i s hi m=>?_) (fun g s _=>aE) (List.replicate b.2.2.length [],List.replicate b.2.2.length 0) ⟨List.length_replicate,List.length_replicate,fun k=>?_⟩).trans ?_
 ·obtain⟨a,c⟩:=s;obtain⟨V,P,G⟩:=m;have V:a.length=b.2.2.length:=V;have P:c.length=b.2.2.length:=P;have G:∀k:Nat,(a.getD k []).length<=i:=G;have hp:=r7.1 (h i hi);have E:((i:Int)).toNat=i:=rfl;have j4:∀x y,Ni (i:Int) g (x,y)=g (((i+1:Nat):Int),y,x):=fun x y=>gP ⟨oo,trivial⟩;have g4:=G (p9 b.2.1 i).2.2.1.toNat;refine(if_pos (by grind)).trans ?_;rw[E,gP ⟨oo,hi,trivial⟩,lE];show(if(p9 b.2.1 i).2.2.2=true then _ else _)=g (_,(P8 (p9 b.2.1) i (a,c)).1,(P8 (p9 b.2.1) i (a,c)).2);unfold P8;cases(p9 b.2.1 i).2.2.2 with
  | true =>
    rw[if_pos rfl,if_pos rfl];show gd (ix (p9 b.2.1 i).2.2.1 c.length/\_/\True) _=_;rw[gP ⟨oo,by grind,trivial⟩,j4]
  | false =>
    rw[if_neg (by simp),if_neg (by simp)];show gd (ix (p9 b.2.1 i).2.2.1 a.length/\_) _=_;rw[gP ⟨oo,by grind,⟨by grind,by grind⟩,⟨by grind,by grind⟩,⟨by grind,rfl⟩,trivial⟩,lE,j4]
 ·obtain⟨a,c⟩:=s;obtain⟨V,P,G⟩:=m;have V:a.length=b.2.2.length:=V;have P:c.length=b.2.2.length:=P;have G:∀k:Nat,(a.getD k []).length<=i:=G;have hp:=r7.1 (h i hi);unfold P8
  grind[List.length_set,Rw,List.length_append]
 ·grind
 obtain⟨gl,dl,v⟩:=gf (l9 b.2.1).length h;generalize fN (P8 (p9 b.2.1)) (l9 b.2.1).length (List.replicate b.2.2.length [],List.replicate b.2.2.length 0)=s at gl dl v;obtain⟨a,c⟩:=s;have gl:a.length=b.2.2.length:=gl;have dl:c.length=b.2.2.length:=dl;have aI:∀k:Nat,k<b.2.2.length->a.getD k []=q8 b.2.1 k:=fun k w=>(v k w).1;have aD:∀k:Nat,k<b.2.2.length->c.getD k 0=F0 b k:=fun k w=>(v k w).2;show lp (QP c a b (l9 b.2.1)) (0,[],[],z)=_;refine(lF (n:=b.2.2.length) (by omega) (fun(i:Nat) (s:List Int×List (List Int)×List o6)=>((i:Int),s.1,s.2.1,s.2.2)) (ND b) (fun i s=>s.1.length=i/\s.2.1.length=i/\s.2.2.length<=500+160*i) (J:=fun s=>some (b,l9 b.2.1,s.2.2,s.1,s.2.1,[])) (F:=QP c a b (l9 b.2.1)) (fun g i s hi m=>?_) (fun i s hi m=>?_) (fun g s _=>aE) ([],[],z) ⟨rfl,rfl,by grind⟩).trans ?_
 ·obtain⟨o,q,r⟩:=s;obtain⟨e,i2,i3⟩:=m;have e:o.length=i:=e;have i2:q.length=i:=i2;have i3:r.length<=500+160*i:=i3;have j:=Z0 hb hi;have n1:=j.wf.n1;have W:=j.s78;have aK:=j.loads.1;have E:((i:Int)).toNat=i:=rfl;refine(if_pos (by grind)).trans ?_;rw[I0R b hw j,vS,gP ⟨rfl,oo,by omega,⟨by grind,by grind⟩,trivial⟩,lE,L0p b hw j,vS,gP ⟨rfl,⟨by grind,by grind⟩,trivial⟩,lE,gP ⟨oo,trivial⟩];have H:=aI i hi;have aG:=aD i hi;have T:=Rv (p9 b.2.1) i (l9 b.2.1).length;have T:0<=F0 b i/\F0 b i<=((l9 b.2.1).length:Int):=T;show lp (DV c (i:Int) a q (Q5 b i) o (r6 b i) g) (0,r)=g (_,o++[(r6 b i).getD 0 0],q++[Q5 b i],Y9 (F0 b) (fun i=>q8 b.2.1 i) i r);refine(lF (n:=(q8 b.2.1 i).length) (by omega) (fun(k:Nat) (s:List o6)=>((k:Int),s)) (Ax (F0 b i) (q8 b.2.1 i)) (fun k y=>y.length=r.length+2*k) (J:=fun y=>QN (i:Int) g (q++[Q5 b i],o++[(r6 b i).getD 0 0],y)) (F:=DV c (i:Int) a q (Q5 b i) o (r6 b i) g) (fun u k y w hy=>?_) (fun k y w hy=>?_) (fun u y _=>?_) r rfl).trans ?_
  ·have hy:y.length=r.length+2*k:=hy;obtain⟨k1,k2⟩:=KY w;have e4:((k:Int)).toNat=k:=rfl;show DV c (i:Int) a q (Q5 b i) o (r6 b i) g u ((k:Int),y)=_;rw[DV,E,H,if_pos (by grind),gP ⟨oo,trivial⟩];show _=u (_,Ax (F0 b i) (q8 b.2.1 i) k y);refine(lF (n:=2) (by decide) (fun(t:Nat) (x:List o6)=>((t:Int),x)) (Rx (F0 b i) ((q8 b.2.1 i).getD k 0) (k:Int)) (fun t x=>x.length=y.length+t) (J:=fun x=>QO (k:Int) u x) (F:=Kz c (i:Int) a (k:Int) u) (fun Q t x ht hx=>?_) (fun t x ht hx=>?_) (fun Q x _=>?_) y rfl).trans ?_
   ·have hx:x.length=y.length+t:=hx;show Kz c (i:Int) a (k:Int) u Q ((t:Int),x)=_;rw[Kz,E,e4,H,aG,if_pos (decide_eq_true (by omega)),gP ⟨oo,by omega,oo,oo,oo,oo,⟨by grind,by grind⟩,trivial⟩,lE];exact gP ⟨oo,trivial⟩
   ·grind[Rx,List.length_append]
   ·grind[Kz]
   ·exact gP ⟨oo,trivial⟩
  ·grind[Ry]
  ·show DV c (i:Int) a q (Q5 b i) o (r6 b i) g u (((q8 b.2.1 i).length:Int),y)=_
   grind[DV]
  ·exact gP ⟨oo,trivial⟩
 ·obtain⟨o,q,r⟩:=s;obtain⟨e,i2,i3⟩:=m;have e:o.length=i:=e;have i2:q.length=i:=i2;have i3:r.length<=500+160*i:=i3;have W:=(Z0 hb hi).s78;refine⟨by show(o++_).length=_; grind,by show(q++_).length=_; grind,?_⟩;show(Y9 (F0 b) (fun i=>q8 b.2.1 i) i r).length<=_;unfold Y9
  grind[Nw]
 ·rw[i0Z]
end Go.Proofs.YtechodbafnmddaaGreatDoor
end
section
namespace Go.Proofs.Xd
open Go Go.Proofs Go.Proofs.Xl
def r5(x:Nat->A9):Nat->Nat
 | 0=>0
 | i+1=>r5 x i+(x i).2.2.length
theorem l0N(x:A9)(i:Int)(d:u0)(s:List u0):∀n k,k<n->(fN (M7 x i) n s).getD (s.length+k) d=(i,(k:Int),x.2.2.getD k 0,(k:Int)==(x.2.2.length:Int)-1)
 | n+1,k,h=>by
   have b:=Fe x i s n;have a:=l0N x i d s n k
   grind[M7,fN]
theorem l0M(x:A9)(i:Int)(d:u0)(s:List u0):∀n j,j<s.length->(fN (M7 x i) n s).getD j d=s.getD j d
 | 0,_,_=>rfl
 | n+1,j,h=>by
   have b:=Fe x i s n;have a:=l0M x i d s n j h
   grind[M7,fN,Ha]
theorem KZ(x:Nat->A9):∀n,(fN (J7 x) n []).length=r5 x n
 | 0=>rfl
 | n+1=>by
   have:=KZ x n;show(J7 x n (fN (J7 x) n [])).length=_;unfold J7;rw[Fe];show(fN (J7 x) n []).length+_=_;rw[this]; rfl
theorem h0r(x:Nat->A9)(d:u0):∀n i k,i<n->k < (x i).2.2.length->(fN (J7 x) n []).getD (r5 x i+k) d=((i:Int),(k:Int),(x i).2.2.getD k 0,(k:Int)==((x i).2.2.length:Int)-1)
 | n+1,i,k,hi,hk=>by
   have b:=KZ x n;have a:=h0r x d n i k;show(J7 x n (fN (J7 x) n [])).getD _ d=_;generalize fN (J7 x) n []=z at b a;unfold J7;rcases Nat.lt_or_ge i n with h | h
   ·have c:r5 x i+k<z.length:=by
     rw[b];have:∀m,i<m->r5 x i+(x i).2.2.length<=r5 x m:=by
      intro m
      induction m with
      | zero=>omega
      | succ m a =>
        grind[r5,Nat.lt_or_ge]
     have:=this n h;omega
    grind[l0M]
   grind[l0N]
theorem l0s(y:Nat->I6)(d:u0)(s:List u0):∀n j,j<s.length->(fN (K3 y) n s).getD j d=s.getD j d
 | 0,_,_=>rfl
 | n+1,j,h=>by
   have b:=KM y s n;have a:=l0s y d s n j h
   grind[K3,fN,Ha]
theorem l0t(y:Nat->I6)(d:u0)(s:List u0):∀n k,k<n->(fN (K3 y) n s).getD (s.length+k) d=(-1,(k:Int),(y k).2.2,(y k).2.1==1)
 | n+1,k,h=>by
   have b:=KM y s n;have a:=l0t y d s n k
   grind[K3,fN]
theorem o0C(x:Nat->A9):∀n j,j<r5 x n->∃i k,i<n/\k < (x i).2.2.length/\j=r5 x i+k
 | n+1,j,h=>by
   have h:j<r5 x n+(x n).2.2.length:=h;rcases Nat.lt_or_ge j (r5 x n) with a | a
   ·obtain⟨i,k,d,b,c⟩:=o0C x n j a;exact⟨i,k,by omega,b,c⟩
   ·exact⟨n,j-r5 x n,by omega,by omega,by omega⟩
theorem La(x:Nat->A9){i n k:Nat}(hi:i<n)(a:k < (x i).2.2.length):r5 x i+k<r5 x n:=by
 induction n with
 | zero=>omega
 | succ n b =>
   grind[r5,Nat.lt_or_ge]
theorem Hg(ni np:Nat)(x:Nat->A9)(y:Nat->I6):(I8 ni np x y).length=r5 x ni+np:=by
 grind[I8,KM,KZ]
theorem NE(ni np:Nat)(x:Nat->A9)(y:Nat->I6)(d:u0){i k:Nat}(hi:i<ni)(a:k < (x i).2.2.length):(I8 ni np x y).getD (r5 x i+k) d=((i:Int),(k:Int),(x i).2.2.getD k 0,(k:Int)==((x i).2.2.length:Int)-1):=by
 grind[I8,l0s,KZ,La,h0r]
theorem h0q(ni np:Nat)(x:Nat->A9)(y:Nat->I6)(d:u0){k:Nat}(a:k<np):(I8 ni np x y).getD (r5 x ni+k) d=(-1,(k:Int),(y k).2.2,(y k).2.1==1):=by
 grind[I8,KZ,l0t]
theorem p0U(ni np:Nat)(x:Nat->A9)(y:Nat->I6)(d:u0){i k:Nat}(hi:i<ni)(c:k < (x i).2.2.length){j:Nat}(a:j < (I8 ni np x y).length):(((I8 ni np x y).getD j d).1==(i:Int)&&((I8 ni np x y).getD j d).2.1==(k:Int))=decide (j=r5 x i+k):=by
 rw[Bool.eq_iff_iff,ba,beq_iff_eq,beq_iff_eq,dq];rw[Hg] at a;constructor
 ·rintro⟨b,f⟩;rcases Nat.lt_or_ge j (r5 x ni) with h | h
  ·grind[o0C,NE,Int.ofNat.inj]
  ·have e:j=r5 x ni+(j-r5 x ni):=by omega
   rw[e,h0q ni np x y d (by omega)] at b;omega
 grind[NE]
def N0(P:Nat->Bool)(m:Nat):Nat:=fN (fun i s=>if P i=true then s+1 else s) m 0
theorem BY(P:Nat->Bool)(m:Nat):N0 P (m+1)=if P m=true then N0 P m+1 else N0 P m:=rfl
theorem p0g{P:Nat->Bool}:∀{m i:Nat},i<m->P i=true->1<=N0 P m
 | m+1,i,h,hp=>by
   rw[BY];rcases Nat.lt_or_ge i m with a | a
   ·have:=p0g a hp; split <;> omega
   grind
theorem RQ{P:Nat->Bool}:∀{m i j:Nat},i<j->j<m->P i=true->P j=true->2<=N0 P m
 | m+1,i,j,h1,h2,hi,hj=>by
   rw[BY];rcases Nat.lt_or_ge j m with a | a
   ·have:=RQ h1 a hi hj; split <;> omega
   ·have:j=m:=by omega
    subst this;have:=p0g h1 hi
    grind
theorem t0y{P:Nat->Bool}:∀{m:Nat},1<=N0 P m->∃i,i<m/\P i=true
 | 0,h=>by grind[N0,fN]
 | m+1,h=>by
   rw[BY] at h;by_cases a:P m=true
   ·grind
   ·rw[if_neg a] at h;obtain⟨i,c,b⟩:=t0y h
    grind
def Q6(pl:Nat->u0)(t:Int)(j:Nat):Bool:=(pl j).2.2.1==t&&(pl j).2.2.2
theorem l0Y{pl:Nat->u0}{t:Int}:∀{m i:Nat},i<m->Q6 pl t i=true->(∀j,i<j->j<m->Q6 pl t j=false)->M8 pl t m=(i:Int)
 | m+1,i,h,hi,hn=>by
   have e:M8 pl t (m+1)=if Q6 pl t m=true then(m:Int) else M8 pl t m:=rfl
   rw[e];rcases Nat.lt_or_ge i m with a | a
   ·rw[if_neg (by grind)];exact l0Y a hi (fun j b c=>hn j b (by omega))
   grind
theorem B0c{pl:Nat->u0}{t:Int}{m:Nat}(h:N0 (Q6 pl t) m=1):∃i,i<m/\Q6 pl t i=true/\(∀j,j<m->Q6 pl t j=decide (j=i))/\M8 pl t m=(i:Int):=by
 obtain⟨i,c,a⟩:=t0y (Nat.le_of_eq h.symm);have f:∀j,j<m->Q6 pl t j=true->j=i:=fun j d g=>by
  rcases Nat.lt_trichotomy i j with b | b | b
  ·grind[RQ]
  ·omega
  grind[RQ]
 refine⟨i,c,a,fun j d=>?_,l0Y c a (fun j e d=>?_)⟩
 ·grind
 grind
theorem p0h(P:Nat->Bool)(m:Nat):∀n,N0 P (m+n)=N0 P m+N0 (fun i=>P (m+i)) n
 | 0=>rfl
 | n+1=>by
   rw[<- Nat.add_assoc,BY,BY,p0h P m n];split <;> omega
theorem t0x{P:Nat->Bool}{n:Nat}(h:∀i,i<n->P i=false):N0 P (n+1)=if P n=true then 1 else 0:=by
 have:∀m,m<=n->N0 P m=0:=by
  intro m
  induction m with
  | zero=>intro _; rfl
  | succ m a=>intro b; rw[BY,h m (by omega),if_neg (by simp),a (by omega)]
 rw[BY,this n (Nat.le_refl _)]
theorem o0Y{ni np:Nat}{x:Nat->A9}{y:Nat->I6}{d:u0}{a:Nat}(f:∀i,i<ni->1<=(x i).2.2.length/\j3 ((x i).2.2.getD ((x i).2.2.length-1) 0) 0 ((a:Int)-1)=true):∀n,n<=ni->(fN (M6 x) n (List.replicate a 0)).length=a/\∀t:Nat,t<a->(fN (M6 x) n (List.replicate a 0)).getD t 0=(N0 (Q6 (fun j=>(I8 ni np x y).getD j d) t) (r5 x n):Nat)
 | 0,_=>⟨List.length_replicate,fun t h=>by
   show(List.replicate a (0:Int)).getD t 0=_;rw[gq,List.getElem?_replicate,if_pos h]; rfl⟩
 | n+1,hn=>by
   obtain⟨r,o⟩:=o0Y (np:=np) (y:=y) (d:=d) f n (by omega);obtain⟨w,c⟩:=f n (by omega);have c:=r7.1 c;have e:fN (M6 x) (n+1) (List.replicate a 0)=M6 x n (fN (M6 x) n (List.replicate a 0)):=rfl;rw[e];generalize fN (M6 x) n (List.replicate a 0)=v at r o;unfold M6 Au;refine⟨by grind,fun t h=>?_⟩;rw[Rw (by omega)];show _=((N0 _ (r5 x n+(x n).2.2.length):Nat):Int);rw[p0h];have l:∀k,k < (x n).2.2.length->Q6 (fun j=>(I8 ni np x y).getD j d) t (r5 x n+k)=((x n).2.2.getD k 0==(t:Int)&&(k:Int)==((x n).2.2.length:Int)-1):=fun k l=>by
    grind[Q6,I8,r5,NE]
   obtain⟨m,g⟩:∃m,(x n).2.2.length=m+1:=⟨(x n).2.2.length-1,by omega⟩;have b:(x n).2.2.length-1=m:=by omega
   rw[b] at c;rw[b,g,t0x (fun i hi=>by grind),l m (by omega),g];have s:((m:Int)==((m+1:Nat):Int)-1)=true:=by simp
   rw[s,Bool.and_true];have u:((x n).2.2.getD m 0==(t:Int))=decide (t=((x n).2.2.getD m 0).toNat):=by
    rw[Bool.eq_iff_iff,beq_iff_eq,dq];omega
   rw[u];by_cases q:t=((x n).2.2.getD m 0).toNat
   ·grind
   grind
theorem o0w{ni np:Nat}{x:Nat->A9}{y:Nat->I6}{d:u0}{a:Nat}(b:∀i,i<ni->1<=(x i).2.2.length/\j3 ((x i).2.2.getD ((x i).2.2.length-1) 0) 0 ((a:Int)-1)=true)(c:∀i,i<np->j3 (y i).2.2 0 ((a:Int)-1)=true):∀n,n<=np->(fN (H7 y) n (fN (M6 x) ni (List.replicate a 0))).length=a/\∀t:Nat,t<a->(fN (H7 y) n (fN (M6 x) ni (List.replicate a 0))).getD t 0=(N0 (Q6 (fun j=>(I8 ni np x y).getD j d) t) (r5 x ni+n):Nat)
 | 0,_=>o0Y b ni (Nat.le_refl _)
 | n+1,hn=>by
   obtain⟨k,f⟩:=o0w (d:=d) b c n (by omega);have o:=r7.1 (c n (by omega));have e:fN (H7 y) (n+1) (fN (M6 x) ni (List.replicate a 0))=H7 y n (fN (H7 y) n (fN (M6 x) ni (List.replicate a 0))):=rfl;rw[e];generalize fN (H7 y) n (fN (M6 x) ni (List.replicate a 0))=v at k f;have g:∀t:Nat,Q6 (fun j=>(I8 ni np x y).getD j d) t (r5 x ni+n)=((y n).2.2==(t:Int)&&(y n).2.1==1):=fun t=>by
    grind[Q6,I8,r5,h0q]
   have l:∀t:Nat,((y n).2.2==(t:Int))=decide (t=(y n).2.2.toNat):=fun t=>by
    grind
   unfold H7;split
   ·rename_i h;unfold Au;refine⟨by grind,fun t m=>?_⟩;rw[Rw (by omega),<- Nat.add_assoc,BY,g,l,h]
    grind
   grind[Nat.add_assoc,BY]
def Fo(f:Int)(a:A8)(j:Nat)(t:Nat):o6:=(2*(f+a.2.1)+((D4 a.1 a.2.2.2.1).getD t (0,0)).1,2*(f+a.2.2.1)+((D4 a.1 a.2.2.2.1).getD t (0,0)).2,1,(j:Int))
def BZ(d s:Int)(k t:Nat):o6:=(2*d+(t:Int),2*s+(t:Int),2,(k:Int))
theorem j0x{f a b x:Int}{c:List (Int×Int)}{s:List o6}{l:o6}:∀k,l∈fN (S7 f a b x c) k s->l∈s∨∃t,t<k/\l=(2*(f+a)+(c.getD t (0,0)).1,2*(f+b)+(c.getD t (0,0)).2,1,x)
 | 0,h=>.inl h
 | k+1,h=>by
   rcases List.mem_append.1 (show l∈fN (S7 f a b x c) k s++[_] from h) with h | h
   ·rcases j0x k h with h | ⟨t,ht,e⟩
    ·exact .inl h
    ·exact .inr ⟨t,by omega,e⟩
   ·exact .inr ⟨k,by omega,List.mem_singleton.1 h⟩
theorem m0h{f:Int}{a:Nat->A8}{s:List o6}{l:o6}:∀m,l∈fN (L4 f a) m s->l∈s∨∃j t,j<m/\t < (D4 (a j).1 (a j).2.2.2.1).length/\l=Fo f (a j) j t
 | 0,h=>.inl h
 | m+1,h=>by
   rcases j0x _ (show l∈fN (S7 f _ _ (m:Int) _) _ (fN (L4 f a) m s) from h) with h | ⟨t,ht,e⟩
   ·rcases m0h m h with h | ⟨j,t,hj,ht,e⟩
    ·exact .inl h
    ·exact .inr ⟨j,t,by omega,ht,e⟩
   ·exact .inr ⟨m,t,by omega,ht,e⟩
theorem RR{a:Nat->Nat}{b:Nat->Nat->A8}{d:Nat->Nat}{x:Nat->A9}(c:∀i,a i=(x i).2.2.length):∀m,(fN (O3 a b d) m (0,[])).1=(r5 x m:Int)
 | 0=>rfl
 | m+1=>by
   show(fN (O3 a b d) m (0,[])).1+(a m:Int)=((r5 x m+(x m).2.2.length:Nat):Int);rw[RR c m,c m]; omega
theorem j0n{b:Nat->Nat}{a:Nat->Nat->A8}{c:Nat->Nat}{x:Nat->A9}(d:∀i,b i=(x i).2.2.length){l:o6}:∀m,l∈(fN (O3 b a c) m (0,[])).2->∃i j t,i<m/\j<c i/\t < (D4 (a i j).1 (a i j).2.2.2.1).length/\l=Fo (r5 x i:Int) (a i j) j t
 | 0,h=>by cases h
 | m+1,h=>by
   rcases List.mem_append.1 (show l∈(fN (O3 b a c) m (0,[])).2++V0 _ _ _ from h) with h | h
   ·obtain⟨i,j,t,hi,f⟩:=j0n d m h;exact⟨i,j,t,by omega,f⟩
   ·rcases m0h _ h with h | ⟨j,t,hj,ht,e⟩
    ·cases h
    ·rw[RR d m] at e;exact⟨m,j,t,by omega,hj,ht,e⟩
theorem i0x{d:Int}{a:List Int}{z:List o6}{l:o6}:∀k,l∈fN (Ax d a) k z->l∈z∨∃j t,j<k/\t<2/\l=BZ d (a.getD j 0) j t
 | 0,h=>.inl h
 | k+1,h=>by
   have h:l∈(fN (Ax d a) k z++[BZ d (a.getD k 0) k 0])++[BZ d (a.getD k 0) k 1]:=h;rcases List.mem_append.1 h with h | h
   ·rcases List.mem_append.1 h with h | h
    ·rcases i0x k h with h | ⟨j,t,hj,ht,e⟩
     ·exact .inl h
     ·exact .inr ⟨j,t,by omega,ht,e⟩
    ·exact .inr ⟨k,0,by omega,by omega,List.mem_singleton.1 h⟩
   ·exact .inr ⟨k,1,by omega,by omega,List.mem_singleton.1 h⟩
theorem l0E{d:Nat->Int}{a:Nat->List Int}{z:List o6}{l:o6}:∀m,l∈fN (Y9 d a) m z->l∈z∨∃i j t,i<m/\j < (a i).length/\t<2/\l=BZ (d i) ((a i).getD j 0) j t
 | 0,h=>.inl h
 | m+1,h=>by
   rcases i0x _ (show l∈fN (Ax (d m) (a m)) _ (fN (Y9 d a) m z) from h) with h | ⟨j,t,hj,ht,e⟩
   ·rcases l0E m h with h | ⟨i,j,t,hi,hr⟩
    ·exact .inl h
    ·exact .inr ⟨i,j,t,by omega,hr⟩
   ·exact .inr ⟨m,j,t,by omega,hj,ht,e⟩
theorem RS(f a b x:Int)(c:List (Int×Int))(s:List o6):∀k,fN (S7 f a b x c) k s=s++fN (S7 f a b x c) k []
 | 0=>(List.append_nil _).symm
 | k+1=>by
   show fN (S7 f a b x c) k s++[_]=s++(fN (S7 f a b x c) k []++[_]);rw[RS f a b x c s k,List.append_assoc]
theorem m0i(f:Int)(a:Nat->A8)(s:List o6):∀m,fN (L4 f a) m s=s++V0 f a m
 | 0=>(List.append_nil _).symm
 | m+1=>by
   show L4 f a m (fN (L4 f a) m s)=s++L4 f a m (V0 f a m);rw[m0i f a s m];unfold L4;rw[RS,RS _ _ _ _ _ (V0 f a m),List.append_assoc]
end Go.Proofs.Xd
end
section
namespace Go.Proofs.YtechodbafnmddaaGreatDoor
open Go Go.Proofs Go.Proofs.Sv Go.Proofs.Xv Go.Proofs.Xl Go.Proofs.Xd
theorem RU(l:List o6)(f t a b k i:Int)(h:0<=f/\f<=1000)(c:0<=t/\t<=1000)(e:0<=a/\a<=1)(d:0<=b/\b<=1)(g:l.length<=100000):CA l f t a b k i=some (l++[(2*f+a,2*t+b,k,i)]) :=
 gP ⟨oo,oo,oo,oo,⟨by grind,by grind⟩,trivial⟩
def F0j(k s:Int)(x y:Nat):Bool:=if(k==1)=true then s==3||(s==1)==((x:Int)==(y:Int)) else if(k==2)=true then(x:Int)==0 else if(k==3)=true then(x:Int)==1 else false
def Ca(k s f t i:Int)(x y:Nat)(l:List o6):List o6:=if F0j k s x y=true then l++[(2*f+(x:Int),2*t+(y:Int),1,i)] else l
theorem p0q(k s f t i:Int)(x y:Nat)(l:List o6):(Ca k s f t i x y l).length<=l.length+1:=by
 grind[Ca]
theorem m0o(k s f t i:Int)(x:Nat)(l:List o6):∀n,(fN (Ca k s f t i x) n l).length<=l.length+n
 | 0=>Nat.le_refl _
 | n+1=>by
   have h:=m0o k s f t i x l n
   grind[p0q,fN,Ca]
theorem r86(a:r9)(l:List o6)(f t i:Int)(k:0<=f/\f<=1000)(h:0<=t/\t<=1000)(o:l.length<=90000):DD l a f t i=some (fN (fun x s=>fN (Ca a.1 a.2.2.2.1 f t i x) 2 s) 2 l):=by
 unfold DD;refine lF (n:=2) (by decide) (fun(x:Nat) (s:List o6)=>((x:Int),s)) (fun x s=>fN (Ca a.1 a.2.2.2.1 f t i x) 2 s) (fun x s=>s.length<=l.length+2*x) (J:=fun s=>some s) (F:=Mi f t i a) (fun g x s d b=>?_) (fun x s d b=>?_) (fun g s _=>by
  show Mi f t i a g (((2:Nat):Int),s)=_;rw[Mi];exact if_neg (by decide)) l (Nat.le_refl _)
 ·have b:s.length<=l.length+2*x:=b;refine(if_pos (decide_eq_true (by omega))).trans ?_;refine(lF (n:=2) (by decide) (fun(y:Nat) (s:List o6)=>((y:Int),s)) (Ca a.1 a.2.2.2.1 f t i x) (fun y s=>s.length<=l.length+2*x+y) (J:=fun s=>PO (x:Int) g s) (F:=PQ f t (x:Int) i a g) (fun c y s e b=>?_) (fun y s e b=>?_) (fun c s _=>by
   grind[PQ]) s b).trans ?_
  ·have b:s.length<=l.length+2*x+y:=b;have j:∀v,Mh (y:Int) c v=c (((y+1:Nat):Int),v):=fun v=>gP ⟨oo,trivial⟩;have m:∀v,CB (y:Int) s f t (x:Int) i c v=c (((y+1:Nat):Int),if v=true then s++[(2*f+(x:Int),2*t+(y:Int),1,i)] else s):=fun v=>by
    cases v with
    | true=>rw[CB,if_pos rfl,if_pos rfl,RU s f t x y 1 i k h (by omega) (by omega) (by omega),gP ⟨rfl,trivial⟩,vS,lE,j]
    | false=>grind[CB]
   refine(if_pos (decide_eq_true (by omega))).trans ?_
   grind[Ca,F0j]
  ·grind[p0q]
  ·exact gP ⟨oo,trivial⟩
 grind[m0o]
theorem Rl{k s:Int}(h:(k=1/\(s=1∨s=2∨s=3))∨k=2∨k=3)(a A B i:Int)(l:List o6):fN (fun x z=>fN (Ca k s (a+A) (a+B) i x) 2 z) 2 l=fN (S7 a A B i (D4 k s)) (D4 k s).length l:=by
 rcases h with ⟨rfl,rfl | rfl | rfl⟩ | rfl | rfl <;> rfl
theorem r87(d:m7)(m:wf y53 d){l:List l6}(a:DF l d){i k:Nat}(hi:i<d.1.length)(e:k < (k6 d i).2.2.length):P3 d (i:Int) (k:Int)=some ((r5 (k6 d) i+k:Nat):Int)/\r5 (k6 d) i+k < (l9 d).length:=by
 have q:=a.len;have c:r5 (k6 d) i+k < (l9 d).length:=by
  have:=La (k6 d) hi e;unfold l9;rw[Hg]; omega
 refine⟨?_,c⟩;unfold P3;rw[CT d m a.fac.ni14 a.fac.np8 a.pin,vS,gP ⟨rfl,trivial⟩,lE];have o:∀j,j < (l9 d).length->((p9 d j).1==(i:Int)&&(p9 d j).2.1==(k:Int))=decide (j=r5 (k6 d) i+k):=fun j b=>p0U d.1.length d.2.2.length (k6 d) (s8 d) (a7 y235) hi e b;have f:=Bh (n:=(l9 d).length) (by omega) (fun j=>(p9 d j).1==(i:Int)&&(p9 d j).2.1==(k:Int)) (F:=Vp (l9 d) (i:Int) (k:Int)) (fun g j b=>by
  have h:((j:Int)).toNat=j:=rfl;refine(if_pos (by grind)).trans ?_;rw[h,gP ⟨oo,b,(fun _=>oo),(fun _=>b),trivial⟩,gP ⟨oo,trivial⟩]) (fun g=>aE)
 grind
theorem B0d{b:j1}(l:q7 b=true){t:Nat}(n:t<b.2.2.length):N0 (Q6 (p9 b.2.1) t) (l9 b.2.1).length=1:=by
 obtain⟨g,h,_⟩:=O4 l;have e:=M9 g;have c:Bg _ _ _ _ _ _ _ _ _=true:=g;unfold Bg at c;rw[ba] at c;have j:∀i,i<b.2.1.1.length->1<=(k6 b.2.1 i).2.2.length/\j3 ((k6 b.2.1 i).2.2.getD ((k6 b.2.1 i).2.2.length-1) 0) 0 ((b.2.1.2.1.length:Int)-1)=true:=fun i hi=>by
  have f:=(e.pin i hi).1;exact⟨f,e.fac.net.1 i hi _ (by omega)⟩
 obtain⟨o,k⟩:=o0w (d:=a7 y235) j (fun i hi=>e.fac.net.2 i hi) b.2.1.2.2.length (Nat.le_refl _);have a:=GX (p:=fun x=>x==1) c.2 (i:=t) (by
  grind[CR])
 have f:(CR b.2.1.1.length b.2.1.2.2.length b.2.1.2.1.length (k6 b.2.1) (s8 b.2.1)).getD t 0=1:=beq_iff_eq.1 a;have m:=k t (by omega);unfold CR at f
 grind[Hg,Int.ofNat.inj]
theorem r88(b:j1)(l:wf l5 b)(c:q7 b=true){t:Nat}(f:t<b.2.2.length):IE b.2.1 (t:Int)=some (F0 b t)/\0<=F0 b t/\(F0 b t).toNat < (l9 b.2.1).length:=by
 have a:=M9 (O4 c).1;have s:=a.len;obtain⟨i,r,m,o,h⟩:=B0c (B0d c f);have q:F0 b t=(i:Int):=h;refine⟨?_,by omega,by omega⟩;unfold IE;rw[CT b.2.1 l.2.1 a.fac.ni14 a.fac.np8 a.pin,vS,gP ⟨rfl,trivial⟩,lE];have e:=Bh (n:=(l9 b.2.1).length) (by omega) (Q6 (p9 b.2.1) t) (F:=Vk (l9 b.2.1) (t:Int)) (fun g j d=>by
  have k:((j:Int)).toNat=j:=rfl;refine(if_pos (by grind)).trans ?_;rw[k,gP ⟨oo,d,(fun _=>oo),(fun _=>d),trivial⟩,gP ⟨oo,trivial⟩];rfl) (fun g=>aE)
 grind
theorem m0m{c:l6}(h:Az B4 c=true){j:Nat}(a:j<c.2.2.2.1.length):B4 c.2.2.1.length (m8 c) (j9 c j)=true:=by
 grind[O1,B4,Fa]
theorem p0p{n:Nat}{p:Nat->I5}{a:A8}(h:B4 n p a=true)(c:a.1<=3):((a.1=1/\(a.2.2.2.1=1∨a.2.2.2.1=2∨a.2.2.2.1=3))∨a.1=2∨a.1=3)/\B9 a.2.2.2.2.1 true=true/\B9 a.2.2.2.2.2 true=true:=by
 unfold B4 at h;simp only[ba] at h;obtain⟨_,h⟩:=h;by_cases b:a.1=1
 ·rw[if_pos b] at h;simp only[ba] at h
  grind[r7]
 grind
theorem p0H{k s:Int}(h:3<k):D4 k s=[]:=by
 grind[D4]
theorem p0I{k s:Int}(h:0 < (D4 k s).length):k=1∨k=2∨k=3:=by
 grind[D4]
def Fp(b:j1)(i:Nat)(s:List o6):List o6:=s++V0 (r5 (k6 b.2.1) i) (j9 (p7 b i)) (p7 b i).2.2.2.1.length
theorem RV(b:j1):∀n,fN (Fp b) n []=(fN (Z1 b) n (0,[])).2
 | 0=>rfl
 | n+1=>by
   show Fp b n (fN (Fp b) n [])=(fN (Z1 b) n (0,[])).2++V0 (fN (Z1 b) n (0,[])).1 (j9 (p7 b n)) (p7 b n).2.2.2.1.length;have a:(fN (Z1 b) n (0,[])).1=(r5 (k6 b.2.1) n:Int):=RR (fun _=>rfl) n;rw[RV b n,a]; rfl
theorem p0L{b:j1}(c:DF b.1 b.2.1){t:Int}{k:Nat}(a:k < (q8 b.2.1 t).length):0<=(q8 b.2.1 t).getD k 0/\(q8 b.2.1 t).getD k 0<=1000:=by
 have:=KY a;have:=c.len;omega
theorem RW(b:j1)(T:wf l5 b)(t:q7 b=true):AT b=some (lV b):=by
 obtain⟨w,o,E⟩:=O4 t;have e:=M9 w;have X:=T.2.1;have aA:=e.fac.ni14;have aB:=e.fac.nn30;have aC:=e.len;unfold AT;refine(lF (n:=b.2.1.1.length) (by omega) (fun(i:Nat) (s:List o6)=>((i:Int),s)) (Fp b) (fun i s=>s.length<=32*i) (J:=Mj b) (F:=Vu b) (fun g i s hi c=>?_) (fun i s hi c=>?_) (fun g s _=>aE) [] (Nat.le_refl _)).trans ?_
 ·have c:s.length<=32*i:=c;have e3:((i:Int)).toNat=i:=rfl;obtain⟨Q,r,x3⟩:=CV e hi;obtain⟨c1,c2,c3,c4⟩:=CW r;have a:=fun k d=>r87 b.2.1 X e (i:=i) (k:=k) hi d;refine(if_pos (by grind)).trans ?_;rw[e3,gP ⟨oo,Q,trivial⟩,lE];refine(lF (n:=(p7 b i).2.2.2.1.length) (by omega) (fun(j:Nat) (z:List o6)=>((j:Int),z)) (L4 (r5 (k6 b.2.1) i) (j9 (p7 b i))) (fun j z=>z.length<=s.length+4*j) (J:=PS (i:Int) g) (F:=Vt (p7 b i) b (i:Int) g) (fun h j z x hz=>?_) (fun j z x hz=>?_) (fun h z _=>aE) s (Nat.le_refl _)).trans ?_
  ·have hz:z.length<=s.length+4*j:=hz;have u:((j:Int)).toNat=j:=rfl;obtain⟨a1,a2,a3,a4⟩:=c4 j x;have ha:=m0m r x;have W:∀v,IF (j:Int) h v=h (((j+1:Nat):Int),v):=fun v=>gP ⟨oo,trivial⟩;refine(if_pos (by grind)).trans ?_;rw[u,gP ⟨oo,trivial⟩];show(if decide ((j9 (p7 b i) j).1<=3)=true then _ else _)=h (((j+1:Nat):Int),L4 (r5 (k6 b.2.1) i) (j9 (p7 b i)) j z);by_cases d:(j9 (p7 b i) j).1<=3
   ·refine(if_pos (decide_eq_true d)).trans ?_;obtain⟨k1,k2,k3⟩:=p0p ha d;obtain⟨A,hA⟩:∃A:Nat,(j9 (p7 b i) j).2.1=(A:Int):=⟨(j9 (p7 b i) j).2.1.toNat,by omega⟩;obtain⟨B,hB⟩:∃B:Nat,(j9 (p7 b i) j).2.2.1=(B:Int):=⟨(j9 (p7 b i) j).2.2.1.toNat,by omega⟩;obtain⟨fA,lA⟩:=a A (by omega);obtain⟨fB,lB⟩:=a B (by omega);have P:=r86 (j9 (p7 b i) j) z ((r5 (k6 b.2.1) i+A:Nat):Int) ((r5 (k6 b.2.1) i+B:Nat):Int) (j:Int) (by omega) (by omega) (by omega);have V:=Rl k1 (r5 (k6 b.2.1) i:Int) (A:Int) (B:Int) (j:Int) z;rw[<- Int.natCast_add,<- Int.natCast_add] at V;rw[V] at P;show gd (ix (j:Int) (p7 b i).2.2.2.1.length/\ix (j:Int) (p7 b i).2.2.2.1.length/\(P3 b.2.1 (i:Int) (j9 (p7 b i) j).2.1).isSome=true/\ix (j:Int) (p7 b i).2.2.2.1.length/\(P3 b.2.1 (i:Int) (j9 (p7 b i) j).2.2.1).isSome=true/\(DD z (j9 (p7 b i) j) (vl (P3 b.2.1 (i:Int) (j9 (p7 b i) j).2.1)) (vl (P3 b.2.1 (i:Int) (j9 (p7 b i) j).2.2.1)) (j:Int)).isSome=true/\True) (lt (vl (DD z (j9 (p7 b i) j) (vl (P3 b.2.1 (i:Int) (j9 (p7 b i) j).2.1)) (vl (P3 b.2.1 (i:Int) (j9 (p7 b i) j).2.2.1)) (j:Int))) fun v=>IF (j:Int) h v)=_;rw[hA,hB,fA,fB,vS,vS,P,vS,gP ⟨oo,oo,rfl,oo,rfl,rfl,trivial⟩,lE,W]
    grind[L4]
   ·refine(if_neg (by grind)).trans ?_;rw[W];unfold L4;rw[p0H (by omega)];rfl
  ·grind[Ru]
  ·rw[m0i];exact gP ⟨oo,trivial⟩
 ·have c:s.length<=32*i:=c;obtain⟨Q,r,x3⟩:=CV e hi;have c3:=(CW r).2.2.1;have:=KP (r5 (k6 b.2.1) i) (j9 (p7 b i)) (p7 b i).2.2.2.1.length
  grind[Fp,List.length_append]
 ·have f:(fN (Fp b) b.2.1.1.length []).length<=500:=by
   have:=RP e b.2.1.1.length (Nat.le_refl _);rw[RV];omega
  have H:fN (Fp b) b.2.1.1.length []=Hf b:=RV b _;unfold lV;rw[H] at f ⊢;generalize Hf b=z at f ⊢;unfold Mj;rw[o];refine lF (n:=b.2.1.2.1.length) (by omega) (fun(i:Nat) (s:List o6)=>((i:Int),s)) (Y9 (F0 b) (fun i=>q8 b.2.1 i)) (fun i s=>s.length<=500+160*i) (J:=fun s=>some s) (F:=Vs b) (fun g i s hi c=>?_) (fun i s hi c=>?_) (fun g s _=>aE) z f
  ·have c:s.length<=500+160*i:=c;have q:i<b.2.2.length:=by omega
   have m:=(Z0 t q).s78;obtain⟨d1,d2,d3⟩:=r88 b T t q;have es:X2 b.2.1 (i:Int)=some (q8 b.2.1 i):=RM b.2.1 X e _;refine(if_pos (by grind)).trans ?_;rw[d1,vS,gP ⟨rfl,trivial⟩,lE,es,vS,gP ⟨rfl,trivial⟩,lE];refine(lF (n:=(q8 b.2.1 i).length) (by omega) (fun(k:Nat) (y:List o6)=>((k:Int),y)) (Ax (F0 b i) (q8 b.2.1 i)) (fun k y=>y.length=s.length+2*k) (J:=PR (i:Int) g) (F:=Vr (F0 b i) (q8 b.2.1 i) (i:Int) g) (fun Y k y d G=>?_) (fun k y d G=>?_) (fun Y y _=>aE) s rfl).trans ?_
   ·have G:y.length=s.length+2*k:=G;have u:((k:Int)).toNat=k:=rfl;have l:=p0L e d;have p1:=RU y (F0 b i) ((q8 b.2.1 i).getD k 0) 0 0 2 (k:Int) (by omega) l oo oo (by omega);have p2:=RU (y++[(2*F0 b i+0,2*(q8 b.2.1 i).getD k 0+0,2,(k:Int))]) (F0 b i) ((q8 b.2.1 i).getD k 0) 1 1 2 (k:Int) (by omega) l oo oo (by grind);refine(if_pos (by grind)).trans ?_;rw[u,p1,vS,gP ⟨oo,d,rfl,trivial⟩,lE,p2,vS,gP ⟨oo,d,rfl,trivial⟩,lE];exact gP ⟨oo,trivial⟩
   ·grind[Ry]
   ·exact gP ⟨oo,trivial⟩
  ·have c:s.length<=500+160*i:=c;have m:=(Z0 t (show i<b.2.2.length by omega)).s78;unfold Y9
   grind[Nw]
theorem S8{b:j1}(d:q7 b=true):(lV b).length<=6000:=by
 have a:=M9 (O4 d).1;have e:=a.fac.ni14;have k:=RP a b.2.1.1.length (Nat.le_refl _);have g:=o0Q (F0 b) (fun i=>q8 b.2.1 i) (Hf b) (n:=b.2.2.length) (c:=78) (fun i hi=>(Z0 d hi).s78) b.2.2.length (Nat.le_refl _);have h:=(O4 d).2.1;have f:=a.fac.nn30;have j:(Hf b).length=(fN (Z1 b) b.2.1.1.length (0,[])).2.length:=rfl
 grind[lV]
theorem s0R{b:j1}{l:o6}(h:l∈lV b):(∃i j t,i<b.2.1.1.length/\j < (p7 b i).2.2.2.1.length/\t < (D4 (j9 (p7 b i) j).1 (j9 (p7 b i) j).2.2.2.1).length/\l=Fo (r5 (k6 b.2.1) i:Int) (j9 (p7 b i) j) j t) ∨
  ∃i k t,i<b.2.2.length/\k < (q8 b.2.1 i).length/\t<2/\l=BZ (F0 b i) ((q8 b.2.1 i).getD k 0) k t:=by
 rcases l0E _ h with h | h
 ·exact .inl (j0n (fun _=>rfl) _ h)
 grind
end Go.Proofs.YtechodbafnmddaaGreatDoor
end
section
namespace Go.Proofs.Xd
open Go Go.Proofs.Xv Go.Proofs.Xl
theorem w0s{xs:List Int}(h:B8 xs=true):∀i,0<i->i<xs.length->xs.getD (i-1) 0<xs.getD i 0:=by
 simp only[B8,ba,dq] at h;intro i a hi;have:=Av.1 h.2 i hi;simp only[Bool.and_eq_false_iff,decide_eq_false_iff_not] at this;omega
theorem t0I{xs:List Int}(h:B8 xs=true):∀k i,i+k<xs.length->0<k->xs.getD i 0<xs.getD (i+k) 0:=by
 intro k
 induction k with
 | zero=>intro i _ d; omega
 | succ k c =>
   intro i hi _;have a:=w0s h (i+(k+1)) (by omega) hi;have e:i+(k+1)-1=i+k:=by omega
   rw[e] at a;by_cases b:k=0
   ·subst b; exact a
   ·have:=c i (by omega) (by omega); omega
theorem Bj{xs:List Int}(h:B8 xs=true){i j:Nat}(a:i<j)(b:j<xs.length):xs.getD i 0<xs.getD j 0:=by
 have:=t0I h (j-i) i (by omega) (by omega);have e:i+(j-i)=j:=by omega
 rwa [e] at this
theorem Lb{xs:List Int}(h:B8 xs=true){i:Nat}(hi:i<xs.length):0<=xs.getD i 0/\xs.getD i 0<=100000:=by
 simp only[B8,ba,dq] at h;have a:=h.1.2;rw[List.all_eq_true] at a;have e:xs.getD i 0=xs[i]:=by rw[gq,List.getElem?_eq_getElem hi]; rfl
 rw[e];exact r7.1 (a _ (List.getElem_mem hi))
theorem o0i{t:BT}(h:w8 t=true){i:Nat}(hi:i<t.2.2.length) : -1000000<=t.2.2.getD i 0/\t.2.2.getD i 0<=1000000:=by
 simp only[w8,ba,dq] at h;have a:=h.2;rw[List.all_eq_true] at a;have e:t.2.2.getD i 0=t.2.2[i]:=by rw[gq,List.getElem?_eq_getElem hi]; rfl
 rw[e];exact r7.1 (a _ (List.getElem_mem hi))
theorem t0J{xs:List Int}(h:B8 xs=true){x:Int}(_:xs.getD 0 0<=x)(n:x<=xs.getD (xs.length-1) 0):∃p,p<xs.length/\(∀i,i<p->xs.getD i 0<x)/\(∀i,p<=i->i<xs.length->x<=xs.getD i 0):=by
 have b:∀m,m<=xs.length->(∃p,p<m/\(∀i,i<p->xs.getD i 0<x)/\x<=xs.getD p 0)∨∀i,i<m->xs.getD i 0<x:=by
  intro m
  induction m with
  | zero=>exact fun _=>.inr fun i hi=>by omega
  | succ m j =>
    intro l;rcases j (by omega) with ⟨p,e,a,c⟩ | a
    ·exact .inl ⟨p,by omega,a,c⟩
    ·by_cases f:x<=xs.getD m 0
     ·exact .inl ⟨m,by omega,a,f⟩
     ·exact .inr fun i hi=>by
       by_cases d:i=m
       ·subst d; omega
       ·exact a i (by omega)
 have o:=Be h;rcases b xs.length (Nat.le_refl _) with ⟨p,e,a,c⟩ | a
 ·refine⟨p,e,a,fun i g hi=>?_⟩;by_cases k:p=i
  ·subst k; exact c
  ·have:=Bj h (by omega:p<i) hi; omega
 ·have:=a (xs.length-1) (by omega); omega
theorem CX{a b:Type}{F:(a->Option b)->a->Option b}{s:a}{r:Option b}(k:Nat)(c:k<=9223372036854775807)(h:∀n,D5 F (n+k) s=r):lp F s=r:=by
 have e:J0=(J0-k)+k:=by have:=NF c; omega
 unfold lp;rw[e];exact h _
theorem A0y(i j:Nat):((i:Int)+(j:Int)).fdiv ((2:Int) ^ Int.toNat (1:Int))=((((i+j) / 2:Nat)):Int):=by
 have e:(2:Int) ^ Int.toNat (1:Int)=2:=by decide
 rw[e,Int.fdiv_eq_ediv_of_nonneg _ (by omega)];omega
theorem F5{x y A B:Int}(e : -A<=x)(b:x<=A)(a:0<=y)(c:y<=B)(f:0<=A) : -(A*B)<=x*y/\x*y<=A*B:=by
 have h:x*y<=A*y:=Int.mul_le_mul_of_nonneg_right b a;have g:A*y<=A*B:=Int.mul_le_mul_of_nonneg_left c f;have d : -A*y<=x*y:=Int.mul_le_mul_of_nonneg_right e a;rw[Int.neg_mul] at d;omega
theorem NG{p q b a:Nat}(c:p<b)(e:q<a):p*a+q<b*a:=by
 have d:(p+1)*a<=b*a:=Nat.mul_le_mul_right _ c;rw[Nat.add_mul,Nat.one_mul] at d;omega
end Go.Proofs.Xd
end
section
namespace Go.Proofs.Xd
open Go Go.Proofs Go.Proofs.Xl
def m4(a b m:Int):Int:=if(decide (a.tmod b<0)&&m==0)=true then a.tdiv b-1 else if(decide (0<a.tmod b)&&m==1)=true then a.tdiv b+1 else a.tdiv b
theorem CY{a b K:Int}(m:Int)(c:0<b)(s : -(K*b)<=a)(k:a<=K*b) : -K<=m4 a b m/\m4 a b m<=K:=by
 have e:=Int.mul_tdiv_add_tmod a b;have l:=Int.tmod_lt_of_pos a c;have j:=Int.lt_tmod_of_pos a c;have n:b*K=K*b:=Int.mul_comm _ _;have g:∀q:Int,b*q<b*K+b->q<=K:=fun q h=>by
  have:b*q<b*(K+1):=by rw[Int.mul_add,Int.mul_one]; exact h
  have:=Int.lt_of_mul_lt_mul_left this (Int.le_of_lt c);omega
 have i:∀q:Int,-(b*K)-b<b*q -> -K<=q:=fun q h=>by
  have:b*(-K-1)<b*q:=by rw[Int.mul_sub,Int.mul_one,Int.mul_neg]; exact h
  have:=Int.lt_of_mul_lt_mul_left this (Int.le_of_lt c);omega
 have f:∀q:Int,b*q<b*K->q<K:=fun q h=>Int.lt_of_mul_lt_mul_left h (Int.le_of_lt c);have d:∀q:Int,-(b*K)<b*q -> -K<q:=fun q h=>by
  have:b*(-K)<b*q:=by rw[Int.mul_neg]; exact h
  exact Int.lt_of_mul_lt_mul_left this (Int.le_of_lt c)
 have r:=g (a.tdiv b) (by omega);have o:=i (a.tdiv b) (by omega);unfold m4;split
 ·rename_i h;rw[ba,dq] at h;have:=d (a.tdiv b) (by omega);omega
 ·split
  ·rename_i h;rw[ba,dq] at h;have:=f (a.tdiv b) (by omega);omega
  ·omega
theorem A0D{b h:Type}{F:(b->Option h)->b->Option h}{J:b->Option h}(d:b->Nat)(I:b->Prop)(c:b->Bool)(nx:b->b)
  (i:∀g s,I s->F g s=if c s=true then g (nx s) else J s) (m:∀s,I s->c s=true->I (nx s)/\d (nx s)<d s) (s:b) (a:I s) (u:d s<=9223372036854775806):∃s',I s'/\c s'=false/\lp F s=J s':=by
 have e:∀(n:Nat) (s:b),d s<=n->I s->∃s',I s'/\c s'=false/\∀k,D5 F (k+(n+1)) s=J s':=by
  intro n
  induction n with
  | zero =>
    intro s q a;cases hc:c s with
    | true=>have:=(m s a hc).2; omega
    | false=>exact⟨s,a,hc,fun k=>by show F (D5 F k) s=_; rw[i _ _ a,hc]; rfl⟩
  | succ n t =>
    intro s q a;cases hc:c s with
    | true =>
      obtain⟨j,l⟩:=m s a hc;obtain⟨s',f,o,r⟩:=t (nx s) (by omega) j;refine⟨s',f,o,fun k=>?_⟩;show F (D5 F (k+(n+1))) s=_;rw[i _ _ a,hc,if_pos rfl];exact r k
    | false=>exact⟨s,a,hc,fun k=>by show F (D5 F (k+(n+1))) s=_; rw[i _ _ a,hc]; rfl⟩
 obtain⟨s',j,l,f⟩:=e (d s) s (Nat.le_refl _) a;exact⟨s',j,l,CX (d s+1) (by omega) f⟩
def Z2(n r:Int):Prop:=0<=r/\r*r<=n/\n < (r+1)*(r+1)
theorem A0j{a b:Int}(c:0<=a)(h:a<=b):a*a<=b*b:=Int.mul_le_mul h h c (Int.le_trans c h)
theorem RX{a b:Int}(c:0<=a)(h:a<b):a*a<b*b:=by
 have:=Int.mul_le_mul (show a+1<=b by omega) (show a+1<=b by omega) (by omega) (by omega);have e:(a+1)*(a+1)=a*a+2*a+1:=by rw[Int.add_mul,Int.mul_add,Int.one_mul,Int.mul_one]; omega
 omega
theorem o0R{a b:Int}(c:0<=b)(h:a*a<b*b):a<b:=by
 by_cases d:a<b
 ·exact d
 ·have:=A0j c (show b<=a by omega); omega
theorem RY{l h:Int}(b:0<=l)(a:l<h):(l+h+1).tdiv 2=(l+h+1) / 2/\l < (l+h+1) / 2/\(l+h+1) / 2<=h:=by
 refine⟨Int.tdiv_eq_ediv_of_nonneg (by omega),by omega,by omega⟩
end Go.Proofs.Xd
end
section
namespace Go.Proofs.YtechodbafnmddaaGreatDoor
open Go Go.Proofs Go.Proofs.Xv Go.Proofs.Xl Go.Proofs.Xd
theorem N1(a b m:Int)(h : -1000000000000000000<=a)(j:a<=1000000000000000000)(e:0<b):Ak a b m=some (m4 a b m)/\N5 a b m=some (m4 a b m):=by
 have i:a.tdiv b<=1000000000000000000 /\ -1000000000000000000<=a.tdiv b:=by
  have k:(a.tdiv b).natAbs<=a.natAbs:=by
   rw[Int.natAbs_tdiv];exact Nat.div_le_self _ _
  omega
 have g:c7 (a.tdiv b-1)/\True:=⟨oo,trivial⟩;have f:c7 (a.tdiv b+1)/\True:=⟨oo,trivial⟩;unfold Ak N5 m4;rw[gP (V:=0<b/\0<b/\True) ⟨e,e,trivial⟩,gP (V:=0<b/\True) ⟨e,trivial⟩,gP (V:=0<b/\True) ⟨e,trivial⟩,gP g,gP f,Bool.and_comm (m==0),Bool.and_comm (m==1)];by_cases c:(decide (a.tmod b<0)&&m==0)=true
 ·rw[if_pos c,if_pos c]; exact⟨rfl,rfl⟩
 ·by_cases d:(decide (0<a.tmod b)&&m==1)=true
  ·rw[if_neg c,if_pos d,if_neg c,if_pos d]; exact⟨rfl,rfl⟩
  ·rw[if_neg c,if_neg d,if_neg c,if_neg d]; exact⟨rfl,rfl⟩
end Go.Proofs.YtechodbafnmddaaGreatDoor
end
section
namespace Go.Proofs.YtechodbafnmddaaGreatDoor
open Go Go.Proofs Go.Proofs.Sv Go.Proofs.Xv Go.Proofs.Xl Go.Proofs.Xd
theorem K0P(l:List l6)(d:m7)(b:DF l d){p:u0}(a:p∈l9 d):Dy l d p=some (CU l d p):=by
 unfold Dy CU;rcases RO b a with h | ⟨h1,h2,h3,h4,h5,h6⟩
 ·grind
 ·refine(if_neg (by grind)).trans ?_;rw[if_neg (by omega),gP ⟨oo,⟨h3,by grind⟩,⟨h5,by grind⟩,trivial⟩];rfl
theorem K0Q(xs:List Int)(h:xs.length<=1048576):LY xs=some xs:=gP ⟨oo,trivial⟩
theorem I0L(b:j1)(t:wf l5 b){i:Nat}(h:NetOk b i):U3 b (i:Int)=some (r6 b i):=by
 have y:=t.2.1;have df:=h.df;have hb:=t.2.2.1;have hi:=h.lt;have n1:=h.wf.n1;have n8:=h.wf.n8;have E:=h.sn;have hs:=h.s78;have P:=h.wf.cap;unfold U3;have W:((i:Int)).toNat=i:=rfl;have X:X2 b.2.1 (i:Int)=some (q8 b.2.1 i):=RM b.2.1 y df _;rw[gP ⟨oo,trivial⟩,lE,W,K0Q _ (by grind),vS,gP ⟨rfl,trivial⟩,lE,CT b.2.1 y df.fac.ni14 df.fac.np8 df.pin,vS,gP ⟨rfl,trivial⟩,lE,X,vS,gP ⟨rfl,trivial⟩,lE];have o:=lF (n:=(q8 b.2.1 i).length) (by omega) (fun k (s:List Int)=>((k:Int),s)) (Aw (o4 b i) (O5 b i)) (fun k v=>Low v (j5 b i).1.length (500*((j5 b i).1.length:Int)+500*(k:Int))) (J:=LZ (j5 b i)) (F:=UT b (l9 b.2.1) (q8 b.2.1 i) (j5 b i)) (fun g k v c a=>by
  have G:((k:Int)).toNat=k:=rfl;obtain⟨r,m,u,c4⟩:=h.capIn c;obtain⟨Y,x⟩:=KY c;have hv:=a.bd (by omega) (o4 b i k).toNat;have f:0<=(j5 b i).2.2.2.getD k 0:=r;have e:((j5 b i).2.2.2.getD k 0).toNat<v.length:=by rw[a.len]; exact m
  refine(if_pos (by grind)).trans ?_;rw[G,K0P b.1 b.2.1 df (NC x),vS];rw[gP ⟨oo,⟨f,by omega⟩,e,oo,c,⟨Y,by omega⟩,x,rfl,⟨by grind[o4,O5],by grind[o4,O5]⟩,⟨f,by omega⟩,e,trivial⟩,lE];exact gP ⟨oo,trivial⟩) (fun k v c a=>by
  obtain⟨r,m,u,c4⟩:=h.capIn c;have:=a.add m u;refine⟨this.len,this.pos,Int.le_trans this.sum ?_⟩;omega) (fun g s _=>aE) (j5 b i).2.2.1 (by
  have:=h.low 0 (Nat.zero_le _);exact this)
 refine o.trans ?_;have l:=(h.low _ (Nat.le_refl _)).len;have d:=h.pull 0 (Nat.zero_le _);have H:r6 b i=fN (O2 (L6 b i) (j5 b i).1.length) ((j5 b i).1.length-1) (fN (Aw (o4 b i) (O5 b i)) (q8 b.2.1 i).length (j5 b i).2.2.1):=rfl;rw[H];have q:=h.pull;generalize fN (Aw (o4 b i) (O5 b i)) (q8 b.2.1 i).length (j5 b i).2.2.1=v0 at l d q ⊢;rw[LZ,l,gP ⟨oo,trivial⟩];have e5:(((j5 b i).1.length:Int)-1,v0)=(fun(k:Nat) (s:List Int)=>(((j5 b i).1.length:Int)-1-(k:Int),s)) 0 v0:=by simp
 rw[e5];exact lF (n:=(j5 b i).1.length-1) (by omega) (fun(k:Nat) (s:List Int)=>(((j5 b i).1.length:Int)-1-(k:Int),s)) (O2 (L6 b i) (j5 b i).1.length) (fun k v=>GZ v (j5 b i).1.length k 43000) (J:=fun s=>some s) (F:=Gk (j5 b i)) (fun g k v c a=>by
  have Q:=h.wf.par ((j5 b i).1.length-1-k) (by omega) (by omega);have j:0<=(j5 b i).1.getD ((j5 b i).1.length-1-k) 0/\((j5 b i).1.getD ((j5 b i).1.length-1-k) 0).toNat < (j5 b i).1.length-1-k:=Q;have w:=a.len;have z:((j5 b i).1.length:Int)-1-(k:Int)=(((j5 b i).1.length-1-k:Nat):Int):=by omega
  have T:((((j5 b i).1.length-1-k:Nat):Int)).toNat=(j5 b i).1.length-1-k:=rfl;have b1:=a.pos ((j5 b i).1.getD ((j5 b i).1.length-1-k) 0).toNat;have b2:=a.bd ((j5 b i).1.getD ((j5 b i).1.length-1-k) 0).toNat;have b3:=a.pos ((j5 b i).1.length-1-k);have b4:=a.bd ((j5 b i).1.length-1-k);have e8:((j5 b i).1.length:Int)-1-((k+1:Nat):Int)=(((j5 b i).1.length-1-k:Nat):Int)-1:=by omega
  show Gk (j5 b i) g (((j5 b i).1.length:Int)-1-(k:Int),v)=g (((j5 b i).1.length:Int)-1-((k+1:Nat):Int),O2 (L6 b i) (j5 b i).1.length k v);rw[e8,z];refine(if_pos (decide_eq_true (by omega))).trans ?_;rw[T,gP ⟨oo,⟨j.1,by omega⟩,by omega,oo,by omega,oo,⟨j.1,by omega⟩,by omega,trivial⟩,lE];exact gP ⟨oo,trivial⟩) (fun k v c a=>Rr a c (h.wf.par _ (by omega) (by omega))) (fun g s _=>by
  have V:((j5 b i).1.length:Int)-1-(((j5 b i).1.length-1:Nat):Int)=0:=by omega
  show Gk (j5 b i) g (((j5 b i).1.length:Int)-1-(((j5 b i).1.length-1:Nat):Int),s)=some s;rw[V];have:Gk (j5 b i) g (0,s)=PF s:=by
   rw[Gk];exact if_neg (by decide)
  exact this.trans rfl) v0 d
theorem I0K(b:j1)(f:wf l5 b){i:Nat}(h:NetOk b i):AR b (i:Int)=some (s5 b i):=by
 have hi:=h.lt;have y:=f.2.2.1;have n1:=h.wf.n1;have n8:=h.wf.n8;have z:=h.wf.res;obtain⟨E,l⟩:=h.loads;have v:((i:Int)).toNat=i:=rfl;unfold AR;rw[I0L b f h,vS,gP ⟨oo,trivial⟩,lE,gP ⟨rfl,trivial⟩,lE,v];have w:((1:Int),[(0:Int)])=(fun(k:Nat) (s:List Int)=>(((k+1:Nat):Int),s)) 0 [0]:=rfl;rw[w];refine(lF (n:=(j5 b i).1.length-1) (by omega) (fun(k:Nat) (s:List Int)=>(((k+1:Nat):Int),s)) (L3 (L6 b i) (Bi b i) (fun k=>(r6 b i).getD k 0)) (fun k s=>s.length=k+1/\∀j,0<=s.getD j 0/\s.getD j 0<=1000*43000*(k:Int)) (J:=fun s=>some s) (F:=PH (j5 b i) (r6 b i)) (fun g k s t d=>?_) (fun k s t d=>?_) (fun g s d=>?_) [0] ?_)
 ·obtain⟨x,e⟩:=d;have u:=h.wf.par (k+1) (by omega) (by omega);have m:(((k+1:Nat):Int)).toNat=k+1:=rfl;have a:=h.wf.resIn (k+1) (by omega);have c:=l (k+1);have o:=KO a.1 a.2 c.1 c.2;have q:=e ((j5 b i).1.getD (k+1) 0).toNat;refine(if_pos (by grind)).trans ?_;rw[m,gP ⟨oo,⟨u.1,by omega⟩,by omega,oo,oo,by omega,oo,oo,⟨by grind,by grind⟩,trivial⟩,lE];exact gP ⟨oo,trivial⟩
 ·obtain⟨x,e⟩:=d;have a:=h.wf.resIn (k+1) (by omega);have c:=l (k+1);have o:=KO a.1 a.2 c.1 c.2
  grind[L6,L3,List.length_append,Bi,r6,Nat.lt_or_ge,Ha,Rs,List.getD_cons_zero,List.getD_cons_succ,List.getD_nil]
 ·have r:(j5 b i).1.length-1+1=(r6 b i).length:=by omega
  show PH (j5 b i) (r6 b i) g ((((j5 b i).1.length-1+1:Nat):Int),s)=some s;rw[r];exact aE
 grind
def NH(b:j1)(i:Nat)(m:Int):List Int:=fN (V2 fun k=>m4 ((s5 b i).getD (o4 b i k).toNat 0) 1000 m) (q8 b.2.1 i).length []
theorem L0j(b:j1)(e:wf l5 b){i:Nat}(h:NetOk b i)(m:Int):DC b (i:Int) m=some (NH b i m):=by
 have hi:=h.lt;have v:=e.2.2.1;have d:=h.sn;have u:=h.s78;obtain⟨l,f⟩:=h.delays;have o:((i:Int)).toNat=i:=rfl;unfold DC;rw[I0K b e h,vS,gP ⟨rfl,trivial⟩,lE];unfold NH;rw[<- d];refine lF (n:=(j5 b i).2.2.2.length) (by omega) (fun(k:Nat) (s:List Int)=>((k:Int),s)) (V2 fun k=>m4 ((s5 b i).getD (o4 b i k).toNat 0) 1000 m) (fun k s=>s.length=k) (J:=fun s=>some s) (F:=Va (s5 b i) b (i:Int) m) (fun g k s c a=>?_) (fun k s c a=>?_) (fun g s _=>?_) [] rfl
 ·have j:((k:Int)).toNat=k:=rfl;have q:0<=(b.2.2.getD i (a7 y172)).2.2.2.getD k 0/\((b.2.2.getD i (a7 y172)).2.2.2.getD k 0).toNat < (s5 b i).length:=by rw[l]; exact h.wf.snkIn k c
  have r:k < (b.2.2.getD i (a7 y172)).2.2.2.length:=c;have a:s.length=k:=a;have w:=f ((j5 b i).2.2.2.getD k 0).toNat;have t:=(N1 ((s5 b i).getD ((j5 b i).2.2.2.getD k 0).toNat 0) 1000 m (by omega) (by omega) (by decide)).2;refine(gP ⟨oo,trivial⟩).trans ?_;refine(if_pos (by grind)).trans ?_;rw[o,j,t,vS,gP ⟨oo,oo,⟨q.1,by omega⟩,by omega,rfl,⟨by grind,by grind⟩,trivial⟩,lE];exact gP ⟨oo,trivial⟩
 ·grind[V2,List.length_append]
 ·refine(gP ⟨oo,trivial⟩).trans ?_;exact aE
theorem s0e{b:j1}{i k:Nat}{m:Int}(a:k < (q8 b.2.1 i).length):(NH b i m).getD k 0=m4 ((s5 b i).getD (o4 b i k).toNat 0) 1000 m:=KQ _ 0 _ k a
theorem s0d(b:j1)(i:Nat)(m:Int):(NH b i m).length=(q8 b.2.1 i).length:=Fg _ _
end Go.Proofs.YtechodbafnmddaaGreatDoor
end
section
namespace Go.Proofs.Xd
open Go Go.Proofs Go.Proofs.Xl
def Fq(n:Int)(s:Int×Int):Int×Int:=if decide ((s.1+s.2+1).tdiv 2*(s.1+s.2+1).tdiv 2<=n)=true then((s.1+s.2+1).tdiv 2,s.2) else(s.1,(s.1+s.2+1).tdiv 2-1)
theorem s0K{F:(Int×Int->Option Int)->Int×Int->Option Int}{J:Int->Option Int}{n H:Int}(w:0<=n)(k:n < (H+1)*(H+1))(d:0<=H)(j:H<=3000000000)
  (m:∀g (s:Int×Int),0<=s.1->s.1<=s.2->s.2<=H->F g s=if decide (s.1<s.2)=true then g (Fq n s) else J s.1):∃r,Z2 n r/\r<=H/\lp F (0,H)=J r:=by
 obtain⟨f,⟨i,i2,i3,i4,i5⟩,b,u⟩:=A0D (J:=fun s:Int×Int=>J s.1) (fun s=>(s.2-s.1).toNat) (fun s=>0<=s.1/\s.1<=s.2/\s.2<=H/\s.1*s.1<=n/\n < (s.2+1)*(s.2+1)) (fun s=>decide (s.1<s.2)) (Fq n)
  (fun g s c=>m g s c.1 c.2.1 c.2.2.1) (fun s c b=>by
    obtain⟨h,x,q,t,o⟩:=c;have b:=of_decide_eq_true b;obtain⟨v,y,l⟩:=RY h b;unfold Fq;rw[v];split
    ·rename_i a;have a:=of_decide_eq_true a;exact⟨⟨by show 0<=(s.1+s.2+1) / 2; omega,l,q,a,o⟩,by show(s.2-(s.1+s.2+1) / 2).toNat < (s.2-s.1).toNat; omega⟩
    ·rename_i a;have a:n < (s.1+s.2+1) / 2*((s.1+s.2+1) / 2):=by
      rw[dq] at a;omega
     refine⟨⟨h,by show s.1<=(s.1+s.2+1) / 2-1; omega,by show(s.1+s.2+1) / 2-1<=H; omega,t,?_⟩,by show((s.1+s.2+1) / 2-1-s.1).toNat < (s.2-s.1).toNat; omega⟩;show n < ((s.1+s.2+1) / 2-1+1)*((s.1+s.2+1) / 2-1+1);rw[Int.sub_add_cancel];exact a) (0,H) ⟨Int.le_refl _,d,Int.le_refl _,by show(0:Int)*0<=n; omega,k⟩ (by show(H-0).toNat<=_; omega)
 have b:=of_decide_eq_false b;have e:f.1=f.2:=by omega
 exact⟨f.1,⟨i,i4,by rw[e]; exact i5⟩,by omega,u⟩
theorem s0j{n R Z:Int}(h:Z2 n R)(k:Z2 (4*n) Z):(Z=2*R∨Z=2*R+1)/\(R*R=n->Z=2*R/\Z*Z=4*n)/\(R*R<n->(Z=2*R/\Z*Z<4*n)∨(Z=2*R+1/\Z*Z<4*n)):=by
 obtain⟨e,l,c⟩:=h;obtain⟨o,f,j⟩:=k;have b:(2*R)*(2*R)=4*(R*R):=by rw[Int.mul_assoc,<- Int.mul_assoc R 2 R,Int.mul_comm R 2,Int.mul_assoc 2 R R]; omega
 have m:(2*R+2)*(2*R+2)=4*((R+1)*(R+1)):=by
  rw[show 2*R+2=2*(R+1) by omega,Int.mul_assoc,<- Int.mul_assoc (R+1) 2 (R+1),Int.mul_comm (R+1) 2,Int.mul_assoc 2 (R+1) (R+1)]; omega
 have g:(2*R+1)*(2*R+1)=4*(R*R)+4*R+1:=by
  rw[Int.add_mul,Int.mul_add,b]; omega
 have d:2*R<Z+1:=o0R (by omega) (by omega);have i:Z<2*R+2:=o0R (by omega) (by omega);have hz:Z=2*R∨Z=2*R+1:=by omega
 refine⟨hz,fun a=>?_,fun a=>?_⟩
 ·rcases hz with rfl | rfl
  ·exact⟨rfl,by omega⟩
  ·omega
 ·rcases hz with rfl | rfl
  ·exact .inl ⟨rfl,by omega⟩
  ·exact .inr ⟨rfl,by omega⟩
theorem Cb{a b:Int}(c:0<=a)(d:0<b):m4 a b 0=a / b:=by
 unfold m4;rw[Int.tdiv_eq_ediv_of_nonneg c,Int.tmod_eq_emod_of_nonneg c,if_neg,if_neg]
 ·simp
 ·have:=Int.emod_nonneg a (Int.ne_of_gt d);simp;omega
theorem Z3{a b:Int}(c:0<=a)(_:0<b):m4 a b 1=if 0<a % b then a / b+1 else a / b:=by
 unfold m4;rw[Int.tdiv_eq_ediv_of_nonneg c,Int.tmod_eq_emod_of_nonneg c,if_neg (by simp)];by_cases h:0<a % b
 ·rw[if_pos h,if_pos (by simp[h])]
 ·rw[if_neg h,if_neg (by simp[h])]
def J1(n m R:Int):Int:=if(m==1&&decide (R*R<n))=true then R.tdiv 500+1 else m4 R 500 m
def Cc(N m Z:Int):Int:=if(m==1&&decide (Z*Z<N))=true then Z+1 else Z
theorem u0v{n R Z m:Int}(h:Z2 n R)(k:Z2 (4*n) Z)(f:m=0∨m=1):J1 n m R=m4 (Cc (4*n) m Z) 1000 m:=by
 obtain⟨i,d,c⟩:=s0j h k;have a:=h.1;have g:=h.2.1;unfold J1 Cc;rcases f with rfl | rfl
 ·rw[if_neg (by simp),if_neg (by simp),Cb a (by decide),Cb k.1 (by decide)];omega
 ·by_cases b:R*R<n
  ·rw[if_pos (by simp[b]),Int.tdiv_eq_ediv_of_nonneg a];rcases c b with ⟨e,hz⟩ | ⟨e,hz⟩
   ·rw[if_pos (by simp[hz]),Z3 (by omega) (by decide),e];split <;> omega
   ·rw[if_pos (by simp[hz]),Z3 (by omega) (by decide),e];split <;> omega
  ·obtain⟨e,hz⟩:=d (by omega);rw[if_neg (by simp[b]),if_neg (by simp[hz]),Z3 a (by decide),Z3 k.1 (by decide),e];split <;> split <;> omega
end Go.Proofs.Xd
end
section
namespace Go.Proofs.YtechodbafnmddaaGreatDoor
open Go Go.Proofs Go.Proofs.Sv Go.Proofs.Xv Go.Proofs.Xl Go.Proofs.Xd
theorem o0h{q r:Int}(h:0<=q)(a:r=0∨r=1):(2*q+r).tdiv 2=q/\((2*q+r).tmod 2=0∨(2*q+r).tmod 2=1):=by
 grind
structure Lc(b:j1)(l:o6)(a:A8)(n:Nat):Prop where
 kind:l.2.2.1=1
 pix:ix (l.2.1.tdiv 2) (l9 b.2.1).length
 plt:(l.2.1.tdiv 2).toNat < (l9 b.2.1).length
 iix:ix (p9 b.2.1 (l.2.1.tdiv 2).toNat).1 b.2.1.1.length
 cix:ix (k6 b.2.1 (p9 b.2.1 (l.2.1.tdiv 2).toNat).1.toNat).2.1 b.1.length
 aix:ix l.2.2.2 (b.1.getD (k6 b.2.1 (p9 b.2.1 (l.2.1.tdiv 2).toNat).1.toNat).2.1.toNat (a7 y153)).2.2.2.1.length
 arc:(b.1.getD (k6 b.2.1 (p9 b.2.1 (l.2.1.tdiv 2).toNat).1.toNat).2.1.toNat (a7 y153)).2.2.2.1.getD l.2.2.2.toNat (a7 y158)=a
 net:(p9 b.2.1 (l.2.1.tdiv 2).toNat).2.2.1=(n:Int)
 nlt:n<b.2.2.length
 trs:l.2.1.tmod 2=0∨l.2.1.tmod 2=1
 del:B9 a.2.2.2.2.1 true=true
 slw:B9 a.2.2.2.2.2 true=true
structure F0H(b:j1)(l:o6)(n k:Nat):Prop where
 kind:l.2.2.1=2
 pix:ix (l.2.1.tdiv 2) (l9 b.2.1).length
 plt:(l.2.1.tdiv 2).toNat < (l9 b.2.1).length
 net:(p9 b.2.1 (l.2.1.tdiv 2).toNat).2.2.1=(n:Int)
 nlt:n<b.2.2.length
 idx:l.2.2.2=(k:Int)
 klt:k < (q8 b.2.1 n).length
theorem u0O{k s:Int}{t:Nat}(h:t < (D4 k s).length):(((D4 k s).getD t (0,0)).2=0∨((D4 k s).getD t (0,0)).2=1):=by
 grind[Nv,F4]
theorem Fs{b:j1}(H:q7 b=true){l:o6}(h:l∈lV b):(∃a n,Lc b l a n)∨∃n k,F0H b l n k:=by
 obtain⟨T,z,_⟩:=O4 H;have y:=M9 T;rcases s0R h with ⟨i,j,t,hi,E,u,rfl⟩ | ⟨i,k,t,hi,hk,u,rfl⟩
 ·obtain⟨F,x,x3⟩:=CV y hi;obtain⟨Y,V,c3,P⟩:=CW x;obtain⟨a1,a2,X,W⟩:=P j E;obtain⟨B,G⟩:∃B:Nat,(j9 (p7 b i) j).2.2.1=(B:Int):=⟨(j9 (p7 b i) j).2.2.1.toNat,by omega⟩;have f:B < (k6 b.2.1 i).2.2.length:=by omega
  have lB:r5 (k6 b.2.1) i+B < (l9 b.2.1).length:=by
   have:=La (k6 b.2.1) hi f;unfold l9;rw[Hg]; omega
  have e:=NE b.2.1.1.length b.2.1.2.2.length (k6 b.2.1) (s8 b.2.1) (a7 y235) hi f;have e:p9 b.2.1 (r5 (k6 b.2.1) i+B)=((i:Int),(B:Int),(k6 b.2.1 i).2.2.getD B 0,(B:Int)==((k6 b.2.1 i).2.2.length:Int)-1):=e;have hn:=r7.1 (y.fac.net.1 i hi B f);obtain⟨n,s⟩:∃n:Nat,(k6 b.2.1 i).2.2.getD B 0=(n:Int):=⟨((k6 b.2.1 i).2.2.getD B 0).toNat,by omega⟩;have v:(j9 (p7 b i) j).1<=3:=by have:=p0I (Nat.lt_of_le_of_lt (Nat.zero_le _) u); omega
  obtain⟨_,Q,k3⟩:=p0p (m0m x E) v;have g:=o0h (q:=((r5 (k6 b.2.1) i+B:Nat):Int)) (Int.natCast_nonneg _) (u0O u);have o:(Fo (r5 (k6 b.2.1) i:Int) (j9 (p7 b i) j) j t).2.1=2*((r5 (k6 b.2.1) i+B:Nat):Int)+((D4 (j9 (p7 b i) j).1 (j9 (p7 b i) j).2.2.2.1).getD t (0,0)).2:=by
   show 2*((r5 (k6 b.2.1) i:Int)+(j9 (p7 b i) j).2.2.1)+_=_;rw[G,Int.natCast_add]
  refine .inl ⟨j9 (p7 b i) j,n,?_⟩;have c:((Fo (r5 (k6 b.2.1) i:Int) (j9 (p7 b i) j) j t).2.1.tdiv 2)=((r5 (k6 b.2.1) i+B:Nat):Int):=by rw[o]; exact g.1
  have m:((r5 (k6 b.2.1) i+B:Nat):Int).toNat=r5 (k6 b.2.1) i+B:=rfl;refine⟨rfl,?_,?_,?_,?_,?_,?_,?_,by omega,by rw[o]; omega,Q,k3⟩
  ·rw[c]; exact oo
  ·omega
  ·rw[c,m,e]; exact⟨Int.natCast_nonneg _,by omega⟩
  ·rw[c,m,e]; exact F
  ·rw[c,m,e]; exact⟨Int.natCast_nonneg _,by show(j:Int) < ((p7 b i).2.2.2.1.length:Int); omega⟩
  ·rw[c,m,e]; rfl
  ·rw[c,m,e]; exact s
 ·obtain⟨q,w,h2,h3,_⟩:=Nu (p9 b.2.1) i (l9 b.2.1).length _ (F4 (d:=0) hk);have w:(q8 b.2.1 i).getD k 0=(q:Int):=w;have o:(BZ (F0 b i) ((q8 b.2.1 i).getD k 0) k t).2.1=2*(q:Int)+(t:Int):=by
   show 2*(q8 b.2.1 i).getD k 0+_=_;rw[w]
  have g:=o0h (q:=(q:Int)) (r:=(t:Int)) (Int.natCast_nonneg _) (by omega);have c:((BZ (F0 b i) ((q8 b.2.1 i).getD k 0) k t).2.1.tdiv 2)=(q:Int):=by rw[o]; exact g.1
  have m:((q:Int)).toNat=q:=rfl;refine .inr ⟨i,k,rfl,?_,?_,?_,hi,rfl,hk⟩
  ·rw[c]; exact oo
  ·omega
  grind
theorem Bk{l:List BT}{p:Bool}(h:B9 l p=true){x:Int}(b:x=0∨x=1):ix x l.length/\w8 (l.getD x.toNat (a7 y269))=true:=by
 unfold B9 at h;rw[ba,dq] at h;have a:x.toNat<l.length:=by omega
 refine⟨oo,?_⟩
 grind
section
variable {b:j1}
theorem Ft{l:o6}{a:A8}{n:Nat}(h:Lc b l a n):Am (l7 b) l=some a:=by
 unfold Am;refine(gP ⟨by decide,h.pix,h.iix,trivial⟩).trans ?_;rw[lE];refine(gP ⟨h.cix,h.aix,trivial⟩).trans ?_;rw[lE];exact congrArg some h.arc
theorem Q7{l:o6}{n:Nat}(c:ix (l.2.1.tdiv 2) (l9 b.2.1).length)(a:(p9 b.2.1 (l.2.1.tdiv 2).toNat).2.2.1=(n:Int)):AX (l7 b) l=some (n:Int):=by
 unfold AX;refine(gP ⟨by decide,c,trivial⟩).trans ?_;rw[lE];exact congrArg some a
theorem I0P(f:wf l5 b)(e:q7 b=true){l:o6}{a:A8}{n:Nat}(h:Lc b l a n):DA b l=some (a,(r6 b n).getD 0 0):=by
 have d:=M9 (O4 e).1;have c:=Z0 e h.nlt;have n1:=c.wf.n1;have g:=c.loads.1;unfold DA;rw[CT b.2.1 f.2.1 d.fac.ni14 d.fac.np8 d.pin,vS,gP ⟨rfl,by decide,h.pix,h.plt,trivial⟩,lE];show gd (ix (p9 b.2.1 (l.2.1.tdiv 2).toNat).1 b.2.1.1.length/\ix (k6 b.2.1 (p9 b.2.1 (l.2.1.tdiv 2).toNat).1.toNat).2.1 b.1.length/\ix l.2.2.2 (b.1.getD (k6 b.2.1 (p9 b.2.1 (l.2.1.tdiv 2).toNat).1.toNat).2.1.toNat (a7 y153)).2.2.2.1.length/\(U3 b (p9 b.2.1 (l.2.1.tdiv 2).toNat).2.2.1).isSome=true/\ix (0:Int) (vl (U3 b (p9 b.2.1 (l.2.1.tdiv 2).toNat).2.2.1)).length/\Int.toNat (0:Int) < (vl (U3 b (p9 b.2.1 (l.2.1.tdiv 2).toNat).2.2.1)).length/\True) (lt (vl (U3 b (p9 b.2.1 (l.2.1.tdiv 2).toNat).2.2.1),(b.1.getD (k6 b.2.1 (p9 b.2.1 (l.2.1.tdiv 2).toNat).1.toNat).2.1.toNat (a7 y153)).2.2.2.1.getD l.2.2.2.toNat (a7 y158)) fun x=>match x with | (v2,v3)=>some (v3,v2.getD (Int.toNat (0:Int)) (0:Int)))=_;rw[h.net,I0L b f c,vS,gP ⟨h.iix,h.cix,h.aix,rfl,⟨by decide,by omega⟩,by omega,trivial⟩,lE,h.arc];rfl
theorem I0O(c:wf l5 b)(d:q7 b=true){l:o6}{n k:Nat}(h:F0H b l n k):Ah b l=some (n:Int):=by
 have a:=M9 (O4 d).1;unfold Ah;rw[CT b.2.1 c.2.1 a.fac.ni14 a.fac.np8 a.pin,vS,gP ⟨rfl,by decide,h.pix,h.plt,trivial⟩,lE];exact congrArg some h.net
end
theorem RZ{n:Int}(e:0<=n)(k:n<=1000000000000000000):∃r,Z2 n r/\r<=3000000000/\JR n=some r:=by
 unfold JR;refine s0K (J:=fun r=>some r) (n:=n) (H:=3000000000) e (by omega) (by decide) (by decide) (fun g s a c d=>?_);obtain⟨lo,hi⟩:=s;have a:0<=lo:=a;have c:lo<=hi:=c;have d:hi<=3000000000:=d;show Qg n g (lo,hi)=if decide (lo<hi)=true then g (Fq n (lo,hi)) else some lo
 rw[Qg];by_cases b:lo<hi
 ·obtain⟨f,i,j⟩:=RY a b;have h:=F5 (A:=3000000000) (B:=3000000000) (x:=(lo+hi+1).tdiv 2) (y:=(lo+hi+1).tdiv 2) (by omega) (by omega) (by omega) (by omega) (by decide);rw[if_pos (decide_eq_true b),if_pos (decide_eq_true b),gP ⟨oo,oo,by decide,trivial⟩,gP ⟨oo,trivial⟩];unfold Fq;show(if _ then _ else _)=g (if decide ((lo+hi+1).tdiv 2*(lo+hi+1).tdiv 2<=n)=true then((lo+hi+1).tdiv 2,hi) else(lo,(lo+hi+1).tdiv 2-1));split
  ·rfl
  ·exact gP ⟨oo,trivial⟩
 ·rw[if_neg (by grind),if_neg (by grind)];rfl
theorem K0W{n m:Int}(j:0<=n)(u:n<=2000000000000000000)(_:m=0∨m=1):∃r,Z2 n r/\r<=2000000000/\AQ n m=some (Cc n m r):=by
 unfold AQ;obtain⟨r,f,b,i⟩:=s0K (J:=fun r=>Iy m n r) (F:=LW n m) (n:=n) (H:=2000000000) j (by omega) (by decide) (by decide) (fun g s a d e=>by
  obtain⟨lo,hi⟩:=s;have a:0<=lo:=a;have d:lo<=hi:=d;have e:hi<=2000000000:=e;show LW n m g (lo,hi)=if decide (lo<hi)=true then g (Fq n (lo,hi)) else Iy m n lo
  rw[LW];by_cases c:lo<hi
  ·obtain⟨l,q,t⟩:=RY a c;have o:=F5 (A:=3000000000) (B:=3000000000) (x:=(lo+hi+1).tdiv 2) (y:=(lo+hi+1).tdiv 2) (by omega) (by omega) (by omega) (by omega) (by decide);rw[if_pos (decide_eq_true c),if_pos (decide_eq_true c),gP ⟨oo,oo,by decide,trivial⟩,gP ⟨oo,trivial⟩];unfold Fq;show(if _ then _ else _)=g (if decide ((lo+hi+1).tdiv 2*(lo+hi+1).tdiv 2<=n)=true then((lo+hi+1).tdiv 2,hi) else(lo,(lo+hi+1).tdiv 2-1));split
   ·rfl
   ·exact gP ⟨oo,trivial⟩
  grind)
 refine⟨r,f,b,i.trans ?_⟩;have h:=f.1;have k:=F5 (A:=2000000000) (B:=2000000000) (x:=r) (y:=r) (by omega) (by omega) (by omega) (by omega) (by decide);rw[Iy,gP ⟨(fun _=>oo),trivial⟩];unfold Cc;split
 ·rw[gP ⟨oo,trivial⟩]; rfl
 ·rfl
theorem NI(s d:Int):500*s*500*s=250000*(s*s)/\1000000*s*s=1000000*(s*s)/\4*d*d=4*(d*d):=by
 grind
theorem H0t{s d m:Int}(h:0<=s)(X:s<=1000000)(i:0<=d)(V:d<=301000000)(f:m=0∨m=1):∃r z,N7 s d m=some r/\AQ (1000000*s*s+4*d*d) m=some z/\N5 z 1000 m=some r/\0<=r/\r<=3000000001:=by
 obtain⟨l,T,W⟩:=NI s d;have Q:=F5 (A:=1000000) (B:=1000000) (x:=s) (y:=s) (by omega) (by omega) (by omega) (by omega) (by decide);have Y:=F5 (A:=301000000) (B:=301000000) (x:=d) (y:=d) (by omega) (by omega) (by omega) (by omega) (by decide);have P:0<=s*s:=Int.mul_nonneg h h;have G:0<=d*d:=Int.mul_nonneg i i;obtain⟨R,g,H,F⟩:=RZ (n:=250000*(s*s)+d*d) (by omega) (by omega);obtain⟨Z,j,q,v⟩:=K0W (n:=4*(250000*(s*s)+d*d)) (m:=m) (by omega) (by omega) f;have c:=g.1;have t:=j.1;have o:=u0v g j f;have u:1000000*s*s+4*d*d=4*(250000*(s*s)+d*d):=by omega
 have w:0<=Cc (4*(250000*(s*s)+d*d)) m Z/\Cc (4*(250000*(s*s)+d*d)) m Z<=3000000000:=by
  unfold Cc;split <;> omega
 have E:=CY (a:=Cc (4*(250000*(s*s)+d*d)) m Z) (b:=1000) (K:=3000000) m (by decide) (by omega) (by omega);have k:=F5 (A:=3000000000) (B:=3000000000) (x:=R) (y:=R) (by omega) (by omega) (by omega) (by omega) (by decide);have e:0<=J1 (250000*(s*s)+d*d) m R:=by
  unfold J1;rcases f with rfl | rfl
  ·rw[if_neg (by simp),Cb c (by decide)]; omega
  ·split
   ·rw[Int.tdiv_eq_ediv_of_nonneg c]; omega
   ·rw[Z3 c (by decide)]; split <;> omega
 refine⟨J1 (250000*(s*s)+d*d) m R,Cc (4*(250000*(s*s)+d*d)) m Z,?_,by rw[u]; exact v,?_,e,by omega⟩
 ·unfold N7;rw[l,F,vS,gP ⟨oo,oo,oo,oo,oo,trivial⟩,gP ⟨rfl,trivial⟩,lE,gP ⟨(fun _=>oo),trivial⟩];unfold J1;split
  ·have:R.tdiv 500=R / 500:=Int.tdiv_eq_ediv_of_nonneg c;exact gP ⟨by decide,oo,trivial⟩
  ·rw[(N1 R 500 m (by omega) (by omega) (by decide)).1,vS,gP ⟨rfl,trivial⟩,lE]
 ·rw[o];exact(N1 _ 1000 m (by omega) (by omega) (by decide)).2
end Go.Proofs.YtechodbafnmddaaGreatDoor
end
section
namespace Go.Proofs.YtechodbafnmddaaGreatDoor
open Go Go.Proofs Go.Proofs.Xv Go.Proofs.Xl Go.Proofs.Xd
theorem K0J(a b:Int):JS a b=some (decide (a<b)):=by
 unfold JS;have e:∀a,DL a=some (a != a):=fun _=>rfl;rw[e,e,gP ⟨rfl,fun _=>rfl,trivial⟩,vS,vS];simp
theorem Ld{xs:List Int}{x:Int}(y:xs.length<=4611686018427387903){p:Nat}(t:p<xs.length)(u:∀i,i<p->xs.getD i 0<x)(s:∀i,p<=i->i<xs.length->x<=xs.getD i 0):JU xs x=some ((p:Int),xs.getD p 0==x):=by
 have k:∀(m i j:Nat),i<=p->p<=j->j<=xs.length->j-i<m->D5 (JT xs x) m ((i:Int),(j:Int))=some ((p:Int),xs.getD p 0==x):=by
  intro m
  induction m with
  | zero=>intro i j _ _ _ h; omega
  | succ m q =>
    intro i j hi v g w;show JT xs x (D5 (JT xs x) m) ((i:Int),(j:Int))=_;rw[JT];by_cases d:i<j
    ·have f:(i+j) / 2<xs.length:=by omega
     have l:((((i+j) / 2:Nat)):Int).toNat=(i+j) / 2:=rfl;rw[if_pos (by simpa using d),A0y,gP ⟨oo,oo,⟨⟨by decide,by decide⟩,by omega,by omega⟩,oo,trivial⟩,l,K0J,gP ⟨oo,rfl,trivial⟩,vS];by_cases o:xs.getD ((i+j) / 2) 0<x
     ·rw[if_pos (by simpa using o),gP ⟨oo,trivial⟩];have c:(i+j) / 2<p:=by
       apply Nat.lt_of_not_le;intro b;have:=s _ b f; omega
      have:=q ((i+j) / 2+1) j (by omega) v g (by omega);simpa using this
     ·rw[if_neg (by simpa using o)];have c:p<=(i+j) / 2:=by
       apply Nat.le_of_not_lt;intro b;have:=u _ b; omega
      exact q i ((i+j) / 2) hi c (by omega) (by omega)
    ·have e:i=p:=by omega
     subst e;rw[if_neg (by simpa using d),Qh];have l:((i:Int)).toNat=i:=rfl;have r:decide ((i:Int) < (xs.length:Int))=true:=by simpa using t
     have n:∀a,DK a=some (a != a):=fun _=>rfl;rw[l,r,n,n,gP ⟨fun _=>oo,fun _=>oo,fun _=>rfl,fun _=>rfl,trivial⟩,vS,vS];simp
 unfold JU;have:=k J0 0 xs.length (by omega) (by omega) (Nat.le_refl _) (by simp only[J0]; omega);exact this
def r8(xs:List Int)(x:Int):Int:=min (max x (xs.getD 0 0)) (xs.getD (xs.length-1) 0)
theorem K0U{xs:List Int}(x:Int)(h:B8 xs=true):∃(p:Nat) (a b:Int),p<xs.length/\BH xs x=some ((p:Int),a,b) /\
  ((a=1/\b=0/\J3 xs x=some ([((p:Int),1)],1)) ∨
    (p+1<xs.length/\0<a/\0<b/\a+b<=100000/\J3 xs x=some ([((p:Int),a),((p:Int)+1,b)],a+b))):=by
 obtain⟨l1,l4⟩:=Be h;have o:((xs.length:Int)-1).toNat=xs.length-1:=by omega
 have X:xs.getD 0 0<=r8 xs x:=by
  have:xs.getD 0 0<=xs.getD (xs.length-1) 0:=by
   by_cases l:xs.length=1
   ·rw[l]; exact Int.le_refl _
   ·have:=Bj h (by omega:0<xs.length-1) (by omega); omega
  unfold r8; omega
 have Q:r8 xs x<=xs.getD (xs.length-1) 0:=by unfold r8; omega
 obtain⟨p,d,v,z⟩:=t0J h X Q;have c:∀(q:Nat) (r:Option (Int×Int×Int)),(∀g,BG xs (r8 xs x) g (q:Int)=r)->(∀i,q<i->i<xs.length->r8 xs x<xs.getD i 0)->q<xs.length->lp (BG xs (r8 xs x)) ((xs.length:Int)-1)=r:=by
  intro q r y e f;have w:∀(m k:Nat),q+k<xs.length->k<m->D5 (BG xs (r8 xs x)) m ((q+k:Nat):Int)=r:=by
   intro m
   induction m with
   | zero=>intro k _ h; omega
   | succ m P =>
     intro k G hm;show BG xs (r8 xs x) (D5 (BG xs (r8 xs x)) m) ((q+k:Nat):Int)=r;by_cases t:k=0
     ·subst t; exact y _
     ·have hg:=e (q+k) (by omega) G;have j:(((q+k:Nat):Int)).toNat=q+k:=rfl;have E:¬(r8 xs x=xs.getD (q+k) 0):=by omega
      have F:¬(xs.getD (q+k) 0<r8 xs x):=by omega
      rw[BG,if_pos (by simp; omega),gP ⟨oo,trivial⟩,j,if_neg (by simpa using E),gP ⟨oo,trivial⟩,if_neg (by simpa using F),gP ⟨oo,trivial⟩];have T:(((q+k:Nat):Int))-1=((q+(k-1):Nat):Int):=by omega
      rw[T];exact P (k-1) (by omega) (by omega)
  have:=w J0 (xs.length-1-q) (by omega) (by simp only[J0]; omega);have W:((q+(xs.length-1-q):Nat):Int)=(xs.length:Int)-1:=by omega
  rw[W] at this;exact this
 have j:∀n:Nat,((n:Int)).toNat=n:=fun _=>rfl;by_cases u:xs.getD p 0=r8 xs x
 ·refine⟨p,1,0,d,?_,.inl ⟨rfl,rfl,?_⟩⟩
  ·unfold BH;rw[gP ⟨oo,trivial⟩,gP ⟨oo,oo,trivial⟩,o];change lt (r8 xs x) _=_;rw[lE,gP ⟨oo,trivial⟩];refine c p _ (fun g=>?_) (fun i hi l=>?_) d
   ·rw[BG,if_pos (by simp),gP ⟨oo,trivial⟩,j,if_pos (by simpa using u.symm)]
   ·have:=Bj h hi l; omega
  ·unfold J3;rw[gP ⟨oo,oo,oo,trivial⟩,o];change lt (r8 xs x) _=_;rw[lE,Ld (by omega) d v z,gP ⟨rfl,trivial⟩,vS,lE,if_pos (by simpa using u)]
 ·have e:r8 xs x<xs.getD p 0:=by have:=z p (Nat.le_refl _) d; omega
  have H:0<p:=by
   apply Nat.pos_of_ne_zero;intro t; subst t; omega
  obtain⟨q,rfl⟩:∃q,p=q+1:=⟨p-1,by omega⟩;have f:=v q (by omega);have b1:=Lb h d;have Y:=Lb h (by omega:q<xs.length);refine⟨q,xs.getD (q+1) 0-r8 xs x,r8 xs x-xs.getD q 0,by omega,?_,.inr ⟨d,by omega,by omega,by omega,?_⟩⟩
  ·unfold BH;rw[gP ⟨oo,trivial⟩,gP ⟨oo,oo,trivial⟩,o];change lt (r8 xs x) _=_;rw[lE,gP ⟨oo,trivial⟩];refine c q _ (fun g=>?_) (fun i hi l=>?_) (by omega)
   ·have s:((q:Int)+1).toNat=q+1:=by omega
    have E:¬(r8 xs x=xs.getD q 0):=by omega
    rw[BG,if_pos (by simp),gP ⟨oo,trivial⟩,j,if_neg (by simpa using E),gP ⟨oo,trivial⟩,if_pos (by simpa using f),s,gP ⟨oo,oo,oo,oo,oo,trivial⟩]
   ·by_cases y:i=q+1
    ·subst y; exact e
    ·have:=Bj h (by omega:q+1<i) l; omega
  ·have s:(((q+1:Nat):Int)-1).toNat=q:=by omega
   have V:((q+1:Nat):Int)-1=(q:Int):=by omega
   unfold J3;rw[gP ⟨oo,oo,oo,trivial⟩,o];change lt (r8 xs x) _=_;rw[lE,Ld (by omega) d v z,gP ⟨rfl,trivial⟩,vS,lE,if_neg (by simpa using u),s,j,gP ⟨oo,oo,oo,oo,oo,oo,oo,oo,oo,oo,trivial⟩,lE,V];congr 2;omega
end Go.Proofs.YtechodbafnmddaaGreatDoor
end

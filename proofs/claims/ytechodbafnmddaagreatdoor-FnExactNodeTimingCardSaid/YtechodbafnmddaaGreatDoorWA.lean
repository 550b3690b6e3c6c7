/- Plain words on names: no program in sight. -/
import Derived.Test.YtechodbafnmddaaGreatDoorXA
import Derived.Lib.SlTrimSet
import Derived.Lib.Bytealg
import Derived.Test.YtechodbafnmddaaGreatDoorXF
import Derived.Test.YtechodbafnmddaaGreatDoorF92c
import Derived.Test.YtechodbafnmddaaGreatDoorG92
set_option maxHeartbeats 0
section
namespace Go.Proofs.Sv
open Go
def Z7(c:Int):Bool:=decide (c≥97)&&decide (c<=122)
def Hi(c:Int):Bool:=decide (c≥48)&&decide (c<=57)
def Dg(c:Int)(i:Nat):Bool:=Z7 c||(Hi c&&decide (0<i))
def Z8(s:ByteArray):Nat->Bool
 | 0=>true
 | k+1=>Z8 s k&&Dg (B3 s k) k
def D5(s:ByteArray):Bool:=Z8 s s.size&&decide ((s.size:Int)≥1)&&decide ((s.size:Int)<=8)
theorem s0Y(s:ByteArray)(k:Nat):∀j,k<=j->Z8 s j=true->Z8 s k=true:=by
 intro j c h
 induction j with
 | zero=>have:k=0:=by omega
         subst this; rfl
 | succ j a =>
   by_cases b:k=j+1
   ·subst b; exact h
   ·simp only[Z8,ba] at h;exact a (by omega) h.1
def low26:List UInt8:=[97,98,99,100,101,102,103,104,105,106,107,108,109,110,111,112,113,114,115,116,117,118,119,120,121,122]
def low36:List UInt8:=[97,98,99,100,101,102,103,104,105,106,107,108,109,110,111,112,113,114,115,116,117,118,119,120,121,122,48,49,50,51,52,53,54,55,56,57]
theorem t0m:∀n:Fin 256,low26.contains (UInt8.ofNat n.val)=Z7 (n.val:Int):=by decide +kernel
theorem t0k:∀n:Fin 256,low36.contains (UInt8.ofNat n.val)=(Z7 (n.val:Int)||Hi (n.val:Int)):=by decide +kernel
theorem t0l(b:UInt8):low26.contains b=Z7 (b.toNat:Int):=by
 have:=t0m ⟨b.toNat,b.toNat_lt⟩;simpa using this
theorem l0T(b:UInt8):low36.contains b=(Z7 (b.toNat:Int)||Hi (b.toNat:Int)):=by
 have:=t0k ⟨b.toNat,b.toNat_lt⟩;simpa using this
theorem f0l(c:UInt8):∀l:List UInt8,decide (0<=Lib.indexByte l c)=l.contains c
 | []=>by simp[Lib.indexByte]
 | b :: l=>by
   have g:=f0l c l;have i:=Lib.indexByte_ge l c;unfold Lib.indexByte;by_cases d:b=c
   ·subst d; simp
   ·have a:¬c=b:=fun h=>d h.symm;have f:(b==c)=false:=by simpa using d
    rw[f,List.contains_cons,show(c==b)=false by simpa using a,<- g];by_cases e:Lib.indexByte l c = -1
    ·simp[e]
    ·have:(Lib.indexByte l c == -1)=false:=by simpa using e
     rw[this];simp only[Bool.false_eq_true,if_false,Bool.false_or];rw[Bool.eq_iff_iff]; simp only[dq]; omega
theorem f0q{a:Type}(p:a->Bool):∀l:List a,l.dropWhile p=[]↔∀x∈l,p x=true
 | []=>by simp
 | x :: r=>by
   rw[List.dropWhile_cons];by_cases h:p x=true
   ·simp[h,f0q p r]
   ·simp[h]
theorem f0d{b:Type}(p:b->Bool)(x:b):∀l:List b,x∈l.takeWhile p->p x=true
 | [],h=>by cases h
 | y :: r,h=>by
   rw[List.takeWhile_cons] at h;by_cases a:p y=true
   ·rw[if_pos a] at h;rcases List.mem_cons.1 h with rfl | h
    ·exact a
    ·exact f0d p x r h
   ·rw[if_neg a] at h; cases h
theorem s0i(l cs:List UInt8):Lib.trimS l cs=[]↔∀b∈l,cs.contains b=true:=by
 unfold Lib.trimS Lib.trimLeftS Lib.trimRightS;rw[f0q];constructor
 ·intro h b a;have e:l=(l.reverse.dropWhile (cs.contains ·)).reverse++(l.reverse.takeWhile (cs.contains ·)).reverse:=by
   rw[<- List.reverse_append,List.takeWhile_append_dropWhile,List.reverse_reverse]
  rw[e] at a;rcases List.mem_append.1 a with a | a
  ·exact h b a
  ·have:=List.mem_reverse.1 a;exact f0d (cs.contains ·) b _ this
 ·intro h b a;exact h b (by have:=(List.dropWhile_sublist _).mem (List.mem_reverse.1 a); exact List.mem_reverse.1 this)
theorem p0c(s:ByteArray)(d:Z7 (B3 s 0)=true):∀k,k<=s.size->(Z8 s k=true↔∀i,i<k->(Z7 (B3 s i)||Hi (B3 s i))=true)
 | 0,_=>by simp[Z8]
 | k+1,hk=>by
   have f:=p0c s d k (by omega);simp only[Z8,ba,f];constructor
   ·rintro⟨g,a⟩ i hi;by_cases b:i=k
    ·subst b;unfold Dg at a;cases hl:Z7 (B3 s i) with
     | true=>simp
     | false=>rw[hl] at a; simp only[Bool.false_or,ba] at a; simp[a.1]
    ·exact g i (by omega)
   ·intro h;refine⟨fun i hi=>h i (by omega),?_⟩;have:=h k (by omega);unfold Dg;by_cases c:k=0
    ·subst c; simp[d]
    ·have e:decide (0<k)=true:=by simp; omega
     rw[e]; simpa using this
theorem v0f(s:ByteArray):Lib.trimS s.data.toList low36=[]↔∀i,i<s.size->(Z7 (B3 s i)||Hi (B3 s i))=true:=by
 rw[s0i];have c:s.data.toList.length=s.size:=by simp
 constructor
 ·intro h i hi;have a:i<s.data.toList.length:=by rw[c]; exact hi
  have:=h s.data.toList[i] (List.getElem_mem a);rw[l0T] at this;unfold B3;rw[gq,List.getElem?_eq_getElem a];exact this
 ·intro h b d;obtain⟨i,hi,rfl⟩:=List.getElem_of_mem d;have:=h i (by rw[<- c]; exact hi);unfold B3 at this;rw[gq,List.getElem?_eq_getElem hi] at this;rw[l0T]; exact this
theorem v0Z(s:ByteArray)(c:1<=s.size)(e:s.size<=8):D5 s=((Lib.trimS s.data.toList low36==[])&&decide (0<=Lib.indexByte low26 (B3 s 0).toNat.toUInt8)):=by
 have b:(B3 s 0).toNat.toUInt8=s.data.toList.getD 0 0:=by unfold B3; simp
 rw[b,f0l,t0l];show D5 s=(_&&Z7 (B3 s 0));have a:decide ((s.size:Int)≥1)=true:=by simp; omega
 have d:decide ((s.size:Int)<=8)=true:=by simp; omega
 unfold D5;rw[a,d,Bool.and_true,Bool.and_true];cases h0:Z7 (B3 s 0) with
 | false =>
   rw[Bool.and_false];cases hn:Z8 s s.size with
   | false=>rfl
   | true =>
     have:=s0Y s 1 s.size c hn;simp[Z8,Dg,h0] at this
 | true =>
   rw[Bool.and_true,Bool.eq_iff_iff,p0c s h0 s.size (Nat.le_refl _),beq_iff_eq,v0f]
end Go.Proofs.Sv
end
section
namespace Go.Proofs.Xd
open Go Go.Proofs.Xv Go.Proofs.Xl
abbrev Cj:=List Int×List Int×List Int
abbrev A7:=Int×Int×Int×Int×List Cj×List Cj
abbrev I8:=ByteArray×Int×Int×Bool
abbrev A8:=ByteArray×Int×List Int
abbrev I9:=ByteArray×Int×Int
abbrev RS:=List Int×List Int×List Int×List Int
def j3(x l h:Int):Bool:=decide (l<=x)&&decide (x<=h)
theorem r6{x l h:Int}:j3 x l h=true↔l<=x/\x<=h:=by simp[j3]
def Ck(xs:List Int):Bool:=!(List.range xs.length).any fun i=>decide (0<i)&&decide (xs.getD i 0<=xs.getD (i-1) 0)
def C0(xs:List Int):Bool:=decide (1<=xs.length)&&decide (xs.length<=4)&&xs.all (j3 · 0 100000)&&Ck xs
def x4(t:Cj):Bool:=C0 t.1&&C0 t.2.1&&decide (t.2.2.length=t.1.length*t.2.1.length)&&t.2.2.all (j3 · (-1000000) 1000000)
theorem Bu{xs:List Int}(h:C0 xs=true):1<=xs.length/\xs.length<=4:=by
 simp only[C0,ba,dq] at h;exact⟨h.1.1.1,h.1.1.2⟩
theorem Dh{t:Cj}(h:x4 t=true):1<=t.1.length/\t.1.length<=4/\1<=t.2.1.length/\t.2.1.length<=4/\t.2.2.length=t.1.length*t.2.1.length/\1<=t.2.2.length/\t.2.2.length<=16:=by
 simp only[x4,ba,dq] at h;obtain⟨⟨⟨g,e⟩,f⟩,_⟩:=h;obtain⟨c,d⟩:=Bu g;obtain⟨b,a⟩:=Bu e;have j:1*1<=t.1.length*t.2.1.length:=Nat.mul_le_mul c b;have i:t.1.length*t.2.1.length<=4*4:=Nat.mul_le_mul d a;exact⟨c,d,b,a,f,by omega,by omega⟩
def W5(xs:List Int):Int:=fN (fun i m=>min m (xs.getD (i+1) 0)) (xs.length-1) (xs.getD 0 0)
def C1(l:List Cj)(p:Bool):Bool:=decide (l.length=2)&&l.all fun t=>x4 t&&!(p&&decide (W5 t.2.2<0))
theorem Z9{b:Type}(l:List b)(p:b->Bool):(!l.any fun x=>!p x)=l.all p:=by
 induction l with
 | nil=>rfl
 | cons a r c=>simp only[List.any_cons,List.all_cons,Bool.not_or,Bool.not_not,c]
end Go.Proofs.Xd
end
section
namespace Go.Proofs.Xd
open Go Go.Proofs.Sv Go.Proofs.Xv Go.Proofs.Xl
theorem p0b(s:ByteArray):∀n,Z8 s n=!(List.range n).any fun i=>!Dg (B3 s i) i
 | 0=>rfl
 | n+1=>by
   rw[Z8,p0b s n,List.range_succ,List.any_append,Bool.not_or];simp
def K1(f:Nat->ByteArray)(i:Nat):Bool:=(List.range i).any fun k=>decide (f k=f i)
def x6(n:Nat)(f:Nat->ByteArray):Bool:=!(List.range n).any fun i=>!D5 (f i)||K1 f i
theorem l0Q{n:Nat}{f g:Nat->ByteArray}(h:∀i,i<n->f i=g i):x6 n f=x6 n g:=by
 unfold x6;congr 1;refine Lm fun i hi=>?_;rw[h i hi];congr 1;unfold K1;refine Lm fun k a=>?_;rw[h i hi,h k (by omega)]
theorem v0l(l:List ByteArray)(d:ByteArray)(i:Nat)(h:i<l.length):((l.take i).any fun y=>decide (l.getD i d=y))=K1 (fun k=>l.getD k d) i:=by
 have a:(l.take i).length=i:=by rw[List.length_take]; omega
 rw[<- N0 (l.take i) d (fun y=>decide (l.getD i d=y)),a];unfold K1;refine Lm fun k b=>?_;have:(l.take i).getD k d=l.getD k d:=by
  rw[gq,gq,List.getElem?_take_of_lt b]
 rw[this,decide_eq_decide];exact eq_comm
theorem t0B{a b:Type}(f:a->b)(l:List a)(i:Nat)(d:a)(e:b)(h:i<l.length):(l.map f).getD i e=f (l.getD i d):=by
 rw[gq,gq,List.getElem?_map,List.getElem?_eq_getElem h]; rfl
theorem s0K{a b:Type}(l:List a)(d:a)(f:a->b):(List.range l.length).map (fun i=>f (l.getD i d))=l.map f:=by
 apply List.ext_getElem?;intro i;rw[List.getElem?_map,List.getElem?_map];by_cases h:i<l.length
 ·rw[List.getElem?_range h,List.getElem?_eq_getElem h];show some (f (l.getD i d))=some (f l[i]);rw[gq,List.getElem?_eq_getElem h]; rfl
 ·rw[List.getElem?_eq_none (by simpa using h),List.getElem?_eq_none (by omega)]; rfl
def AJ(n:Nat)(q:I8)(i:Nat):Bool:=j3 q.2.2.1 0 500&&(if i+1=n then q.2.1==2&&q.2.2.1==0&&!q.2.2.2 else q.2.1==1)
def W6(n:Nat)(p:Nat->I8):Bool:=decide (2<=n)&&decide (n<=5)&&x6 n (fun i=>(p i).1)&&!(List.range n).any fun i=>!AJ n (p i) i
def D1(n:Nat)(p:Nat->I8):Int:=fN (fun i s=>if(p i).2.2.2=true then s+1 else s) n 0
def Di(n:Nat)(p:Nat->I8):Int:=match(List.range n).find? (fun i=>(p i).2.2.2) with | some i=>(i:Int) | none => -1
def Hj(a:Nat->A7)(i:Nat):Bool:=(List.range i).any fun k=>(a k).1==(a i).1&&(a k).2.1==(a i).2.1&&(a k).2.2.1==(a i).2.2.1
def B5(n:Nat)(p:Nat->I8)(a:A7):Bool :=
 j3 a.2.1 0 ((n:Int)-1-1)&&j3 a.2.2.1 0 ((n:Int)-1) &&
 if a.1=1 then !(p a.2.1.toNat).2.2.2&&a.2.2.1==(n:Int)-1&&j3 a.2.2.2.1 1 3&&C1 a.2.2.2.2.1 true&&C1 a.2.2.2.2.2 true
 else if a.1=2∨a.1=3 then(p a.2.1.toNat).2.2.2&&a.2.2.1==(n:Int)-1&&a.2.2.2.1==0&&C1 a.2.2.2.2.1 true&&C1 a.2.2.2.2.2 true
 else if a.1=4∨a.1=5 then(p a.2.1.toNat).2.2.2&&decide (a.2.2.1 < (n:Int)-1)&&!(p a.2.2.1.toNat).2.2.2&&a.2.2.2.1==0&&C1 a.2.2.2.2.1 false&&(a.2.2.2.2.2.length:Int)==0
 else false
def Cm(n:Nat)(p:Nat->I8)(a:A7):Bool :=
 if a.1=4∨a.1=5 then a.2.2.2.1==0&&(a.2.2.2.2.2.length:Int)==0&&C1 a.2.2.2.2.1 false&&a.2.1==Di n p&&decide (0<=a.2.1)&&j3 a.2.2.1 0 ((n:Int)-1-1)&&a.2.2.1 != a.2.1
 else C1 a.2.2.2.2.1 true&&C1 a.2.2.2.2.2 true&&a.2.2.1==(n:Int)-1&&j3 a.2.1 0 ((n:Int)-1-1) &&
  if a.1=1 then !(p a.2.1.toNat).2.2.2&&j3 a.2.2.2.1 1 3
  else if a.1=2∨a.1=3 then(p a.2.1.toNat).2.2.2&&a.2.2.2.1==0
  else false
theorem t0W(p:Nat->I8):∀n,0<=D1 n p/\D1 n p<=n
 | 0=>⟨Int.le_refl _,Int.le_refl _⟩
 | n+1=>by
   have:=t0W p n
   grind[D1,fN]
theorem p0y{p:Nat->I8}:∀{n i:Nat},i<n->(p i).2.2.2=true->1<=D1 n p
 | n+1,i,hi,h=>by
   have c:=(t0W p n).1;have b:i<n->1<=D1 n p:=fun a=>p0y a h;unfold D1 at *
   rw[fN]
   grind
theorem p0x{p:Nat->I8}:∀{n i j:Nat},i<j->j<n->(p i).2.2.2=true->(p j).2.2.2=true->2<=D1 n p
 | n+1,i,j,hij,hj,h,k=>by
   have c:j<n->2<=D1 n p:=fun a=>p0x hij a h k;have b:i<n->1<=D1 n p:=fun a=>p0y a h;unfold D1 at *
   rw[fN]
   grind
theorem B0O{p:Nat->I8}{n i:Nat}(f:D1 n p<=1)(hi:i<n):(p i).2.2.2=decide (Di n p=(i:Int)):=by
 unfold Di;cases h:(List.range n).find? (fun i=>(p i).2.2.2) with
 | none =>
   grind
 | some j =>
   have c:=List.find?_some h;have d:=List.mem_range.1 (List.mem_of_find?_eq_some h);show _=decide ((j:Int)=(i:Int));by_cases e:j=i
   ·grind
   ·rw[decide_eq_false (by omega),<- Bool.not_eq_true];intro b;rcases Nat.lt_or_gt_of_ne e with a | a
    ·have:=p0x (p:=p) a hi c b; omega
    simp_all
theorem B0N{p:Nat->I8}{n:Nat}:Di n p<n:=by
 grind[Di,List.range,List.mem_of_find?_eq_some]
theorem Hk{p:Nat->I8}{n:Nat}(h:W6 n p=true):2<=n/\n<=5/\(p (n-1)).2.2.2=false:=by
 grind[W6,AJ]
theorem RU{p:Nat->I8}{n:Nat}(h:W6 n p=true)(k:D1 n p<=1)(a:A7):Cm n p a=B5 n p a:=by
 obtain⟨m,r,j⟩:=Hk h;obtain⟨b,o,t,l,de,q⟩:=a;rw[Bool.eq_iff_iff];unfold Cm B5;dsimp only;have d:∀x:Int,0<=x->x<=(n:Int)-1->(p x.toNat).2.2.2=decide (Di n p=x):=fun x s u=>by
  rw[B0O k (by omega)];rw[decide_eq_decide]; omega
 have f:Di n p≠(n:Int)-1:=fun e=>by
  have:=d ((n:Int)-1) (by omega) (by omega);have i:((n:Int)-1).toNat=n-1:=by omega
  rw[i,j,decide_eq_true e] at this;cases this
 have g:=B0N (p:=p) (n:=n);by_cases Bn:b=4∨b=5
 ·rw[if_pos Bn,if_neg (by omega),if_neg (by omega),if_pos Bn];simp only[ba,r6,dq,beq_iff_eq,bne_iff_ne,Bool.not_eq_true']
  grind
 ·rw[if_neg Bn];by_cases c:b=1
  ·rw[if_pos c,if_pos c];simp only[ba,r6,beq_iff_eq]
   grind
  ·rw[if_neg c,if_neg c];by_cases NP:b=2∨b=3
   ·rw[if_pos NP,if_pos NP];simp only[ba,r6,beq_iff_eq]
    grind
   grind
def B6(m:Nat)(a:Nat->A7)(k:Int):Bool:=(List.range m).any fun i=>(a i).1==k
def Hl(k:Int)(n:Nat)(p:Nat->I8)(m:Nat)(a:Nat->A7)(tr:List Int):Bool :=
 if k=1 then D1 n p==0&&(tr.length:Int)==1*2 ^ (n-1)&&tr.all (j3 · 0 1)
 else if k=2 then D1 n p==1&&(tr.length:Int)==0&&!B6 m a 1&&!(B6 m a 2==B6 m a 3)
 else if k=3 then D1 n p==1&&(tr.length:Int)==0&&B6 m a 1&&B6 m a 2&&!B6 m a 3
 else false
theorem w0h{k:Int}{n:Nat}{p:Nat->I8}{m:Nat}{a:Nat->A7}{b:List Int}(h:Hl k n p m a b=true):D1 n p<=1:=by
 grind[Hl]
def Ft(q:A7->Bool)(m:Nat)(a:Nat->A7):Bool:=decide (m<=8)&&!(List.range m).any fun i=>!q (a i)||Hj a i
def O9(q:Nat->(Nat->I8)->A7->Bool)(nm:ByteArray)(k:Int)(n:Nat)(p:Nat->I8)(m:Nat)(a:Nat->A7)(tr:List Int)(lk en:Int):Bool :=
 D5 nm&&W6 n p&&Ft (q n p) m a&&j3 lk 0 100000&&j3 en 0 100000&&Hl k n p m a tr
theorem B0P(c:ByteArray)(k:Int)(n:Nat)(p:Nat->I8)(m:Nat)(a:Nat->A7)(b:List Int)(lk d:Int):O9 Cm c k n p m a b lk d=O9 B5 c k n p m a b lk d:=by
 unfold O9;cases hp:W6 n p with
 | false=>simp
 | true =>
   cases hk:Hl k n p m a b with
   | false=>simp
   | true =>
     have:Cm n p=B5 n p:=funext fun x=>RU hp (w0h hk) x;rw[this]
theorem s0k{a:Type}(l:List a)(d:a)(q:a->Bool)(i:Nat)(h:i<=l.length):(l.take i).any q=(List.range i).any fun k=>q (l.getD k d):=by
 have b:(l.take i).length=i:=by rw[List.length_take]; omega
 rw[<- N0 (l.take i) d q,b];refine Lm fun k c=>?_;rw[gq,gq,List.getElem?_take_of_lt c]
theorem m0z{n:Nat}{p:Nat->I8}{a:A7}(h:B5 n p a=true):1<=a.1/\a.1<=5:=by
 grind[B5]
theorem z0A{n:Nat}(h:n<=5) : -9223372036854775808<=(1:Int)*2 ^ (n-1)/\(1:Int)*2 ^ (n-1)<=9223372036854775807:=by
 have:∀k:Fin 6,-9223372036854775808<=(1:Int)*2 ^ (k.val-1)/\(1:Int)*2 ^ (k.val-1)<=9223372036854775807:=by decide
 exact this ⟨n,by omega⟩
def Fu(a:Nat->A7)(k:Int)(m:Nat):Int:=fN (fun i s=>if(a i).1=k then s+1 else s) m 0
theorem Ln(a:Nat->A7)(k:Int):∀m,0<=Fu a k m/\Fu a k m<=m
 | 0=>⟨Int.le_refl _,Int.le_refl _⟩
 | m+1=>by
   have:=Ln a k m
   grind[Fu,fN]
theorem Hm(a:Nat->A7)(k:Int):∀m,B6 m a k=decide (0<Fu a k m)
 | 0=>rfl
 | m+1=>by
   have c:=Hm a k m;have b:=(Ln a k m).1
   grind[B6,Fu,fN]
def Fv(a:Nat->A7)(i:Nat)(v:List Int):List Int:=v.set (a i).1.toNat (v.getD (a i).1.toNat 0+1)
theorem RV(a:Nat->A7):∀m,(∀i,i<m->1<=(a i).1/\(a i).1<=5)->(fN (Fv a) m (List.replicate 6 0)).length=6/\∀k:Nat,k<6->(fN (Fv a) m (List.replicate 6 0)).getD k 0=Fu a k m
 | 0,_=>⟨by simp[fN],fun k b=>by
   have:∀k:Fin 6,(List.replicate 6 (0:Int)).getD k.val 0=0:=by decide
   exact this ⟨k,b⟩⟩
 | m+1,h=>by
   obtain⟨d,c⟩:=RV a m (fun i hi=>h i (by omega))
   grind[fN,Fv,Fu]
def AK(v:List Int)(x:Int):List Int:=v.set x.toNat (v.getD x.toNat 0+1)
def U0(v:List Int)(n b:Nat):Prop:=v.length=n/\∀k:Nat,0<=v.getD k 0/\v.getD k 0<=(b:Int)
theorem NR(n b:Nat):U0 (List.replicate n 0) n b:=by
 refine⟨List.length_replicate,fun k=>?_⟩;rw[gq,List.getElem?_replicate];split <;> (show(0:Int)<=0/\(0:Int)<=b; omega)
theorem Hn{v:List Int}{n b:Nat}(h:U0 v n b)(x:Int):U0 (AK v x) n (b+1):=by
 refine⟨by unfold AK; rw[List.length_set]; exact h.1,fun k=>?_⟩;have a:=h.2 x.toNat;have c:=h.2 k;unfold AK;rw[gq,List.getElem?_set];by_cases e:x.toNat=k
 ·rw[if_pos e];split
  ·rw[Option.getD_some]; omega
  ·show(0:Int)<=0/\(0:Int)<=_; omega
 ·rw[if_neg e,<- gq]; omega
theorem RW{v:List Int}{n b a:Nat}(h:U0 v n b)(c:b<=a):U0 v n a:=⟨h.1,fun k=>by have:=h.2 k; omega⟩
theorem w0b{v:List Int}{n b:Nat}(h:U0 v n b){x:Int}(a:j3 x 0 ((n:Int)-1)=true):ix x v.length/\x.toNat<v.length:=by
 rw[r6] at a;rw[ix,h.1];omega
def Bv(n:Nat)(ok:Nat->Bool)(nm:Nat->ByteArray):Bool:=!((List.range n).any fun i=>!ok i||K1 nm i)&&decide (n<=8)
theorem F0M{n:Nat}{b:Nat->Bool}{a:Nat->ByteArray}(h:∀i,i<n->b i=true->D5 (a i)=true):(if((List.range n).any fun i=>!b i)=true then false else decide (n<=8)&&x6 n a)=Bv n b a:=by
 unfold Bv x6;have e:((List.range n).any fun i=>!b i||K1 a i)=(((List.range n).any fun i=>!b i)||(List.range n).any fun i=>K1 a i):=NS _ _;rw[e];cases ha:(List.range n).any fun i=>!b i with
 | true=>rfl
 | false =>
   have d:=(AL (n:=n) (c:=fun i=>!b i)).1 (by rw[ha]; rfl);have:((List.range n).any fun i=>!D5 (a i)||K1 a i)=(List.range n).any fun i=>K1 a i:=Lm fun i hi=>by
    have:=d i hi;rw[Bool.not_eq_false'] at this;rw[h i hi this]; rfl
   rw[this,if_neg (by simp),Bool.false_or,Bool.and_comm]
def L8(nc:Nat)(J0:Int->Nat)(nn:Nat)(x:A8):Bool:=j3 x.2.1 0 ((nc:Int)-1)&&(x.2.2.length:Int)==(J0 x.2.1:Int)&&x.2.2.all fun y=>j3 y 0 ((nn:Int)-1)
def L9(nn:Nat)(x:I9):Bool:=j3 x.2.1 1 2&&j3 x.2.2 0 ((nn:Int)-1)
def N1(x:Nat->A8)(i:Nat)(v:List Int):List Int:=AK v ((x i).2.2.getD ((x i).2.2.length-1) 0)
def I3(x:Nat->I9)(i:Nat)(v:List Int):List Int:=if(x i).2.1=1 then AK v (x i).2.2 else v
def Dj(ni np nn:Nat)(x:Nat->A8)(y:Nat->I9):List Int:=fN (I3 y) np (fN (N1 x) ni (List.replicate nn 0))
theorem RX(x:Nat->A8)(a:Nat):∀i,U0 (fN (N1 x) i (List.replicate a 0)) a i
 | 0=>NR a 0
 | i+1=>Hn (RX x a i) _
def Bw(lib:Bool)(nc:Nat)(J0:Int->Nat)(ni np nn:Nat)(x:Nat->A8)(y:Nat->I9)(nets:Nat->ByteArray):Bool :=
 lib&&decide (ni<=14)&&decide (nn<=30)&&decide (np<=8)&&x6 ni (fun i=>(x i).1)&&x6 nn nets&&x6 np (fun i=>(y i).1) &&
  !((List.range ni).any fun i=>!L8 nc J0 nn (x i))&&!((List.range np).any fun i=>!L9 nn (y i))&&(Dj ni np nn x y).all (·==1)
def Aa(w:RS)(n:Int):Bool :=
 decide (1<=w.1.length)&&decide (w.1.length<=8)&&decide (w.2.1.length=w.1.length)&&decide (w.2.2.1.length=w.1.length)&&(w.2.2.2.length:Int)==n &&
  w.2.1.all (j3 · 0 1000)&&w.2.2.1.all (j3 · 0 500)&&w.2.2.2.all (j3 · 0 ((w.1.length:Int)-1)) &&
  !(List.range w.1.length).any fun i=>(i==0&&(w.1.getD i 0 != -1||w.2.1.getD 0 0 != 0))||(decide (0<i)&&!j3 (w.1.getD i 0) 0 ((i:Int)-1))
abbrev s9:=Int×Int×Int×Bool
def N2(x:A8)(i:Int)(k:Nat)(s:List s9):List s9:=s++[(i,(k:Int),x.2.2.getD k 0,(k:Int)==(x.2.2.length:Int)-1)]
def K9(y:Nat->I9)(i:Nat)(s:List s9):List s9:=s++[(-1,(i:Int),(y i).2.2,(y i).2.1==1)]
def K2(x:Nat->A8)(i:Nat)(s:List s9):List s9:=fN (N2 (x i) i) (x i).2.2.length s
def J1(ni np:Nat)(x:Nat->A8)(y:Nat->I9):List s9:=fN (K9 y) np (fN (K2 x) ni [])
theorem Fw(x:A8)(i:Int)(s:List s9):∀k,(fN (N2 x i) k s).length=s.length+k
 | 0=>rfl
 | k+1=>by
   rw[fN,N2,List.length_append,Fw x i s k]; rfl
theorem Lo(y:Nat->I9)(s:List s9):∀k,(fN (K9 y) k s).length=s.length+k
 | 0=>rfl
 | k+1=>by
   rw[fN,K9,List.length_append,Lo y s k]; rfl
def Cn(pl:Nat->s9)(i:Nat)(v:List Int):List Int:=if(pl i).2.2.2=false then AK v (pl i).2.2.1 else v
def R3(pl:Nat->s9)(t:Int)(m:Nat):Int:=fN (fun i s=>if((pl i).2.2.1==t&&!(pl i).2.2.2)=true then s+1 else s) m 0
theorem t0S(pl:Nat->s9)(t:Int):∀m,0<=R3 pl t m/\R3 pl t m<=m
 | 0=>⟨Int.le_refl _,Int.le_refl _⟩
 | m+1=>by
   have:=t0S pl t m;unfold R3 at *
   rw[fN];split <;> omega
theorem l0u(pl:Nat->s9)(n:Nat):∀m,(∀i,i<m->j3 (pl i).2.2.1 0 ((n:Int)-1)=true)->(fN (Cn pl) m (List.replicate n 0)).length=n/\∀k:Nat,k<n->(fN (Cn pl) m (List.replicate n 0)).getD k 0=R3 pl k m
 | 0,_=>⟨by simp[fN],fun k b=>by
   show(List.replicate n (0:Int)).getD k 0=0;rw[gq,List.getElem?_replicate,if_pos b]; rfl⟩
 | m+1,h=>by
   obtain⟨d,c⟩:=l0u pl n m (fun i hi=>h i (by omega));have f:=r6.1 (h m (by omega));rw[fN];generalize fN (Cn pl) m (List.replicate n 0)=v at *
   unfold Cn;have e:∀k:Nat,R3 pl k (m+1)=if((pl m).2.2.1==(k:Int)&&!(pl m).2.2.2)=true then R3 pl k m+1 else R3 pl k m:=fun k=>by unfold R3; rw[fN]
   cases hd:(pl m).2.2.2 with
   | true =>
     refine⟨by rw[if_neg (by simp)]; exact d,fun k b=>?_⟩;rw[if_neg (by simp),c k b,e,hd,if_neg (by simp)]
   | false =>
     rw[if_pos rfl];unfold AK;refine⟨by rw[List.length_set]; exact d,fun k b=>?_⟩;rw[e,hd,gq,List.getElem?_set];by_cases a:(pl m).2.2.1.toNat=k
     ·rw[if_pos a,if_pos (by rw[d]; omega),if_pos (by simp; omega),Option.getD_some,a,c k b]
     ·rw[if_neg a,if_neg (by simp; omega),<- gq,c k b]
def J2(pl:Nat->s9)(t:Int)(i:Nat)(s:List Int):List Int:=if((pl i).2.2.1==t&&!(pl i).2.2.2)=true then s++[(i:Int)] else s
theorem Lp(pl:Nat->s9)(t:Int):∀m,((fN (J2 pl t) m []).length:Int)=R3 pl t m
 | 0=>rfl
 | m+1=>by
   have:=Lp pl t m;rw[fN];unfold R3 at *
   rw[fN];unfold J2 at *
   split
   ·rw[List.length_append];show((_+1:Nat):Int)=_;omega
   ·exact this
def Ho(n:Nat)(s:List s9):Prop:=∀p∈s,j3 p.2.2.1 0 ((n:Int)-1)=true
theorem p0m{n:Nat}{x:A8}{i:Int}(b:∀k,k<x.2.2.length->j3 (x.2.2.getD k 0) 0 ((n:Int)-1)=true){s:List s9}(a:Ho n s):∀k,k<=x.2.2.length->Ho n (fN (N2 x i) k s)
 | 0,_=>a
 | k+1,hk=>by
   rw[fN,N2];intro p c;rcases List.mem_append.1 c with h | h
   ·exact p0m b a k (by omega) p h
   ·cases List.mem_singleton.1 h;exact b k (by omega)
theorem j0k{n:Nat}{x:Nat->A8}{ni:Nat}(a:∀i,i<ni->∀k,k < (x i).2.2.length->j3 ((x i).2.2.getD k 0) 0 ((n:Int)-1)=true):∀i,i<=ni->Ho n (fN (K2 x) i [])
 | 0,_=>fun p b=>by cases b
 | i+1,hi=>by
   rw[fN,K2];exact p0m (a i (by omega)) (j0k a i (by omega)) _ (Nat.le_refl _)
theorem o0K{n:Nat}{y:Nat->I9}{np:Nat}(a:∀i,i<np->j3 (y i).2.2 0 ((n:Int)-1)=true){s:List s9}(b:Ho n s):∀k,k<=np->Ho n (fN (K9 y) k s)
 | 0,_=>b
 | k+1,hk=>by
   rw[fN,K9];intro p c;rcases List.mem_append.1 c with h | h
   ·exact o0K a b k (by omega) p h
   ·cases List.mem_singleton.1 h;exact a k (by omega)
theorem NT{x:Nat->A8}{ni:Nat}(a:∀i,i<ni->(x i).2.2.length<=5):∀i,i<=ni->(fN (K2 x) i []).length<=5*i
 | 0,_=>Nat.le_refl _
 | i+1,hi=>by
   rw[fN,K2,Fw];have:=NT a i (by omega);have:=a i (by omega);omega
theorem H0{a:Type}{l:List a}{i:Nat}{d:a}(h:i<l.length):l.getD i d∈l:=by
 rw[gq,List.getElem?_eq_getElem h];exact List.getElem_mem h
theorem Hp{l:List Int}{p:Int->Bool}(h:l.all p=true){i:Nat}(hi:i<l.length):p (l.getD i 0)=true:=List.all_eq_true.1 h _ (H0 hi)
structure DesignFacts(nc:Nat)(J0:Int->Nat)(ni np nn:Nat)(x:Nat->A8)(y:Nat->I9):Prop where
 ni14:ni<=14
 np8:np<=8
 nn30:nn<=30
 inst:∀i,i<ni->L8 nc J0 nn (x i)=true
 port:∀i,i<np->L9 nn (y i)=true
theorem m0p{a:Bool}{c:Nat}{J0:Int->Nat}{ni np d:Nat}{x:Nat->A8}{y:Nat->I9}{b:Nat->ByteArray}(h:Bw a c J0 ni np d x y b=true):a=true/\DesignFacts c J0 ni np d x y:=by
 unfold Bw at h;simp only[ba,dq] at h;obtain⟨⟨⟨⟨⟨⟨⟨⟨⟨k,j⟩,g⟩,e⟩,_⟩,_⟩,_⟩,l⟩,f⟩,_⟩:=h;refine⟨k,j,e,g,fun i hi=>?_,fun i hi=>?_⟩
 ·have:=AL.1 l i hi
  rwa [Bool.not_eq_false'] at this
 ·have:=AL.1 f i hi
  rwa [Bool.not_eq_false'] at this
theorem DesignFacts.net{b:Nat}{J0:Int->Nat}{ni np a:Nat}{x:Nat->A8}{y:Nat->I9}(h:DesignFacts b J0 ni np a x y):(∀i,i<ni->∀k,k < (x i).2.2.length->j3 ((x i).2.2.getD k 0) 0 ((a:Int)-1)=true)/\∀i,i<np->j3 (y i).2.2 0 ((a:Int)-1)=true:=by
 refine⟨fun i hi k c=>?_,fun i hi=>?_⟩
 ·have:=h.inst i hi;unfold L8 at this;rw[ba] at this;exact Hp (p:=fun y=>j3 y 0 ((a:Int)-1)) this.2 c
 ·have:=h.port i hi;unfold L9 at this;rw[ba] at this;exact this.2
end Go.Proofs.Xd
end
section
namespace Go.Proofs.Xd
open Go Go.Proofs Go.Proofs.Xl
def Dk(v:List Int)(i:Nat)(x:Int):List Int:=v.set i (v.getD i 0+x)
theorem m0E{v:List Int}{i:Nat}{x:Int}:(Dk v i x).length=v.length:=by grind[Dk]
theorem NU{v:List Int}{i j:Nat}{x:Int}(hi:i<v.length):(Dk v i x).getD j 0=if j=i then v.getD i 0+x else v.getD j 0:=by
 grind[Dk]
def U3(v:List Int)(k:Nat):Int:=fN (fun i s=>s+v.getD i 0) k 0
theorem Hq(v:List Int)(k:Nat):U3 v (k+1)=U3 v k+v.getD k 0:=rfl
theorem RY{v:List Int}{i:Nat}{x:Int}(hi:i<v.length):∀k,U3 (Dk v i x) k=U3 v k+if i<k then x else 0
 | 0=>by simp[U3,fN]
 | k+1=>by
   rw[Hq,Hq,RY hi k,NU hi];by_cases h:k=i
   ·subst h; simp; omega
   ·rw[if_neg h];by_cases a:i<k
    ·rw[if_pos a,if_pos (by omega)]; omega
    ·rw[if_neg a,if_neg (by omega)]; omega
theorem l0m{v:List Int}(a:∀j,0<=v.getD j 0):∀k,0<=U3 v k
 | 0=>by simp[U3,fN]
 | k+1=>by have:=l0m a k; grind[Hq]
theorem RZ{v:List Int}(a:∀j,0<=v.getD j 0):∀{k j:Nat},j<k->v.getD j 0<=U3 v k
 | k+1,j,h=>by
   rw[Hq];have c:=l0m a k;have b:=a k;by_cases e:j=k
   ·grind
   ·have:=RZ a (k:=k) (j:=j) (by omega); omega
structure Low(v:List Int)(n:Nat)(S:Int):Prop where
 len:v.length=n
 pos:∀j,0<=v.getD j 0
 sum:U3 v n<=S
theorem o0x{v:List Int}{c:Int}(a:∀j,v.getD j 0<=c):∀k:Nat,U3 v k<=c*(k:Int)
 | 0=>by simp[U3,fN]
 | k+1=>by
   have:=o0x a k
   grind[Hq,Int.natCast_add,Int.mul_add]
theorem B0j{v:List Int}{n:Nat}(b:v.length=n)(h:v.all (j3 · 0 500)=true):Low v n (500*(n:Int)):=by
 have a:∀j,0<=v.getD j 0/\v.getD j 0<=500:=fun j=>by
  grind[Nat.lt_or_ge,r6,Hp,j3,List.getElem?_eq_none]
 exact⟨b,fun j=>(a j).1,o0x (fun j=>(a j).2) n⟩
theorem Low.bd{v:List Int}{n:Nat}{S:Int}(h:Low v n S)(b:0<=S)(j:Nat):0<=v.getD j 0/\v.getD j 0<=S:=by
 refine⟨h.pos j,?_⟩;rcases Nat.lt_or_ge j n with a | a
 ·exact Int.le_trans (RZ h.pos a) h.sum
 ·rw[gq,List.getElem?_eq_none (by rw[h.len]; exact a)]; exact b
theorem Low.add{v:List Int}{n:Nat}{S:Int}(h:Low v n S){i:Nat}(hi:i<n){x:Int}(b:0<=x):Low (Dk v i x) n (S+x):=by
 have a:i<v.length:=by rw[h.len]; exact hi
 refine⟨by rw[m0E]; exact h.len,fun j=>?_,?_⟩
 ·rw[NU a];have:=h.pos i;have:=h.pos j;omega
 ·rw[RY a,if_pos hi]; have:=h.sum; omega
def AM(s c:Nat->Int)(i:Nat)(v:List Int):List Int:=Dk v (s i).toNat (c i)
theorem p0A{s c:Nat->Int}{v:List Int}{n:Nat}{S:Int}(h:Low v n S):∀m,(∀i,i<m->0<=s i/\(s i).toNat<n/\0<=c i/\c i<=500)->Low (fN (AM s c) m v) n (S+500*(m:Int))
 | 0,_=>⟨h.len,h.pos,by have:=h.sum; show U3 v n<=_; omega⟩
 | m+1,hm=>by
   have b:=p0A h m (fun i hi=>hm i (by omega));obtain⟨f,a,d,e⟩:=hm m (by omega);have:=b.add a d;refine⟨this.len,this.pos,?_⟩;have:=this.sum;rw[Int.natCast_add,Int.mul_add];refine Int.le_trans this ?_;omega
def P0(P:Nat->Int)(n k:Nat)(v:List Int):List Int:=Dk v (P (n-1-k)).toNat (v.getD (n-1-k) 0)
structure Hr(v:List Int)(n k:Nat)(S:Int):Prop where
 len:v.length=n
 pos:∀j,0<=v.getD j 0
 bd:∀j,v.getD j 0<=S
 sum:U3 v (n-k)<=S
theorem Sb{P:Nat->Int}{v:List Int}{n k:Nat}{S:Int}(h:Hr v n k S)(_:k<n-1)(f:0<=P (n-1-k)/\(P (n-1-k)).toNat<n-1-k):Hr (P0 P n k v) n (k+1) S:=by
 have c:(P (n-1-k)).toNat<v.length:=by rw[h.len]; omega
 have a:∀j,0<=(P0 P n k v).getD j 0:=fun j=>by
  unfold P0;rw[NU c];have:=h.pos (P (n-1-k)).toNat;have:=h.pos (n-1-k);have:=h.pos j;omega
 have d:U3 (P0 P n k v) (n-(k+1))<=S:=by
  unfold P0;have e:n-(k+1)=n-1-k:=by omega
  rw[RY c,e,if_pos f.2];have:=h.sum;rw[show n-k=(n-1-k)+1 by omega,Hq] at this;exact this
 refine⟨by unfold P0; rw[m0E]; exact h.len,a,fun j=>?_,d⟩;by_cases e:j=(P (n-1-k)).toNat
 ·have b:j<n-(k+1):=by omega
  exact Int.le_trans (RZ a b) d
 ·unfold P0;rw[NU c,if_neg e];exact h.bd j
theorem l0B{P:Nat->Int}{v:List Int}{n:Nat}{S:Int}(h:Low v n S)(b:0<=S)(a:∀i,0<i->i<n->0<=P i/\(P i).toNat<i):∀k,k<=n-1->Hr (fN (P0 P n) k v) n k S
 | 0,_=>⟨h.len,h.pos,fun j=>(h.bd b j).2,h.sum⟩
 | k+1,hk=>Sb (l0B h b a k (by omega)) (by omega) (a _ (by omega) (by omega))
def F0L(cap:List Int)(n m:Nat)(s c P:Nat->Int):List Int:=fN (P0 P n) (n-1) (fN (AM s c) m cap)
theorem Hs{a:Type}{l r:List a}{d:a}{i:Nat}(h:i<l.length):(l++r).getD i d=l.getD i d:=by
 grind
theorem Sc{a:Type}{l r:List a}{d:a}{i:Nat}(h:l.length<=i):(l++r).getD i d=r.getD (i-l.length) d:=by
 grind
def M0(P R L:Nat->Int)(k:Nat)(s:List Int):List Int:=s++[s.getD (P (k+1)).toNat 0+R (k+1)*L (k+1)]
def B0G(n:Nat)(P R L:Nat->Int):List Int:=fN (M0 P R L) (n-1) [0]
theorem Lq{a b A B:Int}(d:0<=a)(e:a<=A)(c:0<=b)(f:b<=B):0<=a*b/\a*b<=A*B :=
 ⟨Int.mul_nonneg d c,Int.mul_le_mul e f c (Int.le_trans d e)⟩
theorem t0O{P R L:Nat->Int}{n:Nat}{S:Int}(b:∀i,i<n->0<=R i/\R i<=1000)(a:∀i,i<n->0<=L i/\L i<=S)(h:0<=S):∀k,k<=n-1->(fN (M0 P R L) k [0]).length=k+1/\∀j,0<=(fN (M0 P R L) k [0]).getD j 0/\(fN (M0 P R L) k [0]).getD j 0<=1000*S*(k:Int)
 | 0,_=>⟨rfl,fun j=>by
   grind[fN]⟩
 | k+1,hk=>by
   obtain⟨g,c⟩:=t0O b a h k (by omega);have l:=Lq (b (k+1) (by omega)).1 (b (k+1) (by omega)).2 (a (k+1) (by omega)).1 (a (k+1) (by omega)).2;have f:0<=1000*S*(k:Int):=Int.mul_nonneg (by omega) (by omega);have e:1000*S*((k+1:Nat):Int)=1000*S*(k:Int)+1000*S:=by rw[Int.natCast_add,Int.mul_add]; simp
   have d:fN (M0 P R L) (k+1) [0]=M0 P R L k (fN (M0 P R L) k [0]):=rfl;rw[d];generalize fN (M0 P R L) k [0]=s at g c
   grind[M0,List.length_append,Nat.lt_or_ge,Hs,Sc,List.getD_cons_zero,List.getD_cons_succ,List.getD_nil]
theorem w0F{s:List Int}{k n:Nat}{x:Int}(a:s.length=k+1)(b:k+1<n):(s++List.replicate (n-1-k) 0).set (k+1) x=(s++[x])++List.replicate (n-1-(k+1)) 0:=by
 have e:n-1-k=(n-1-(k+1))+1:=by omega
 rw[e,List.replicate_succ,List.set_append_right _ _ (by omega),a,Nat.sub_self,List.set_cons_zero,List.append_assoc];rfl
theorem w0G{s:List Int}{k n p:Nat}(a:s.length=k+1)(b:p<k+1):(s++List.replicate (n-1-k) 0).getD p 0=s.getD p 0:=Hs (by omega)
def Fx(D:List Int)(S:Nat->Int)(i:Nat)(s:List Int):List Int:=s++[D.getD (S i).toNat 0]
theorem Sd(D:List Int)(S:Nat->Int):∀i,(fN (Fx D S) i []).length=i
 | 0=>rfl
 | i+1=>by
   have:=Sd D S i
   grind[Fx,fN,List.length_append]
theorem t0I(D:List Int)(S:Nat->Int):∀n i,i<n->(fN (Fx D S) n []).getD i 0=D.getD (S i).toNat 0
 | n+1,i,h=>by
   have a:=Sd D S n;have b:=t0I D S n i
   grind[Fx,fN]
def Ht(ni np:Nat)(x:Nat->A8)(p:s9):Prop:=(p.1 = -1/\0<=p.2.1/\p.2.1.toNat<np)∨(0<=p.1/\p.1.toNat<ni/\0<=p.2.1/\p.2.1.toNat < (x p.1.toNat).2.2.length)
theorem j0r{ni np:Nat}{x:Nat->A8}{i:Nat}(hi:i<ni){s:List s9}(b:∀p∈s,Ht ni np x p):∀k,k<=(x i).2.2.length->∀p∈fN (N2 (x i) i) k s,Ht ni np x p
 | 0,_=>b
 | k+1,hk=>fun p a=>by
   have a:p∈N2 (x i) i k (fN (N2 (x i) i) k s):=a;unfold N2 at a;rcases List.mem_append.1 a with a | a
   ·exact j0r hi b k (by omega) p a
   ·cases List.mem_singleton.1 a;exact .inr ⟨Int.natCast_nonneg _,by omega,Int.natCast_nonneg _,by grind⟩
theorem g0i{ni np:Nat}{x:Nat->A8}:∀i,i<=ni->∀p∈fN (K2 x) i [],Ht ni np x p
 | 0,_=>fun p a=>by cases a
 | i+1,hi=>j0r (by omega) (g0i i (by omega)) _ (Nat.le_refl _)
theorem j0j{ni np:Nat}{x:Nat->A8}{y:Nat->I9}{s:List s9}(b:∀p∈s,Ht ni np x p):∀k,k<=np->∀p∈fN (K9 y) k s,Ht ni np x p
 | 0,_=>b
 | k+1,hk=>fun p a=>by
   have a:p∈K9 y k (fN (K9 y) k s):=a;unfold K9 at a;rcases List.mem_append.1 a with a | a
   ·exact j0j b k (by omega) p a
   ·cases List.mem_singleton.1 a;exact .inl ⟨rfl,Int.natCast_nonneg _,by grind⟩
theorem n0g(ni np:Nat)(x:Nat->A8)(y:Nat->I9):∀p∈J1 ni np x y,Ht ni np x p:=j0j (g0i ni (Nat.le_refl _)) np (Nat.le_refl _)
theorem NV(pl:Nat->s9)(t:Int):∀m,∀x∈fN (J2 pl t) m [],∃j:Nat,x=(j:Int)/\j<m/\(pl j).2.2.1=t/\(pl j).2.2.2=false
 | 0,x,h=>by cases h
 | m+1,x,h=>by
   have b:=NV pl t m x;have h:x∈J2 pl t m (fN (J2 pl t) m []):=h;generalize fN (J2 pl t) m []=s at b h;unfold J2 at h;split at h
   ·rename_i d;rw[ba,beq_iff_eq,Bool.not_eq_true'] at d;rcases List.mem_append.1 h with h | h
    ·obtain⟨j,a,e,c⟩:=b h;exact⟨j,a,by omega,c⟩
    ·cases List.mem_singleton.1 h;exact⟨m,rfl,by omega,d⟩
   ·obtain⟨j,a,e,c⟩:=b h;exact⟨j,a,by omega,c⟩
structure m0G(w:RS)(n:Int):Prop where
 n1:1<=w.1.length
 n8:w.1.length<=8
 res:w.2.1.length=w.1.length
 cap:w.2.2.1.length=w.1.length
 snk:(w.2.2.2.length:Int)=n
 resIn:∀i,i<w.1.length->0<=w.2.1.getD i 0/\w.2.1.getD i 0<=1000
 capOk:w.2.2.1.all (j3 · 0 500)=true
 snkIn:∀i,i<w.2.2.2.length->0<=w.2.2.2.getD i 0/\(w.2.2.2.getD i 0).toNat<w.1.length
 par:∀i,0<i->i<w.1.length->0<=w.1.getD i 0/\(w.1.getD i 0).toNat<i
theorem p0O{w:RS}{n:Int}(h:Aa w n=true):m0G w n:=by
 unfold Aa at h;simp only[ba,dq,beq_iff_eq] at h;obtain⟨⟨⟨⟨⟨⟨⟨⟨f,e⟩,d⟩,b⟩,k⟩,c⟩,j⟩,l⟩,g⟩:=h;refine⟨f,e,d,b,k,fun i hi=>?_,j,fun i hi=>?_,fun i m hi=>?_⟩
 ·exact r6.1 (Hp (p:=fun x=>j3 x 0 1000) c (by omega))
 ·have:=r6.1 (Hp (p:=fun x=>j3 x 0 ((w.1.length:Int)-1)) l hi);omega
 ·have:=AL.1 g i hi;rw[Bool.or_eq_false_iff] at this;have a:=this.2;rw[Bool.and_eq_false_iff,decide_eq_false_iff_not,Bool.not_eq_false',r6] at a;rcases a with h | h
  ·omega
  ·omega
abbrev o5:=Int×Int×Int×Int
def D6(k s:Int):List (Int×Int):=if(k==2)=true then [(0,0),(0,1)] else if(k==3)=true then [(1,0),(1,1)] else if(k != 1)=true then [] else if(s==1)=true then [(0,0),(1,1)] else if(s==2)=true then [(0,1),(1,0)] else [(0,0),(0,1),(1,0),(1,1)]
theorem NW(k s:Int):(D6 k s).length<=4/\∀t∈D6 k s,0<=t.1/\t.1<=1/\0<=t.2/\t.2<=1:=by
 unfold D6;split
 ·grind
 split
 ·grind
 split
 ·grind
 grind
def U4(f a b x:Int)(tr:List (Int×Int))(k:Nat)(s:List o5):List o5:=s++[(2*(f+a)+(tr.getD k (0,0)).1,2*(f+b)+(tr.getD k (0,0)).2,1,x)]
theorem j0F(f a b x:Int)(c:List (Int×Int))(s:List o5):∀k,(fN (U4 f a b x c) k s).length=s.length+k
 | 0=>rfl
 | k+1=>by
   have:=j0F f a b x c s k
   grind[U4,fN,List.length_append]
def M1(f:Int)(arcs:Nat->A7)(j:Nat)(s:List o5):List o5:=fN (U4 f (arcs j).2.1 (arcs j).2.2.1 (j:Int) (D6 (arcs j).1 (arcs j).2.2.2.1)) (D6 (arcs j).1 (arcs j).2.2.2.1).length s
theorem Se(f:Int)(a:Nat->A7)(j:Nat)(s:List o5):(M1 f a j s).length<=s.length+4:=by
 grind[M1,j0F,NW]
def W7(f:Int)(arcs:Nat->A7)(m:Nat):List o5:=fN (M1 f arcs) m []
theorem Lr(f:Int)(a:Nat->A7):∀m,(W7 f a m).length<=4*m
 | 0=>Nat.le_refl _
 | m+1=>by
   have c:=Lr f a m;have b:=Se f a m (W7 f a m);show(M1 f a m (W7 f a m)).length<=_;omega
def P1(nets:Nat->Nat)(arcs:Nat->Nat->A7)(ms:Nat->Nat)(i:Nat)(s:Int×List o5):Int×List o5:=(s.1+(nets i:Int),s.2++W7 s.1 (arcs i) (ms i))
theorem m0c{a:Nat->Nat}{b:Nat->Nat->A7}{c:Nat->Nat}{n:Nat}(h:∀i,i<n->a i<=5/\c i<=8):∀m,m<=n->0<=(fN (P1 a b c) m (0,[])).1/\(fN (P1 a b c) m (0,[])).1<=5*(m:Int)/\(fN (P1 a b c) m (0,[])).2.length<=32*m
 | 0,_=>⟨Int.le_refl _,Int.le_refl _,Nat.le_refl _⟩
 | m+1,hm=>by
   obtain⟨f,d,e⟩:=m0c h m (by omega);obtain⟨g,j⟩:=h m (by omega);show 0<=(P1 a b c m (fN (P1 a b c) m (0,[]))).1/\(P1 a b c m (fN (P1 a b c) m (0,[]))).1<=_/\(P1 a b c m (fN (P1 a b c) m (0,[]))).2.length<=_;generalize fN (P1 a b c) m (0,[])=z at f d e
   grind[P1,Lr,W7,List.length_append]
def R4(pl:Nat->s9)(i:Nat)(s:List (List Int)×List Int):List (List Int)×List Int:=if(pl i).2.2.2=true then(s.1,s.2.set (pl i).2.2.1.toNat (i:Int)) else(s.1.set (pl i).2.2.1.toNat (s.1.getD (pl i).2.2.1.toNat []++[(i:Int)]),s.2)
def N3(pl:Nat->s9)(t:Int)(m:Nat):Int:=fN (fun i s=>if((pl i).2.2.1==t&&(pl i).2.2.2)=true then(i:Int) else s) m 0
theorem Sf(pl:Nat->s9)(t:Int):∀m,0<=N3 pl t m/\N3 pl t m<=m
 | 0=>⟨Int.le_refl _,Int.le_refl _⟩
 | m+1=>by
   have:=Sf pl t m;have e:N3 pl t (m+1)=if((pl m).2.2.1==t&&(pl m).2.2.2)=true then(m:Int) else N3 pl t m:=rfl
   omega
theorem j0g(pl:Nat->s9)(t:Int)(m:Nat):fN (J2 pl t) (m+1) []=if((pl m).2.2.1==t&&!(pl m).2.2.2)=true then fN (J2 pl t) m []++[(m:Int)] else fN (J2 pl t) m []:=rfl
theorem Sg{a:Type}{l:List a}{i j:Nat}{x d:a}(hi:i<l.length):(l.set i x).getD j d=if j=i then x else l.getD j d:=by
 grind
theorem m0f(pl:Nat->s9)(n:Nat):∀m,(∀i,i<m->j3 (pl i).2.2.1 0 ((n:Int)-1)=true)->(fN (R4 pl) m (List.replicate n [],List.replicate n 0)).1.length=n/\(fN (R4 pl) m (List.replicate n [],List.replicate n 0)).2.length=n /\
  ∀k:Nat,k<n->(fN (R4 pl) m (List.replicate n [],List.replicate n 0)).1.getD k []=fN (J2 pl k) m []/\(fN (R4 pl) m (List.replicate n [],List.replicate n 0)).2.getD k 0=N3 pl k m
 | 0,_=>⟨List.length_replicate,List.length_replicate,fun k b=>by
   constructor
   ·show(List.replicate n ([]:List Int)).getD k []=[]
    grind
   ·show(List.replicate n (0:Int)).getD k 0=0
    grind⟩
 | m+1,h=>by
   obtain⟨f,a,j⟩:=m0f pl n m (fun i hi=>h i (by omega));have l:=r6.1 (h m (by omega));have e:fN (R4 pl) (m+1) (List.replicate n [],List.replicate n 0)=R4 pl m (fN (R4 pl) m (List.replicate n [],List.replicate n 0)):=rfl;rw[e];generalize fN (R4 pl) m (List.replicate n [],List.replicate n 0)=z at f a j;have g:(pl m).2.2.1.toNat<n:=by omega
   have c:∀k:Nat,N3 pl k (m+1)=if((pl m).2.2.1==(k:Int)&&(pl m).2.2.2)=true then(m:Int) else N3 pl k m:=fun _=>rfl
   have d:∀k:Nat,((pl m).2.2.1==(k:Int))=decide (k=(pl m).2.2.1.toNat):=fun k=>by
    grind
   unfold R4;cases hd:(pl m).2.2.2 with
   | true =>
     rw[if_pos rfl];refine⟨f,by grind,fun k b=>?_⟩;rw[j0g,c k,d,hd]
     grind
   | false =>
     rw[if_neg (by simp)];refine⟨by grind,a,fun k b=>?_⟩;rw[j0g,c k,d,hd]
     grind
def Si(d s x:Int)(t:Nat)(z:List o5):List o5:=z++[(2*d+(t:Int),2*s+(t:Int),2,x)]
def AN(d:Int)(sn:List Int)(k:Nat)(z:List o5):List o5:=fN (Si d (sn.getD k 0) (k:Int)) 2 z
theorem Sj(d:Int)(a:List Int)(k:Nat)(z:List o5):(AN d a k z).length=z.length+2:=by
 show((z++_)++_).length=_
 grind
def Ab(d:Nat->Int)(sn:Nat->List Int)(i:Nat)(z:List o5):List o5:=fN (AN (d i) (sn i)) (sn i).length z
theorem NX(d:Int)(a:List Int)(z:List o5):∀k,(fN (AN d a) k z).length=z.length+2*k
 | 0=>rfl
 | k+1=>by
   have:=NX d a z k
   grind[AN,fN,Sj]
theorem p0d(d:Nat->Int)(a:Nat->List Int)(z:List o5){n c:Nat}(h:∀i,i<n->(a i).length<=c):∀m,m<=n->(fN (Ab d a) m z).length<=z.length+2*(c*m)
 | 0,_=>by simp[fN]
 | m+1,hm=>by
   have b:=p0d d a z h m (by omega)
   grind[fN,AN,Ab,NX,Nat.mul_add]
def W8{α:Type}(f:Nat->α)(i:Nat)(s:List α):List α:=s++[f i]
theorem Fy{a:Type}(f:Nat->a):∀n,(fN (W8 f) n []).length=n
 | 0=>rfl
 | n+1=>by
   have:=Fy f n
   grind[W8,fN,List.length_append]
theorem Ls{a:Type}(f:Nat->a)(d:a):∀n i,i<n->(fN (W8 f) n []).getD i d=f i
 | n+1,i,h=>by
   have b:=Fy f n;have c:=Ls f d n i
   grind[W8,fN]
end Go.Proofs.Xd
end
section
namespace Go.Proofs.YtechodbafnmddaaGreatDoor
open Go Go.Proofs Go.Proofs.Xv Go.Proofs.Xl Go.Proofs.Xd
theorem R5(a b c:Int):r9 a b c=some (j3 a b c):=rfl
theorem M3(a b c:Int):m7 a b c=some (j3 a b c):=rfl
theorem L0H(a b c:Int):Kw a b c=some (!j3 a b c):=by
 unfold Kw;rw[R5,gP ⟨rfl,trivial⟩,vS]
theorem v0P(xs:List Int)(b c:Int)(h:xs.length<=9223372036854775807):Ng xs (b,c)=some (xs.any fun x=>!j3 x b c):=by
 have a:Nf xs (b,c)=_:=Bx h (fun i=>!j3 (xs.getD i 0) b c) (fun g i hi=>Fz hi h (L0H _ _ _)) (fun g=>aE);have:=FA a;rw[N0 xs 0 (fun x=>!j3 x b c)] at this;exact this
theorem FB(xs:List Int)(b c:Int)(h:xs.length<=9223372036854775807):D0 xs b c=some (xs.all (j3 · b c)):=by
 unfold D0;rw[v0P _ _ _ h,gP ⟨rfl,trivial⟩,vS,Z9]
theorem Sk(xs:List Int)(h:xs.length<=9223372036854775807)(b:1<=xs.length):Br xs=some (Ck xs):=by
 have a:=B0i h (fun i=>decide (xs.getD i 0<=xs.getD (i-1) 0)) (some false) (e:=some true) (F:=YV xs) 1 b (fun g i c hi=>by
  have e:((i:Int)-1).toNat=i-1:=by omega
  refine(AO hi h ⟨oo,oo,oo,trivial⟩).trans ?_;rw[e]; rfl) (fun g=>aE)
 refine a.trans ?_;unfold Ck
 grind
theorem J0m(xs:List Int)(h:xs.length<=9223372036854775807):Z1 xs=some (C0 xs):=by
 unfold Z1;have e:A4 xs=some (xs.length:Int):=rfl;have b:∀a:Bool,(a=true->1<=xs.length)->(a=true/\True->(Br xs).isSome=true):=fun a f d=>by grind[Sk]
 rw[e,vS,R5,vS,FB xs 0 100000 h,vS,gP ⟨rfl,rfl,fun _=>rfl,b _ (fun d=>by
  grind[j3]),trivial⟩]
 congr 1;unfold C0;by_cases c:1<=xs.length
 ·rw[Sk xs h c,vS]
  grind[j3]
 grind[decide,j3]
theorem J0n(xs:List Int)(h:xs.length<=9223372036854775807):BZ xs=some (C0 xs):=by
 have c:=C4 (n:=xs.length) h (fun i=>!j3 (xs.getD i 0) 0 100000||decide (0<i)&&decide (xs.getD i 0<=xs.getD (i-1) 0)) (some false) (e:=MR xs ()) (F:=WH xs) (fun g i hi=>by
  have e:((i:Int)-1).toNat=i-1:=by omega
  have j:decide ((0:Int) < (i:Int))=decide (0<i):=by rw[decide_eq_decide]; omega
  refine(AO hi h ⟨oo,rfl,fun f=>oo,fun f=>⟨by have:=f.1; simp at this; omega,by omega⟩,fun f=>oo,trivial⟩).trans ?_;rw[e,M3,vS,j]; rfl) (fun g=>aE)
 refine c.trans ?_;unfold C0 MR;have k:((List.range xs.length).any fun i=>!j3 (xs.getD i 0) 0 100000||decide (0<i)&&decide (xs.getD i 0<=xs.getD (i-1) 0))=!(xs.all (j3 · 0 100000)&&Ck xs):=by
  rw[<- Z9,<- N0 xs 0 (fun x=>!j3 x 0 100000),Ck,<- Bool.not_or,Bool.not_not];rw[Bool.eq_iff_iff,Bool.or_eq_true,List.any_eq_true,List.any_eq_true,List.any_eq_true];constructor
  ·rintro⟨i,a,b⟩;rcases Bool.or_eq_true _ _ ▸ b with d | d
   ·exact .inl ⟨i,a,d⟩
   ·exact .inr ⟨i,a,d⟩
  ·rintro(⟨i,a,b⟩ | ⟨i,a,b⟩)
   ·exact⟨i,a,by rw[b]; rfl⟩
   ·exact⟨i,a,by rw[b,Bool.or_true]⟩
 rw[k];cases hA:(xs.all (j3 · 0 100000)&&Ck xs) with
 | false=>grind
 | true =>
   rw[if_neg (by simp),Bool.and_assoc,hA,Bool.and_true];refine congrArg some ?_
   grind
theorem L0n(t:m4)(f:wf y269 t):Ha t=some (x4 t):=by
 obtain⟨⟨i,_⟩,⟨c,_⟩,g,_⟩:=f;unfold Ha;have h:(C0 t.1&&C0 t.2.1)=true/\True->b7 ((t.1.length:Int)*(t.2.1.length:Int)):=fun a=>by
  have a:=a.1;rw[ba] at a;obtain⟨k,d⟩:=Bu a.1;obtain⟨j,b⟩:=Bu a.2;have l:t.1.length*t.2.1.length<=4*4:=Nat.mul_le_mul d b;have e:(t.1.length:Int)*(t.2.1.length:Int)=((t.1.length*t.2.1.length:Nat):Int):=by simp
  rw[e];exact oo
 rw[J0m _ i,J0m _ c,FB _ _ _ g,vS,vS,vS,gP ⟨rfl,fun _=>rfl,h,fun _=>rfl,trivial⟩];congr 1
 grind[x4]
theorem L0p(t:m4)(l:wf y269 t):Jj t=some (x4 t):=by
 obtain⟨⟨o,_⟩,⟨f,_⟩,c,_⟩:=l;unfold Jj;have m:(!C0 t.1||!C0 t.2.1)=false/\True->b7 ((t.1.length:Int)*(t.2.1.length:Int)):=fun a=>by
  have a:=a.1;simp only[Bool.or_eq_false_iff,Bool.not_eq_false'] at a;obtain⟨r,j⟩:=Bu a.1;obtain⟨q,d⟩:=Bu a.2;have s:t.1.length*t.2.1.length<=4*4:=Nat.mul_le_mul j d;have e:(t.1.length:Int)*(t.2.1.length:Int)=((t.1.length*t.2.1.length:Nat):Int):=by simp
  rw[e];exact oo
 rw[J0n _ o,J0n _ f,vS,vS,gP ⟨rfl,fun _=>rfl,m,trivial⟩];have b:=C4 (n:=t.2.2.length) c (fun i=>!j3 (t.2.2.getD i 0) (-1000000) 1000000) (some false) (e:=some true) (F:=WJ t) (fun g i hi=>AO hi c ⟨oo,rfl,trivial⟩) (fun g=>aE);rw[b,N0 t.2.2 0 (fun x=>!j3 x (-1000000) 1000000)];have e:((t.2.2.length:Int) != (t.1.length:Int)*(t.2.1.length:Int))=!decide (t.2.2.length=t.1.length*t.2.1.length):=by
  rw[Bool.eq_iff_iff];simp only[bne_iff_ne,Bool.not_eq_true',decide_eq_false_iff_not,ne_eq];constructor
  ·intro h k; exact h (by exact_mod_cast k)
  ·intro h k; exact h (by exact_mod_cast k)
 grind[x4,Z9,C0,decide,j3]
end Go.Proofs.YtechodbafnmddaaGreatDoor
end
section
namespace Go.Proofs.YtechodbafnmddaaGreatDoor
open Go Go.Proofs Go.Proofs.Sv Go.Proofs.Xv Go.Proofs.Xl Go.Proofs.Xd
theorem NY(s:ByteArray)(h:s.size<=9223372036854775807):T8 s=some (D5 s):=by
 have a:=C4 (n:=s.size) h (fun i=>!Dg (B3 s i) i) (some false) (e:=MN s ()) (F:=Wt s) (fun g i hi=>by
  refine(B0V hi h ⟨oo,fun _=>oo,trivial⟩ ⟨oo,fun _=>oo,trivial⟩).trans ?_;have c:decide ((0:Int) < (i:Int))=decide (0<i):=by rw[decide_eq_decide]; omega
  have b:((i:Int)).toNat=i:=rfl;rw[c,b];unfold Dg Z7 Hi;rw[Bool.not_or]) (fun g=>aE)
 refine a.trans ?_;unfold D5 MN;rw[p0b];cases(List.range s.size).any fun i=>!Dg (B3 s i) i
 ·rfl
 ·rfl
theorem Sm(s:ByteArray)(h:s.size<=9223372036854775807):L7 s=some (D5 s):=by
 unfold L7;have f:CY s ⟨#[97,98,99,100,101,102,103,104,105,106,107,108,109,110,111,112,113,114,115,116,117,118,119,120,121,122,48,49,50,51,52,53,54,55,56,57]⟩=some ⟨(Lib.trimS s.data.toList low36).toArray⟩:=if_pos ⟨by decide,by decide⟩;have g:∀c,Nl ⟨#[97,98,99,100,101,102,103,104,105,106,107,108,109,110,111,112,113,114,115,116,117,118,119,120,121,122]⟩ c=some (Lib.indexByte low26 c.toNat.toUInt8):=fun _=>rfl;rw[f,g,R5,vS,vS,vS,gP ⟨rfl,fun _=>rfl,fun d=>⟨by decide,by
  have:=d.1;rw[ba,r6] at this;omega⟩,fun _=>rfl,trivial⟩,lE]
 refine congrArg some ?_;show(j3 (s.size:Int) 1 8&&decide ((⟨(Lib.trimS s.data.toList low36).toArray⟩:ByteArray)=⟨#[]⟩)&&decide (0<=Lib.indexByte low26 (B3 s (Int.toNat 0)).toNat.toUInt8))=D5 s;by_cases e:1<=s.size/\s.size<=8
 ·rw[v0Z s e.1 e.2];have a:j3 (s.size:Int) 1 8=true:=by rw[r6]; omega
  have b:decide ((⟨(Lib.trimS s.data.toList low36).toArray⟩:ByteArray)=⟨#[]⟩)=(Lib.trimS s.data.toList low36==[]):=by
   rw[Bool.eq_iff_iff,dq,beq_iff_eq];constructor
   ·intro h;injection h with h;have:=congrArg Array.toList h;simpa using this
   ·intro h; rw[h]
  rw[a,b,Bool.true_and];rfl
 ·have a:j3 (s.size:Int) 1 8=false:=by rw[<- Bool.not_eq_true,r6]; omega
  have b:D5 s=false:=by
   rw[<- Bool.not_eq_true];intro d;simp only[D5,ba,dq] at d;omega
  rw[a,b]; rfl
theorem L0u(xs:List ByteArray)(x:ByteArray)(h:xs.length<=9223372036854775807):Nk xs x=some (xs.any fun y=>decide (x=y)):=by
 have a:Nj xs x=_:=Bx h (fun i=>decide (x=xs.getD i (a6 .str))) (fun g i hi=>by
  refine(if_pos (by simpa using hi)).trans ?_;rw[gP ⟨oo,trivial⟩,gP ⟨oo,trivial⟩];rfl) (fun g=>aE)
 have:=FA a;rw[N0 xs (a6 .str) (fun y=>decide (x=y))] at this;exact this
theorem Lt(xs:List ByteArray)(c:wf (.sl .str) xs):Q7 xs=some (x6 xs.length fun i=>xs.getD i (a6 .str)):=by
 have h:=c.1;have a:=C4 (n:=xs.length) h (fun i=>!D5 (xs.getD i (a6 .str))||K1 (fun i=>xs.getD i (a6 .str)) i) (some false) (e:=some true) (F:=YL xs) (fun g i hi=>by
  have j:=H6 (d:=a6 .str) hi c;have l:(xs.take i).length<=9223372036854775807:=by rw[List.length_take]; omega
  have f:=Sm _ j;have b:=L0u (xs.take i) (xs.getD i (a6 .str)) l;rw[v0l xs (a6 .str) i hi] at b;have k:((i:Int)).toNat=i:=rfl;refine(if_pos (by simpa using hi)).trans ?_;rw[k,f,b,vS,vS,gP ⟨oo,trivial⟩,gP ⟨rfl,fun _=>⟨by omega,by omega,by omega⟩,fun _=>rfl,trivial⟩,gP ⟨oo,trivial⟩]) (fun g=>aE)
 refine a.trans ?_;unfold x6;cases(List.range xs.length).any fun i=>!D5 (xs.getD i (a6 .str))||K1 (fun i=>xs.getD i (a6 .str)) i <;> rfl
theorem Sn(xs:List ByteArray)(c:wf (.sl .str) xs):Az xs=some (x6 xs.length fun i=>xs.getD i (a6 .str)):=by
 have h:=c.1;have b:=C4 (n:=xs.length) h (fun i=>!D5 (xs.getD i (a6 .str))||K1 (fun i=>xs.getD i (a6 .str)) i) (some false) (e:=some true) (F:=Ww xs) (fun g i hi=>by
  have j:=H6 (d:=a6 .str) hi c;have f:=NY _ j;have m:((i:Int)).toNat=i:=rfl;have a:=C4 (n:=i) (by omega) (fun k=>decide (xs.getD k (a6 .str)=xs.getD i (a6 .str))) (some false) (e:=g ((i:Int)+1)) (F:=Wv xs (i:Int) g) (fun o k l=>by
   refine(AO l (by omega) ⟨oo,oo,trivial⟩).trans ?_;rfl) (fun o=>by
   refine aE.trans ?_;unfold Qx;exact gP ⟨oo,trivial⟩)
  refine(if_pos (by simpa using hi)).trans ?_;rw[m,f,vS,gP ⟨oo,rfl,trivial⟩,a];unfold K1;cases D5 (xs.getD i (a6 .str)) <;> cases(List.range i).any fun k=>decide (xs.getD k (a6 .str)=xs.getD i (a6 .str)) <;> rfl) (fun g=>aE)
 refine b.trans ?_;unfold x6;cases(List.range xs.length).any fun i=>!D5 (xs.getD i (a6 .str))||K1 (fun i=>xs.getD i (a6 .str)) i <;> rfl
theorem J0o(xs:List Int)(h:xs.length<=9223372036854775807)(b:1<=xs.length):GZ xs=some (W5 xs):=by
 unfold GZ;rw[if_neg (by simp; omega)];unfold Re;rw[gP ⟨oo,trivial⟩];have a:=lF (n:=xs.length-1) (by omega) (fun i (m:Int)=>(m,((i+1:Nat):Int))) (fun i m=>min m (xs.getD (i+1) 0)) (fun _ _=>True) (J:=fun m=>some m) (F:=Rd xs) (fun g i s hi _=>by
  refine(if_pos (by simp; omega)).trans ?_;rw[gP ⟨oo,trivial⟩,gP ⟨oo,trivial⟩];rfl) (fun _ _ _ _=>trivial) (fun g s _=>by
  have e:xs.length-1+1=xs.length:=by omega
  show Rd xs g (s,((xs.length-1+1:Nat):Int))=some s;rw[e];exact aE) (xs.getD 0 0) trivial
 exact a
theorem L0o(t:m4)(p:Bool)(a:wf y269 t):KG t p=some (!x4 t||p&&decide (W5 t.2.2<0)):=by
 unfold KG;have c:p=true/\(!x4 t)=false/\True->(GZ t.2.2).isSome=true:=fun d=>by
  have b:x4 t=true:=by simpa using d.2.1
  rw[J0o _ a.2.2.1 (Dh b).2.2.2.2.2.1]; rfl
 rw[L0n t a,vS,gP ⟨rfl,c,trivial⟩,lE];refine congrArg some ?_;cases hT:x4 t with
 | false=>rfl
 | true=>rw[J0o _ a.2.2.1 (Dh hT).2.2.2.2.2.1,vS]
theorem So(l:List m4)(p:Bool)(a:wf (.sl y269) l):O7 l p=some (C1 l p):=by
 have h:=a.1;have c:Ns l p=_:=Bx h (fun i=>!x4 (l.getD i (a6 y269))||p&&decide (W5 (l.getD i (a6 y269)).2.2<0)) (fun g i hi=>Fz hi h (L0o _ _ (H6 hi a))) (fun g=>aE);have b:Nt l p=_:=FA c;rw[N0 l (a6 y269) (fun t=>!x4 t||p&&decide (W5 t.2.2<0))] at b;unfold O7;rw[b,vS,gP ⟨fun _=>rfl,trivial⟩];refine congrArg some ?_;unfold C1;have e:((l.length:Int)==2)=decide (l.length=2):=by
  rw[Bool.eq_iff_iff,beq_iff_eq,dq]; omega
 rw[e,<- Z9];congr 3;funext t;rw[Bool.not_and,Bool.not_not]
theorem p0o(xs:List Int):∀n,(fN (fun i (s:Int×Int)=>(min s.1 (xs.getD (i+1) 0),max s.2 (xs.getD (i+1) 0))) n (xs.getD 0 0,xs.getD 0 0)).1=fN (fun i m=>min m (xs.getD (i+1) 0)) n (xs.getD 0 0)
 | 0=>rfl
 | n+1=>by rw[fN,fN,p0o xs n]
theorem L0r(t:m4)(b:wf y269 t):∃l,Jk t=some (if x4 t=true then((W5 t.2.2,l),0) else((0,0),1)):=by
 unfold Jk;rw[L0p t b,vS,gP ⟨rfl,trivial⟩];cases hT:x4 t with
 | false=>exact⟨0,rfl⟩
 | true =>
   have c:=(Dh hT).2.2.2.2.2.1;have h:=b.2.2.1;have a:=lF (n:=t.2.2.length-1) (by omega) (fun i (s:Int×Int)=>(((i+1:Nat):Int),s.1,s.2)) (fun i s=>(min s.1 (t.2.2.getD (i+1) 0),max s.2 (t.2.2.getD (i+1) 0))) (fun _ _=>True) (J:=fun s=>some ((s.1,s.2),(0:Int))) (F:=Qy t) (fun g i s hi _=>by
    refine(if_pos (by simp; omega)).trans ?_;rw[gP ⟨oo,trivial⟩,gP ⟨oo,trivial⟩,gP ⟨oo,trivial⟩];rfl) (fun _ _ _ _=>trivial) (fun g s _=>by
    have e:t.2.2.length-1+1=t.2.2.length:=by omega
    show Qy t g (((t.2.2.length-1+1:Nat):Int),s.1,s.2)=_;rw[e];exact aE) (t.2.2.getD 0 0,t.2.2.getD 0 0) trivial
   rw[if_neg (by simp),gP ⟨oo,oo,trivial⟩];rw[p0o] at a;exact⟨_,a⟩
theorem Lu(l:List m4)(p:Bool)(f:wf (.sl y269) l):Q5 l p=some (C1 l p):=by
 unfold Q5;have e:((l.length:Int) != 2)=!decide (l.length=2):=by
  rw[Bool.eq_iff_iff]; simp; omega
 rw[e];unfold C1;by_cases a:l.length=2
 ·have b:=C4 (n:=2) (by decide) (fun i=>!x4 (l.getD i (a6 y269))||p&&decide (W5 (l.getD i (a6 y269)).2.2<0)) (some false) (e:=some true) (F:=Qz p l) (fun g i hi=>by
   obtain⟨m,d⟩:=L0r (l.getD i (a6 y269)) (H6 (by omega) f);have h:((i:Int)).toNat=i:=rfl;refine(if_pos (by simp; omega)).trans ?_;rw[h,d,vS,gP ⟨oo,rfl,trivial⟩,lE,gP ⟨oo,trivial⟩];cases x4 (l.getD i (a6 y269)) <;> rfl) (fun g=>by
   unfold Qz;exact if_neg (by decide))
  rw[decide_eq_true a,if_neg (by simp)];refine b.trans ?_;have:=N0 l (a6 y269) (fun t=>!x4 t||p&&decide (W5 t.2.2<0));rw[a] at this;rw[this,<- Z9,Bool.true_and];have c:(fun t:m4=>!(x4 t&&!(p&&decide (W5 t.2.2<0))))=fun t=>!x4 t||p&&decide (W5 t.2.2<0):=by
   funext t; rw[Bool.not_and,Bool.not_not]
  rw[c];cases l.any fun t=>!x4 t||p&&decide (W5 t.2.2<0) <;> rfl
 ·rw[decide_eq_false a]; rfl
abbrev m8(c:k6)(i:Nat):A6:=c.2.2.1.getD i (a6 y293)
abbrev j5(c:k6)(i:Nat):r7:=c.2.2.2.1.getD i (a6 y158)
theorem Sq(c:k6)(a:wf y153 c):O6 c=some ((c.2.2.1.length:Int)-1):=by
 have h:=a.2.2.1.1;have e:Bq c.2.2.1=some (c.2.2.1.length:Int):=rfl;unfold O6;rw[e,vS,gP ⟨rfl,oo,trivial⟩,lE]
theorem J0p(c:k6)(a:wf y153 c)(x:Int):Fh c x=some (j3 x 0 ((c.2.2.1.length:Int)-1-1)):=by
 have h:=a.2.2.1.1;unfold Fh;rw[Sq c a,vS,R5,vS,gP ⟨rfl,oo,rfl,trivial⟩]
theorem L0q(c:k6)(a:wf y153 c):Hb c=some (Di c.2.2.1.length (m8 c)):=by
 have h:=a.2.2.1.1;have b:Nu c.2.2.1=_:=Bx h (fun i=>(m8 c i).2.2.2) (fun g i hi=>Fz hi h rfl) (fun g=>aE);unfold Hb;rw[b,vS,gP ⟨rfl,trivial⟩,lE];rfl
theorem Sr(c:k6)(a:wf y153 c)(k:Int):J8 c k=some (B6 c.2.2.2.1.length (j5 c) k):=by
 have h:=a.2.2.2.1.1;have d:No c.2.2.2.1 k=_:=Bx h (fun i=>(j5 c i).1==k) (fun g i hi=>Fz hi h rfl) (fun g=>aE);have b:Np c.2.2.2.1 k=_:=FA d;unfold J8;rw[b,vS,gP ⟨rfl,trivial⟩];rfl
theorem L0t(c:k6)(a:r7)(e:wf y153 c)(t:wf y158 a):Fi c a=some (Cm c.2.2.1.length (m8 c) a):=by
 obtain⟨_,_,_,_,l,r⟩:=t;have q:Nv a.1=some (a.1==4||a.1==5):=rfl;have m:j3 a.2.1 0 ((c.2.2.1.length:Int)-1-1)=true->ix a.2.1 c.2.2.1.length:=fun h=>by
  rw[r6] at h; exact oo
 unfold Fi;rw[q,So _ _ l,So _ _ l,So _ _ r,L0q c e,J0p c e,J0p c e,Sq c e]
 repeat rw[vS]
 rw[gP ⟨rfl,trivial⟩];unfold Cm;by_cases Bn:a.1=4∨a.1=5
 ·have f:(a.1==4||a.1==5)=true:=by simpa using Bn
  rw[if_pos f,if_pos Bn,gP ⟨fun _=>rfl,fun _=>rfl,fun _=>rfl,trivial⟩,lE]
 ·have f:(a.1==4||a.1==5)=false:=by
   rw[<- Bool.not_eq_true]; simpa using Bn
  rw[f,if_neg (by simp),if_neg Bn,gP ⟨rfl,fun _=>rfl,fun _=>rfl,fun _=>rfl,trivial⟩,lE];by_cases i:C1 a.2.2.2.2.1 true=true/\C1 a.2.2.2.2.2 true=true/\a.2.2.1=(c.2.2.1.length:Int)-1/\j3 a.2.1 0 ((c.2.2.1.length:Int)-1-1)=true
  ·obtain⟨k,o,n,d⟩:=i;have u:(C1 a.2.2.2.2.1 true&&C1 a.2.2.2.2.2 true&&a.2.2.1==(c.2.2.1.length:Int)-1&&j3 a.2.1 0 ((c.2.2.1.length:Int)-1-1))=true:=by
    rw[k,o,d,n]; simp
   have s:(!C1 a.2.2.2.2.1 true||!C1 a.2.2.2.2.2 true||a.2.2.1 != (c.2.2.1.length:Int)-1||!j3 a.2.1 0 ((c.2.2.1.length:Int)-1-1))=false:=by
    rw[k,o,d,n]; simp
   rw[u,Bool.true_and];refine(if_neg (by rw[s]; simp)).trans ?_;by_cases g:a.1=1
   ·rw[if_pos (beq_iff_eq.2 g),if_pos g,R5,gP ⟨m d,fun _=>rfl,trivial⟩];rfl
   ·rw[if_neg (by grind),if_neg g];have j:∀b,KH c a b=some (if b=true then(m8 c a.2.1.toNat).2.2.2&&a.2.2.2.1==0 else false):=fun b=>by
     unfold KH;cases b with
     | false=>rfl
     | true=>rw[if_pos rfl,if_pos rfl,gP ⟨m d,trivial⟩]
    grind
  grind
theorem L0B(c:k6)(a:r7)(l:wf y153 c)(k:wf y158 a):Jn c a=some (B5 c.2.2.1.length (m8 c) a):=by
 obtain⟨_,_,_,_,e,i⟩:=k;have h:=l.2.2.1.1;unfold Jn;rw[gP ⟨oo,trivial⟩,M3,M3]
 repeat rw[vS]
 rw[gP ⟨oo,rfl,fun _=>rfl,trivial⟩];unfold B5;by_cases f:j3 a.2.1 0 ((c.2.2.1.length:Int)-1-1)=true/\j3 a.2.2.1 0 ((c.2.2.1.length:Int)-1)=true
 ·obtain⟨g,j⟩:=f;have q:=r6.1 g;have m:=r6.1 j;rw[g,j,if_neg (by simp),gP ⟨oo,trivial⟩,lE,Bool.true_and,Bool.true_and];by_cases d:a.1=1
  ·rw[if_pos (beq_iff_eq.2 d),if_pos d,M3,Lu _ _ e,Lu _ _ i,gP ⟨fun _=>rfl,fun _=>rfl,fun _=>rfl,trivial⟩];rfl
  ·rw[if_neg (by grind),if_neg d];have o:∀b,Jl (m8 c a.2.1.toNat) a c b=some (if b=true then(m8 c a.2.1.toNat).2.2.2&&decide (a.2.2.1 < (c.2.2.1.length:Int)-1)&&!(m8 c a.2.2.1.toNat).2.2.2&&a.2.2.2.1==0&&C1 a.2.2.2.2.1 false&&(a.2.2.2.2.2.length:Int)==0 else false):=fun b=>by
    unfold Jl;cases b with
    | false=>rfl
    | true =>
      rw[if_pos rfl,if_pos rfl,Lu _ _ e,gP ⟨fun _=>oo,fun _=>rfl,trivial⟩];rfl
   have n:∀b,Jm (m8 c a.2.1.toNat) a c b=some (if b=true then(m8 c a.2.1.toNat).2.2.2&&a.2.2.1==(c.2.2.1.length:Int)-1&&a.2.2.2.1==0&&C1 a.2.2.2.2.1 true&&C1 a.2.2.2.2.2 true else if a.1=4∨a.1=5 then(m8 c a.2.1.toNat).2.2.2&&decide (a.2.2.1 < (c.2.2.1.length:Int)-1)&&!(m8 c a.2.2.1.toNat).2.2.2&&a.2.2.2.1==0&&C1 a.2.2.2.2.1 false&&(a.2.2.2.2.2.length:Int)==0 else false):=fun b=>by
    unfold Jm;cases b with
    | true =>
      rw[if_pos rfl,if_pos rfl,Lu _ _ e,Lu _ _ i,gP ⟨fun _=>rfl,fun _=>rfl,trivial⟩];rfl
    | false =>
      grind
   grind
 grind
theorem Ss{c:k6}(a:wf y153 c):wf (.sl y293) c.2.2.1:=a.2.2.1
theorem Su{c:k6}(a:wf y153 c):wf (.sl y158) c.2.2.2.1:=a.2.2.2.1
theorem Hu{a:Type}(l:List a)(f:a->ByteArray)(d:a)(e:ByteArray):x6 (l.map f).length (fun i=>(l.map f).getD i e)=x6 l.length fun i=>f (l.getD i d):=by
 grind[List.length_map,l0Q,hi,t0B]
theorem Hv{a:Type}{l:List a}{f:a->ByteArray}(h:l.length<=9223372036854775807)(c:∀x∈l,(f x).size<=9223372036854775807):wf (.sl .str) (l.map f):=by
 refine⟨by grind,fun x d=>?_⟩;obtain⟨y,b,rfl⟩:=List.mem_map.1 d;exact c y b
def R6(f:Nat->ByteArray)(i:Nat)(s:List ByteArray):List ByteArray:=s++[f i]
theorem t0D(f:Nat->ByteArray):∀n,fN (R6 f) n []=(List.range n).map f
 | 0=>rfl
 | n+1=>by
   rw[fN,t0D f n,List.range_succ,List.map_append]; rfl
theorem Hw{a:Type}(l:List a)(d:a)(f:a->ByteArray):fN (R6 fun i=>f (l.getD i d)) l.length []=l.map f:=by
 rw[t0D,s0K]
theorem NZ{n i b:Nat}(h:i<n)(c:n<=1048576)(a:b<=4096):i+1<=9223372036854775807/\(i+1)*b<=140737488355328:=by
 have:(i+1)*b<=1048576*4096:=Nat.mul_le_mul (by omega) a;exact oo
theorem L0x(l:List A6)(d:wf (.sl y293) l)(e:l.length<=1048576):CZ l=some (W6 l.length fun i=>l.getD i (a6 y293)):=by
 have h:=d.1;have c:=Lv (n:=l.length) h (fun i (s:List ByteArray)=>(s,(i:Int))) (R6 fun i=>(l.getD i (a6 y293)).1) (fun i=>!AJ l.length (l.getD i (a6 y293)) i) (some false) (fun i s=>s.length=i) (J:=KJ l) (F:=Zg l) (fun g i s hi w=>by
  refine(if_pos (by simpa using hi)).trans ?_;have o:((i:Int)).toNat=i:=rfl;have H:(s++[(l.getD i (a6 y293)).1]).length<=9223372036854775807:=by rw[List.length_append]; show s.length+1<=_; omega
  have G:=NZ (b:=16) hi e (by decide);have y:∀a,Ny (i:Int) g a=g (a,((i+1:Nat):Int)):=fun a=>gP ⟨oo,trivial⟩;rw[o,gP ⟨oo,trivial⟩,lE,gP ⟨⟨by show s.length+1<=_; omega,by show(s.length+1)*16<=_; omega⟩,trivial⟩,gP ⟨oo,trivial⟩,y,R5,gP ⟨fun _=>rfl,trivial⟩,vS];unfold AJ R6;dsimp only;by_cases z:i+1=l.length
  ·have f:((i:Int)==(l.length:Int)-1)=true:=by rw[beq_iff_eq]; omega
   rw[if_pos f,if_pos z];generalize l.getD i (a6 y293)=q;have E:(q.2.1 != 2)=!(q.2.1==2):=rfl;have P:(q.2.2.1 != 0)=!(q.2.2.1==0):=rfl
   grind[j3]
  grind) (fun i s hi w _=>by grind[R6,List.length_append]) (fun g s _=>aE) [] rfl
 refine c.trans ?_;rw[Hw];have m:wf (.sl .str) (l.map fun q:A6=>q.1):=Hv h fun x j=>(d.2 x j).1;have u:Bq l=some (l.length:Int):=rfl;have r:∀v:List ByteArray,wf (.sl .str) v->KJ l v=some (j3 (l.length:Int) 2 5&&x6 v.length fun i=>v.getD i (a6 .str)):=fun v t=>by
  rw[KJ];rw[u,Lt _ t]
  repeat rw[vS]
  rw[R5,vS,gP ⟨rfl,rfl,fun _=>rfl,trivial⟩]
 rw[r _ m,Hu l (fun q:A6=>q.1) (a6 y293)];unfold W6;have k:j3 (l.length:Int) 2 5=(decide (2<=l.length)&&decide (l.length<=5)):=by
  rw[Bool.eq_iff_iff,r6]; simp; omega
 rw[k];cases(List.range l.length).any fun i=>!AJ l.length (l.getD i (a6 y293)) i
 ·simp
 ·simp
theorem L0C(c:k6)(x:wf y153 c):Jo c=some (if W6 c.2.2.1.length (m8 c)=true then(D1 c.2.2.1.length (m8 c),true) else(0,false)):=by
 have m:=Ss x;have h:=m.1;unfold Jo;by_cases b:2<=c.2.2.1.length/\c.2.2.1.length<=5
 ·have l:(decide ((c.2.2.1.length:Int)<2)||decide (5 < (c.2.2.1.length:Int)))=false:=by
   rw[<- Bool.not_eq_true]; simp; omega
  rw[l,if_neg (by simp)];have j:=Lv (n:=c.2.2.1.length) h (fun i (s:Int)=>(s,(i:Int))) (fun i s=>if(m8 c i).2.2.2=true then s+1 else s) (fun i=>(!D5 (m8 c i).1||K1 (fun i=>(m8 c i).1) i)||!AJ c.2.2.1.length (m8 c i) i) (some ((0:Int),false)) (fun i s=>0<=s/\s<=i) (J:=QA) (F:=WO c) (fun g i s hi Q=>by
   refine(if_pos (by simpa using hi)).trans ?_;have y:((i:Int)).toNat=i:=rfl;have E:(m8 c i).1.size<=9223372036854775807:=(H6 (d:=a6 y293) hi m).1;rw[y,gP ⟨oo,trivial⟩,lE];have a:=C4 (n:=i) (by omega) (fun k=>decide ((m8 c k).1=(m8 c i).1)) (some ((0:Int),false)) (e:=MT (i:Int) s (m8 c i) c g ()) (F:=WN c (m8 c i) (i:Int) s g) (fun G k v=>AO v (by omega) ⟨oo,trivial⟩) (fun G=>aE);refine a.trans ?_;have r:MT (i:Int) s (m8 c i) c g ()=if(!D5 (m8 c i).1||!AJ c.2.2.1.length (m8 c i) i)=true then some ((0:Int),false) else g (if(m8 c i).2.2.2=true then s+1 else s,((i+1:Nat):Int)):=by
    have o:∀f,MS (i:Int) g f=g (f,((i+1:Nat):Int)):=fun f=>gP ⟨oo,trivial⟩;show gd _ (if(!vl (T8 (m8 c i).1)||!vl (m7 (m8 c i).2.2.1 0 500))=true then _ else gd _ (if _=true then _ else if _=true then gd _ _ else _))=_;rw[NY _ E,M3,vS,vS,gP ⟨rfl,fun _=>rfl,trivial⟩,gP ⟨oo,fun _=>oo,trivial⟩,gP ⟨oo,trivial⟩,o,o];generalize m8 c i=q;have t:((i:Int)==(c.2.2.1.length:Int)-1)=decide (i+1=c.2.2.1.length):=by
     rw[Bool.eq_iff_iff,beq_iff_eq,dq]; omega
    have w:decide ((i:Int) < (c.2.2.1.length:Int)-1)=!decide (i+1=c.2.2.1.length):=by
     rw[Bool.eq_iff_iff]; simp; omega
    rw[t,w];have hz:AJ c.2.2.1.length q i=(j3 q.2.2.1 0 500&&(if decide (i+1=c.2.2.1.length)=true then q.2.1==2&&q.2.2.1==0&&!q.2.2.2 else q.2.1==1)):=by
     unfold AJ;by_cases X:i+1=c.2.2.1.length
     ·grind
     ·grind
    rw[hz];have u:(q.2.1 != 2)=!(q.2.1==2):=rfl;have T:(q.2.2.1 != 0)=!(q.2.2.1==0):=rfl;have n3:(q.2.1 != 1)=!(q.2.1==1):=rfl;rw[u,T,n3];cases D5 q.1 <;> cases j3 q.2.2.1 0 500 <;> cases decide (i+1=c.2.2.1.length) <;> cases q.2.1==2 <;> cases q.2.2.1==0 <;> cases q.2.1==1 <;> cases q.2.2.2 <;> rfl
   rw[r];have W:K1 (fun i=>(m8 c i).1) i=(List.range i).any fun k=>decide ((m8 c k).1=(m8 c i).1):=rfl
   grind) (fun i s hi Q _=>by
   omega) (fun g s _=>aE) 0 oo
  refine j.trans ?_;rw[NS];unfold W6 x6;rw[decide_eq_true b.1,decide_eq_true b.2];cases(List.range c.2.2.1.length).any (fun i=>!D5 (m8 c i).1||K1 (fun i=>(m8 c i).1) i) <;> cases(List.range c.2.2.1.length).any (fun i=>!AJ c.2.2.1.length (m8 c i) i) <;> rfl
 ·have l:(decide ((c.2.2.1.length:Int)<2)||decide (5 < (c.2.2.1.length:Int)))=true:=by
   simp; omega
  have V:¬W6 c.2.2.1.length (m8 c)=true:=fun H=>by
   obtain⟨P,z,_⟩:=Hk H;exact b ⟨P,z⟩
  grind
theorem L0w(c:k6)(k:wf y153 c):Fj c=some (Ft (Cm c.2.2.1.length (m8 c)) c.2.2.2.1.length (j5 c)):=by
 have j:=Su k;have h:=j.1;have s:∀(a:List r7) (o:r7),a.length<=9223372036854775807->KI a o=some (a.any fun x=>x.1==o.1&&x.2.1==o.2.1&&x.2.2.1==o.2.2.1):=fun a o l=>by
  have m:Nw a o=_:=Bx l (fun i=>(a.getD i (a6 y158)).1==o.1&&(a.getD i (a6 y158)).2.1==o.2.1&&(a.getD i (a6 y158)).2.2.1==o.2.2.1) (fun g i hi=>Fz hi l rfl) (fun g=>aE);have d:KI a o=_:=FA m;rw[N0 a (a6 y158) (fun x=>x.1==o.1&&x.2.1==o.2.1&&x.2.2.1==o.2.2.1)] at d;exact d
 have b:=C4 (n:=c.2.2.2.1.length) h (fun i=>!Cm c.2.2.1.length (m8 c) (j5 c i)||Hj (j5 c) i) (some false) (e:=Nx c ()) (F:=Zf c) (fun g i hi=>by
  have r:((i:Int)).toNat=i:=rfl;have t:(c.2.2.2.1.take i).length<=9223372036854775807:=by rw[List.length_take]; omega
  have q:=L0t c (j5 c i) k (H6 hi j);have f:=s (c.2.2.2.1.take i) (j5 c i) t;rw[s0k c.2.2.2.1 (a6 y158) _ i (by omega)] at f;refine(if_pos (by grind)).trans ?_;rw[r,gP ⟨oo,trivial⟩,lE,q,f,vS,vS,gP ⟨rfl,fun _=>⟨by omega,by omega,by omega⟩,fun _=>rfl,trivial⟩,gP ⟨oo,trivial⟩];rfl) (fun g=>aE)
 refine b.trans ?_;unfold Ft Nx;have e:decide ((c.2.2.2.1.length:Int)<=8)=decide (c.2.2.2.1.length<=8):=by rw[decide_eq_decide]; omega
 rw[e];cases(List.range c.2.2.2.1.length).any fun i=>!Cm c.2.2.1.length (m8 c) (j5 c i)||Hj (j5 c) i
 ·simp
 ·simp
theorem Lw{n:Nat}(h:1<=n):((n:Int)-1).toNat=n-1:=by omega
theorem L0v(c:k6)(a:wf y153 c)(v:2<=c.2.2.1.length)(q:c.2.2.1.length<=5):Nr c=some (Hl c.2.1 c.2.2.1.length (m8 c) c.2.2.2.1.length (j5 c) c.2.2.2.2.1):=by
 have r:=Ss a;have h:=r.1;have o:=a.2.2.2.2.1.1;have f:=lF (n:=c.2.2.1.length) h (fun i (s:Int)=>(s,(i:Int))) (fun i s=>if(m8 c i).2.2.2=true then s+1 else s) (fun i s=>0<=s/\s<=i) (J:=GY c) (F:=YQ c) (fun g i s hi t=>by
  have l:∀d,Nq (i:Int) g d=g (d,((i+1:Nat):Int)):=fun d=>gP ⟨oo,trivial⟩;have u:((i:Int)).toNat=i:=rfl;refine(if_pos (by grind)).trans ?_;rw[u,gP ⟨oo,trivial⟩,lE,gP ⟨oo,trivial⟩,l,l]
  grind) (fun i s hi t=>by
  omega) (fun g s _=>aE) 0 oo
 refine f.trans ?_;show GY c (D1 c.2.2.1.length (m8 c))=_;have m:∀b:Int,GY c b=some (if c.2.1=1 then b==0&&(c.2.2.2.2.1.length:Int)==1*2 ^ (c.2.2.1.length-1)&&c.2.2.2.2.1.all (j3 · 0 1)
  else if c.2.1=2 then b==1&&(c.2.2.2.2.1.length:Int)==0&&!B6 c.2.2.2.1.length (j5 c) 1&&!(B6 c.2.2.2.1.length (j5 c) 2==B6 c.2.2.2.1.length (j5 c) 3)
  else if c.2.1=3 then b==1&&(c.2.2.2.2.1.length:Int)==0&&B6 c.2.2.2.1.length (j5 c) 1&&B6 c.2.2.2.1.length (j5 c) 2&&!B6 c.2.2.2.1.length (j5 c) 3
  else false):=fun b=>by
  rw[GY,Sq c a,FB _ _ _ o,Sr c a,Sr c a,Sr c a]
  repeat rw[vS]
  rw[Lw (by omega)];by_cases e:c.2.1=1
  ·rw[if_pos (beq_iff_eq.2 e),if_pos e,gP ⟨fun _=>rfl,fun _=>⟨by omega,z0A q⟩,fun _=>rfl,trivial⟩,lE,Lw (by omega)]
  ·rw[if_neg (by grind),if_neg e];by_cases j:c.2.1=2
   ·rw[if_pos (beq_iff_eq.2 j),if_pos j,gP ⟨fun _=>rfl,fun _=>rfl,fun _=>rfl,trivial⟩]
   ·rw[if_neg (by grind),if_neg j];by_cases k:c.2.1=3
    ·rw[if_pos (beq_iff_eq.2 k),if_pos k,gP ⟨fun _=>rfl,fun _=>rfl,fun _=>rfl,trivial⟩]
    grind
 exact m (D1 c.2.2.1.length (m8 c))
abbrev AP(q:Nat->(Nat->I8)->A7->Bool)(c:k6):Bool:=O9 q c.1 c.2.1 c.2.2.1.length (m8 c) c.2.2.2.1.length (j5 c) c.2.2.2.2.1 c.2.2.2.2.2.1 c.2.2.2.2.2.2
theorem L0E(c:k6)(b:wf y153 c)(d:c.2.2.1.length<=1048576):KK c=some (AP B5 c):=by
 have g:=Ss b;show _=some (O9 B5 _ _ _ _ _ _ _ _ _);rw[<- B0P];unfold KK O9;rw[Sm c.1 b.1,L0x _ g d,L0w c b,R5,R5]
 repeat rw[vS]
 cases hpo:W6 c.2.2.1.length (m8 c) with
 | false =>
   rw[gP ⟨rfl,fun _=>rfl,fun a=>by simp at a,fun a=>by simp at a,fun a=>by simp at a,fun a=>by simp at a,trivial⟩];simp
 | true =>
   obtain⟨e,f,_⟩:=Hk hpo;rw[L0v c b e f,vS,gP ⟨rfl,fun _=>rfl,fun _=>rfl,fun _=>rfl,fun _=>rfl,fun _=>rfl,trivial⟩]
theorem L0A(c:k6)(r:wf y153 c)(w:c.2.2.2.1.length<=8)(k:∀i,i<c.2.2.2.1.length->1<=(j5 c i).1/\(j5 c i).1<=5):Ji c=some (fN (Fv (j5 c)) c.2.2.2.1.length (List.replicate 6 0)):=by
 have h:=(Su r).1;unfold Ji;rw[gP ⟨⟨by omega,rfl,by decide,by omega⟩,trivial⟩];have t:=lF (n:=c.2.2.2.1.length) h (fun i (v:List Int)=>((i:Int),v)) (Fv (j5 c)) (fun i v=>i<=c.2.2.2.1.length/\v=fN (Fv (j5 c)) i (List.replicate 6 0)) (J:=fun v=>some v) (F:=WD c) (fun g i v hi e=>by
  obtain⟨o,q⟩:=RV (j5 c) i (fun j x=>k j (by omega));obtain⟨y,z⟩:=k i hi;have l:v.length=6:=by rw[e.2]; exact o
  have a:=q (j5 c i).1.toNat (by omega);have m:=Ln (j5 c) ((j5 c i).1.toNat:Int) i;rw[<- e.2] at a;have u:((i:Int)).toNat=i:=rfl;refine(if_pos (by grind)).trans ?_;have f:b7 (v.getD (j5 c i).1.toNat 0+1):=by rw[a]; exact oo
  have d:ix (j5 c i).1 v.length:=oo;have b:(j5 c i).1.toNat<v.length:=by omega
  rw[u,gP ⟨oo,d,b,f,d,b,trivial⟩,lE,gP ⟨oo,trivial⟩];rfl) (fun i v hi e=>⟨by omega,by rw[e.2]; rfl⟩) (fun g s _=>aE) (List.replicate 6 0) ⟨by omega,rfl⟩
 grind
theorem L0G(c:k6)(f:wf y153 c):Jq c=some (AP B5 c):=by
 have T:=Su f;have h:=T.1;show _=some (O9 B5 _ _ _ _ _ _ _ _ _);unfold Jq O9;rw[L0C c f,NY c.1 f.1,M3,M3]
 repeat rw[vS]
 rw[gP ⟨rfl,trivial⟩,lE,gP ⟨fun _=>rfl,fun _=>rfl,fun _=>rfl,trivial⟩];cases hpo:W6 c.2.2.1.length (m8 c) with
 | false =>
   grind
 | true =>
   obtain⟨h2,h5,_⟩:=Hk hpo;have e9:(if true=true then(D1 c.2.2.1.length (m8 c),true) else((0:Int),false))=(D1 c.2.2.1.length (m8 c),true):=rfl;rw[e9];by_cases q:D5 c.1=true/\c.2.2.2.1.length<=8/\j3 c.2.2.2.2.2.1 0 100000=true/\j3 c.2.2.2.2.2.2 0 100000=true
   ·obtain⟨g1,g2,E,g4⟩:=q;have e0:decide (8 < (c.2.2.2.1.length:Int))=false:=decide_eq_false (by omega);rw[g1,e0,E,g4];refine(if_neg (by simp)).trans ?_;have z:=C4 (n:=c.2.2.2.1.length) h (fun i=>!B5 c.2.2.1.length (m8 c) (j5 c i)||Hj (j5 c) i) (some false) (e:=MU c (D1 c.2.2.1.length (m8 c),true) ()) (F:=WV c (D1 c.2.2.1.length (m8 c),true)) (fun g i hi=>by
     have e3:((i:Int)).toNat=i:=rfl;have e1:=L0B c (j5 c i) f (H6 hi T);have d:=C4 (n:=i) (by omega) (fun k=>(j5 c k).1==(j5 c i).1&&(j5 c k).2.1==(j5 c i).2.1&&(j5 c k).2.2.1==(j5 c i).2.2.1) (some false) (e:=g ((i:Int)+1)) (F:=WU c (j5 c i) (i:Int) g) (fun E k hk=>AO hk (by omega) ⟨oo,fun _=>oo,fun _=>oo,trivial⟩) (fun E=>by
      refine aE.trans ?_;exact gP ⟨oo,trivial⟩)
     refine(if_pos (by grind)).trans ?_;rw[e3,gP ⟨oo,trivial⟩,lE,e1,vS,gP ⟨rfl,trivial⟩,d];unfold Hj
     grind) (fun g=>aE)
    refine z.trans ?_;unfold Ft;rw[decide_eq_true g2];cases hany:(List.range c.2.2.2.1.length).any fun i=>!B5 c.2.2.1.length (m8 c) (j5 c i)||Hj (j5 c) i with
    | true=>simp
    | false =>
      rw[if_neg (by simp)];have b:∀i,i<c.2.2.2.1.length->B5 c.2.2.1.length (m8 c) (j5 c i)=true:=fun i hi=>by
       grind
      have l:=L0A c f g2 (fun i hi=>m0z (b i hi));obtain⟨w,a⟩:=RV (j5 c) c.2.2.2.1.length (fun i hi=>m0z (b i hi));have W:=a 1 (by omega);have c2:=a 2 (by omega);have Q:=a 3 (by omega);rw[MU,l,vS,gP ⟨rfl,trivial⟩,lE];generalize fN (Fv (j5 c)) c.2.2.2.1.length (List.replicate 6 0)=v at *
      have q1:((v.getD 1 0)==(0:Int))=!B6 c.2.2.2.1.length (j5 c) 1:=by
       rw[W,Hm];have:=(Ln (j5 c) 1 c.2.2.2.1.length).1;rw[Bool.eq_iff_iff]; simp; omega
      have G:decide (0<v.getD 1 0)=B6 c.2.2.2.1.length (j5 c) 1:=by rw[W,Hm]; rfl
      have P:decide (0<v.getD 2 0)=B6 c.2.2.2.1.length (j5 c) 2:=by rw[c2,Hm]; rfl
      have q3:decide (0<v.getD 3 0)=B6 c.2.2.2.1.length (j5 c) 3:=by rw[Q,Hm]; rfl
      have t:((v.getD 3 0)==(0:Int))=!B6 c.2.2.2.1.length (j5 c) 3:=by
       rw[Q,Hm];have:=(Ln (j5 c) 3 c.2.2.2.1.length).1;rw[Bool.eq_iff_iff]; simp; omega
      have X:ix (1:Int) v.length:=oo;have i2:ix (2:Int) v.length:=oo;have i3:ix (3:Int) v.length:=oo;have H:Int.toNat (1:Int)<v.length:=by rw[w]; decide
      have Y:Int.toNat (2:Int)<v.length:=by rw[w]; decide
      have n3:Int.toNat (3:Int)<v.length:=by rw[w]; decide
      unfold Hl;by_cases o:c.2.1=1
      ·rw[if_pos (beq_iff_eq.2 o),if_pos o];have V:=f.2.2.2.2.1.1;have j:=C4 (n:=c.2.2.2.2.1.length) V (fun i=>!j3 (c.2.2.2.2.1.getD i 0) 0 1) (some false) (e:=Jp (D1 c.2.2.1.length (m8 c),true) c ()) (F:=WS c (D1 c.2.2.1.length (m8 c),true)) (fun g i hi=>AO hi V ⟨oo,rfl,trivial⟩) (fun g=>aE);refine j.trans ?_;rw[N0 c.2.2.2.2.1 0 (fun x=>!j3 x 0 1),<- Z9];have e5:Jp (D1 c.2.2.1.length (m8 c),true) c ()=some (D1 c.2.2.1.length (m8 c)==0&&(c.2.2.2.2.1.length:Int)==1*2 ^ (c.2.2.1.length-1)):=by
        rw[Jp,Lw (by omega),gP ⟨fun _=>oo,fun _=>oo,fun _=>⟨by omega,z0A h5⟩,trivial⟩]
       rw[e5];cases c.2.2.2.2.1.any fun x=>!j3 x 0 1 <;> simp
      ·rw[if_neg (by simpa using o),if_neg o];by_cases m:c.2.1=2
       ·rw[if_pos (beq_iff_eq.2 m),if_pos m,gP ⟨fun _=>X,fun _=>H,fun _=>i2,fun _=>Y,fun _=>i3,fun _=>n3,trivial⟩];have y:Int.toNat (1:Int)=1:=rfl;have u:Int.toNat (2:Int)=2:=rfl;have s:Int.toNat (3:Int)=3:=rfl;rw[y,u,s,q1,P,q3];cases D1 c.2.2.1.length (m8 c)==1 <;> cases(c.2.2.2.2.1.length:Int)==0 <;> cases B6 c.2.2.2.1.length (j5 c) 1 <;> cases B6 c.2.2.2.1.length (j5 c) 2 <;> cases B6 c.2.2.2.1.length (j5 c) 3 <;> rfl
       ·rw[if_neg (by simpa using m),if_neg m];by_cases r:c.2.1=3
        ·rw[if_pos (beq_iff_eq.2 r),if_pos r,gP ⟨fun _=>X,fun _=>H,fun _=>i2,fun _=>Y,fun _=>i3,fun _=>n3,trivial⟩];have y:Int.toNat (1:Int)=1:=rfl;have u:Int.toNat (2:Int)=2:=rfl;have s:Int.toNat (3:Int)=3:=rfl;rw[y,u,s,G,P,t];cases D1 c.2.2.1.length (m8 c)==1 <;> cases(c.2.2.2.2.1.length:Int)==0 <;> cases B6 c.2.2.2.1.length (j5 c) 1 <;> cases B6 c.2.2.2.1.length (j5 c) 2 <;> cases B6 c.2.2.2.1.length (j5 c) 3 <;> rfl
        ·rw[if_neg (by grind),if_neg r];rfl
   grind[D5,decide,j3,trans,Ft]
abbrev R7(l:List k6)(i:Nat):k6:=l.getD i (a6 y153)
abbrev Co(l:List k6):Bool:=Bv l.length (fun i=>AP B5 (R7 l i)) (fun i=>(R7 l i).1)
theorem t0Y{c:k6}(h:AP B5 c=true):D5 c.1=true:=by
 grind[O9,B5]
theorem L0Q(l:List k6)(a:wf (.sl y153) l)(f:c9 (.sl y153) l<=1048576):KM l=some (Co l):=by
 have h:=a.1;have q:=w5 f;have d:=Lv (n:=l.length) h (fun i (s:List ByteArray)=>(s,(i:Int))) (R6 fun i=>(R7 l i).1) (fun i=>!AP B5 (R7 l i)) (some false) (fun i s=>s.length=i) (J:=KL l) (F:=Zh l) (fun g i s hi o=>by
  have u:((i:Int)).toNat=i:=rfl;have e:c9 y153 (R7 l i)<=1048576:=K8 hi f;have r:(R7 l i).2.2.1.length<=1048576:=w5 (cF (cS (cS e)));have j:=L0E (R7 l i) (H6 hi a) r;have z:=NZ (b:=16) hi q (by decide);refine(if_pos (by grind)).trans ?_;rw[u,gP ⟨oo,trivial⟩,lE,j,vS,gP ⟨rfl,trivial⟩,gP ⟨⟨by grind,by grind⟩,trivial⟩,gP ⟨oo,trivial⟩];rfl) (fun i s hi o _=>by grind[R6,List.length_append]) (fun g s _=>aE) [] rfl
 refine d.trans ?_;rw[Hw l (a6 y153) (fun c:k6=>c.1)];have m:wf (.sl .str) (l.map fun c:k6=>c.1):=Hv h fun x t=>(a.2 x t).1;have y:∀v:List ByteArray,wf (.sl .str) v->KL l v=some (decide (l.length<=8)&&x6 v.length fun i=>v.getD i (a6 .str)):=fun v w=>by
  have k:decide ((l.length:Int)<=8)=decide (l.length<=8):=by rw[decide_eq_decide]; omega
  rw[KL,Lt _ w,vS,gP ⟨fun _=>rfl,trivial⟩,k]
 rw[y _ m,Hu l (fun c:k6=>c.1) (a6 y153)];show _=some (Bv _ _ _);rw[<- F0M (fun i _ e=>t0Y e)];split <;> rfl
theorem L0U(l:List k6)(c:wf (.sl y153) l):Jr l=some (Co l):=by
 have h:=c.1;have b:=C4 (n:=l.length) h (fun i=>!AP B5 (R7 l i)||K1 (fun i=>(R7 l i).1) i) (some false) (e:=MV l ()) (F:=WY l) (fun g i hi=>by
  have m:((i:Int)).toNat=i:=rfl;have d:=L0G (R7 l i) (H6 hi c);have a:=C4 (n:=i) (by omega) (fun k=>decide ((R7 l k).1=(R7 l i).1)) (some false) (e:=g ((i:Int)+1)) (F:=WX l (i:Int) g) (fun o k j=>AO j (by omega) ⟨oo,oo,trivial⟩) (fun o=>by
   refine aE.trans ?_;exact gP ⟨oo,trivial⟩)
  refine(if_pos (by grind)).trans ?_;rw[m,d,vS,gP ⟨oo,rfl,trivial⟩,a];unfold K1
  grind) (fun g=>aE)
 refine b.trans ?_;show _=some (Bv _ _ _);unfold Bv MV;have f:decide ((l.length:Int)<=8)=decide (l.length<=8):=by rw[decide_eq_decide]; omega
 rw[f];cases(List.range l.length).any (fun i=>!AP B5 (R7 l i)||K1 (fun i=>(R7 l i).1) i) <;> rfl
abbrev j6(d:m6)(i:Nat):A9:=d.1.getD i (a6 y155)
abbrev s7(d:m6)(i:Nat):D3:=d.2.2.getD i (a6 y231)
abbrev R8(l:List k6)(x:Int):Nat:=(l.getD x.toNat (a6 y153)).2.2.1.length
abbrev FC(l:List k6)(d:m6):Bool:=Bw (Co l) l.length (R8 l) d.1.length d.2.2.length d.2.1.length (j6 d) (s7 d) (fun i=>d.2.1.getD i (a6 .str))
theorem J0t(d:m6)(a:wf y53 d)(x:Int):Fg d x=some (j3 x 0 ((d.2.1.length:Int)-1)):=by
 have h:=a.2.1.1;have e:GX d.2.1=some (d.2.1.length:Int):=rfl;unfold Fg;rw[e]
 repeat rw[vS]
 rw[R5,vS,gP ⟨rfl,oo,rfl,trivial⟩]
theorem L0O(d:m6)(l:List k6)(x:A9)(f:wf y53 d)(j:wf (.sl y153) l)(k:wf y155 x):KC d l x=some (L8 l.length (R8 l) d.2.1.length x):=by
 have h:=j.1;have b:=k.2.2.1;have e:CX l=some (l.length:Int):=rfl;have c:∀y,KB y d=some (!j3 y 0 ((d.2.1.length:Int)-1)):=fun y=>by
  unfold KB;rw[J0t d f,gP ⟨rfl,trivial⟩,vS]
 have n:Nh x.2.2 d=_:=Bx b (fun i=>!j3 (x.2.2.getD i 0) 0 ((d.2.1.length:Int)-1)) (fun g i hi=>Fz hi b (c _)) (fun g=>aE);have a:Ni x.2.2 d=_:=FA n;rw[N0 x.2.2 0 (fun y=>!j3 y 0 ((d.2.1.length:Int)-1))] at a;unfold KC;rw[e,a]
 repeat rw[vS]
 rw[R5,vS,gP ⟨rfl,oo,rfl,fun m=>by
  have:=r6.1 m.1;exact oo,fun _=>rfl,trivial⟩,Z9]
 rfl
theorem L0P(d:m6)(f:wf y53 d)(u:c9 y53 d<=1048576):Nn d=some (decide (d.1.length<=14)&&decide (d.2.1.length<=30)&&decide (d.2.2.length<=8)&&x6 d.1.length (fun i=>(j6 d i).1)&&x6 d.2.1.length (fun i=>d.2.1.getD i (a6 .str))&&x6 d.2.2.length (fun i=>(s7 d i).1)):=by
 have h:=f.1.1;have e:=f.2.2.1;have l:d.1.length<=1048576:=w5 (cF u);have m:d.2.2.length<=1048576:=w5 (cS (cS u));have r:=lF (n:=d.1.length) h (fun i (s:List ByteArray)=>(s,(i:Int))) (R6 fun i=>(j6 d i).1) (fun i s=>s.length=i) (J:=KE d) (F:=YN d) (fun g i s hi t=>by
  have o:((i:Int)).toNat=i:=rfl;have G:=NZ (b:=16) hi l (by decide);refine(if_pos (by grind)).trans ?_;rw[o,gP ⟨oo,trivial⟩,lE,gP ⟨⟨by grind,by grind⟩,trivial⟩,gP ⟨oo,trivial⟩];rfl) (fun i s hi t=>by grind[R6,List.length_append]) (fun g s _=>aE) [] rfl
 refine r.trans ?_;rw[Hw d.1 (a6 y155) (fun c:A9=>c.1)];have j:wf (.sl .str) (d.1.map fun c:A9=>c.1):=Hv h fun x k=>(f.1.2 x k).1;have q:wf (.sl .str) (d.2.2.map fun c:D3=>c.1):=Hv e fun x k=>(f.2.2.2 x k).1;have H:∀v:List ByteArray,wf (.sl .str) v->v.length=d.1.length->KE d v=some (decide (d.1.length<=14)&&decide (d.2.1.length<=30)&&decide (d.2.2.length<=8)&&(x6 v.length fun i=>v.getD i (a6 .str))&&x6 d.2.1.length (fun i=>d.2.1.getD i (a6 .str))&&x6 d.2.2.length (fun i=>(s7 d i).1)):=fun v P y=>by
  rw[KE];have a:=lF (n:=d.2.2.length) e (fun i (s:List ByteArray)=>(s,(i:Int))) (R6 fun i=>(s7 d i).1) (fun i s=>s.length=i) (J:=KD v d) (F:=YM d v) (fun g i s hi t=>by
   have o:((i:Int)).toNat=i:=rfl;have G:=NZ (b:=16) hi m (by decide);refine(if_pos (by grind)).trans ?_;rw[o,gP ⟨oo,trivial⟩,lE,gP ⟨⟨by grind,by grind⟩,trivial⟩,gP ⟨oo,trivial⟩];rfl) (fun i s hi t=>by grind[R6,List.length_append]) (fun g s _=>aE) [] rfl
  refine a.trans ?_;rw[Hw d.2.2 (a6 y231) (fun c:D3=>c.1)];have T:∀z:List ByteArray,wf (.sl .str) z->z.length=d.2.2.length->KD v d z=some (decide (d.1.length<=14)&&decide (d.2.1.length<=30)&&decide (d.2.2.length<=8)&&(x6 v.length fun i=>v.getD i (a6 .str))&&x6 d.2.1.length (fun i=>d.2.1.getD i (a6 .str))&&x6 z.length (fun i=>z.getD i (a6 .str))):=fun z hz V=>by
   have Q:decide ((v.length:Int)<=14)=decide (d.1.length<=14):=by rw[decide_eq_decide]; omega
   have w:decide ((d.2.1.length:Int)<=30)=decide (d.2.1.length<=30):=by rw[decide_eq_decide]; omega
   have E:decide ((z.length:Int)<=8)=decide (d.2.2.length<=8):=by rw[decide_eq_decide]; omega
   rw[KD,Lt _ P,Lt _ hz,Lt _ f.2.1,vS,vS,vS,gP ⟨fun _=>rfl,fun _=>rfl,fun _=>rfl,trivial⟩,Q,w,E]
  rw[T _ q (List.length_map _),Hu d.2.2 (fun c:D3=>c.1) (a6 y231)]
 rw[H _ j (List.length_map _),Hu d.1 (fun c:A9=>c.1) (a6 y155)]
theorem Oa{l:List k6}(h:Co l=true){x:Int}(b:j3 x 0 ((l.length:Int)-1)=true):2<=R8 l x/\R8 l x<=5:=by
 have h:Bv _ _ _=true:=h;unfold Bv at h;rw[ba] at h;rw[r6] at b;have:=AL.1 h.1 x.toNat (by omega);rw[Bool.or_eq_false_iff,Bool.not_eq_false'] at this;have a:O9 B5 _ _ _ _ _ _ _ _ _=true:=this.1;unfold O9 at a;simp only[ba] at a;have:=Hk a.1.1.1.1.2
 grind
theorem Sw{a b:Nat}{J0:Int->Nat}{x:A8}(h:L8 a J0 b x=true)(c:∀y,j3 y 0 ((a:Int)-1)=true->2<=J0 y):1<=x.2.2.length/\j3 (x.2.2.getD (x.2.2.length-1) 0) 0 ((b:Int)-1)=true:=by
 grind[L8]
theorem L0T(l:List k6)(d:m6)(s:wf (.sl y153) l)(c:wf y53 d):MQ l d=some (!((List.range d.1.length).any fun i=>!L8 l.length (R8 l) d.2.1.length (j6 d i))&&!((List.range d.2.2.length).any fun i=>!L9 d.2.1.length (s7 d i))):=by
 have h:=s.1;have j:=c.1.1;have f:=c.2.2.1;have u:=c.2.1.1;have w:MP d ()=some (!((List.range d.2.2.length).any fun i=>!L9 d.2.1.length (s7 d i))):=by
  have b:=C4 (n:=d.2.2.length) f (fun i=>!L9 d.2.1.length (s7 d i)) (some false) (e:=some true) (F:=Wy d) (fun g i hi=>by
   have m:((i:Int)).toNat=i:=rfl;refine(if_pos (by grind)).trans ?_;rw[m,M3,M3,vS,vS,gP ⟨oo,rfl,fun _=>oo,fun _=>oo,fun _=>rfl,trivial⟩,gP ⟨oo,trivial⟩]
   grind[L9,Bool.not_and]) (fun g=>aE)
  refine b.trans ?_;cases(List.range d.2.2.length).any fun i=>!L9 d.2.1.length (s7 d i) <;> rfl
 have b:=C4 (n:=d.1.length) j (fun i=>!L8 l.length (R8 l) d.2.1.length (j6 d i)) (some false) (e:=MP d ()) (F:=WB d l) (fun g i hi=>by
  have m:((i:Int)).toNat=i:=rfl;have t:=H6 (d:=a6 y155) hi c.1;have o:=t.2.2.1;refine(if_pos (by grind)).trans ?_;rw[m,gP ⟨oo,trivial⟩,lE,M3,vS,gP ⟨oo,rfl,fun v=>by
   have:=v.1;rw[Bool.not_eq_false'] at this;have:=r6.1 this;exact oo,trivial⟩]
  have a:=C4 (n:=(j6 d i).2.2.length) o (fun k=>!j3 ((j6 d i).2.2.getD k 0) 0 ((d.2.1.length:Int)-1)) (some false) (e:=g ((i:Int)+1)) (F:=WA (j6 d i) d (i:Int) g) (fun r k q=>by
   refine(AO q o ⟨oo,oo,rfl,trivial⟩).trans ?_;rfl) (fun r=>by
   refine aE.trans ?_;exact gP ⟨oo,trivial⟩)
  rw[N0 (j6 d i).2.2 0 (fun y=>!j3 y 0 ((d.2.1.length:Int)-1))] at a;rw[a];unfold L8
  grind[Z9]) (fun g=>aE)
 refine b.trans ?_
 grind
theorem o0O(v:List Int):(!v.any fun x=>x != 1)=v.all (·==1):=Z9 v (fun x=>x==1)
theorem Sx{n b:Nat}(h:n<=1048576)(a:b<=4096):(0<=(n:Int)/\(n:Int)=(n:Int)/\(n:Int).toNat*b<=281474976710656/\(n:Int)<=9223372036854775807)/\True:=by
 have c:n*b<=1048576*4096:=Nat.mul_le_mul h a;exact⟨⟨by omega,rfl,by rw[Int.toNat_natCast]; omega,by omega⟩,trivial⟩
theorem Lx{v:List Int}{n b:Nat}{x:Int}(h:U0 v n b)(e:b<=2097152)(d:j3 x 0 ((n:Int)-1)=true):ix x v.length/\x.toNat<v.length/\b7 (v.getD x.toNat 0+1)/\ix x v.length/\x.toNat<v.length/\True:=by
 obtain⟨c,a⟩:=w0b h d;have:=h.2 x.toNat;exact⟨c,a,oo,c,a,trivial⟩
theorem Oc{n:Nat}(a:1<=n)(h:n<=9223372036854775807):b7 ((n:Int)-1)/\ix ((n:Int)-1) n:=⟨oo,oo⟩
theorem M0b(l:List k6)(d:m6)(G:wf (.sl y153) l)(c:wf y53 d)(V:c9 (.sl y153) l<=1048576)(md:c9 y53 d<=1048576):KO l d=some (FC l d):=by
 have t:=c.1.1;have k:=c.2.2.1;have X:d.1.length<=1048576:=w5 (cF md);have P:d.2.1.length<=1048576:=w5 (cF (cS md));have Y:d.2.2.length<=1048576:=w5 (cS (cS md));show _=some (Bw _ _ _ _ _ _ _ _ _);unfold KO Bw;rw[L0Q l G V,L0P d c md,vS,vS,gP ⟨rfl,fun _=>rfl,trivial⟩];cases hlo:Co l with
 | false=>grind
 | true =>
   rw[Bool.true_and];cases hno:(decide (d.1.length<=14)&&decide (d.2.1.length<=30)&&decide (d.2.2.length<=8)&&x6 d.1.length (fun i=>(j6 d i).1)&&x6 d.2.1.length (fun i=>d.2.1.getD i (a6 .str))&&x6 d.2.2.length (fun i=>(s7 d i).1)) with
   | false=>grind
   | true =>
     refine(if_neg (by simp)).trans ?_;rw[gP (Sx P (by decide)),Int.toNat_natCast];have j:∀y,j3 y 0 ((l.length:Int)-1)=true->2<=R8 l y:=fun y H=>(Oa hlo H).1;have q:=Lv (n:=d.1.length) t (fun i (v:List Int)=>((i:Int),v)) (N1 (j6 d)) (fun i=>!L8 l.length (R8 l) d.2.1.length (j6 d i)) (some false) (fun i v=>i<=d.1.length/\U0 v d.2.1.length i) (J:=NC d) (F:=Zl d l) (fun g i v hi e=>by
      have o:((i:Int)).toNat=i:=rfl;have u:=H6 (d:=a6 y155) hi c.1;refine(if_pos (by grind)).trans ?_;rw[o,gP ⟨oo,trivial⟩,lE,L0O d l _ c G u,vS,gP ⟨rfl,trivial⟩];cases hin:L8 l.length (R8 l) d.2.1.length (j6 d i) with
      | false=>rfl
      | true =>
        obtain⟨s,W⟩:=Sw hin j;have a:(j6 d i).2.2.length<=9223372036854775807:=u.2.2.1;refine(if_neg (by simp)).trans ?_;rw[Lw s,gP ⟨(Oc s a).1,(Oc s a).2,Lx e.2 (by omega) W⟩,lE,gP ⟨oo,trivial⟩];rfl) (fun i v hi e _=>⟨by omega,Hn e.2 _⟩) (fun g v _=>aE) (List.replicate d.2.1.length 0) ⟨by omega,NR _ _⟩
     refine q.trans ?_;cases hia:(List.range d.1.length).any fun i=>!L8 l.length (R8 l) d.2.1.length (j6 d i) with
     | true=>simp
     | false =>
       refine(if_neg (by simp)).trans ?_;have b:=RX (j6 d) d.2.1.length d.1.length;unfold Dj;generalize fN (N1 (j6 d)) d.1.length (List.replicate d.2.1.length 0)=v0 at *
       rw[NC];have f:=Lv (n:=d.2.2.length) k (fun i (v:List Int)=>((i:Int),v)) (I3 (s7 d)) (fun i=>!L9 d.2.1.length (s7 d i)) (some false) (fun i v=>i<=d.2.2.length/\U0 v d.2.1.length (d.1.length+i)) (J:=KN) (F:=Zk d) (fun g i v hi e=>by
        have o:((i:Int)).toNat=i:=rfl;have w:∀m,NB (i:Int) g m=g (((i+1:Nat):Int),m):=fun m=>gP ⟨oo,trivial⟩;refine(if_pos (by grind)).trans ?_;rw[o,gP ⟨oo,trivial⟩,lE,J0t d c,vS,gP ⟨fun _=>rfl,trivial⟩,w,w];have T:((s7 d i).2.1 != 1&&(s7 d i).2.1 != 2||!j3 (s7 d i).2.2 0 ((d.2.1.length:Int)-1))=!L9 d.2.1.length (s7 d i):=by
         unfold L9;rw[Bool.not_and];congr 1;rw[Bool.eq_iff_iff];simp only[ba,bne_iff_ne,Bool.not_eq_true',<- Bool.not_eq_true,r6];omega
        show(if((s7 d i).2.1 != 1&&(s7 d i).2.1 != 2||!j3 (s7 d i).2.2 0 ((d.2.1.length:Int)-1))=true then some false else _)=_;rw[T];cases hpo:L9 d.2.1.length (s7 d i) with
        | false=>rfl
        | true =>
          have h:j3 (s7 d i).2.2 0 ((d.2.1.length:Int)-1)=true:=by
           unfold L9 at hpo;rw[ba] at hpo;exact hpo.2
          refine(if_neg (by simp)).trans ?_;show _=g (_,I3 (s7 d) i v);unfold I3;by_cases E:(s7 d i).2.1=1
          ·rw[if_pos (beq_iff_eq.2 E),if_pos E];exact gP (Lx e.2 (by omega) h)
          grind) (fun i v hi e _=>⟨by omega,by
          grind[I3,Hn,RW]⟩) (fun g v _=>aE) v0 ⟨by omega,b⟩
       refine f.trans ?_;cases hpa:(List.range d.2.2.length).any fun i=>!L9 d.2.1.length (s7 d i) with
       | true=>simp
       | false =>
         refine(if_neg (by simp)).trans ?_;have r:∀v:List Int,v.length<=9223372036854775807->KN v=some (v.all (·==1)):=fun v r=>by
          have Q:Nz v=_:=Bx r (fun i=>v.getD i 0 != 1) (fun g i hi=>Fz hi r rfl) (fun g=>aE);have z:NA v=_:=FA Q;rw[N0 v 0 (fun x=>x != 1)] at z;rw[KN,z,vS,gP ⟨rfl,trivial⟩,o0O]
         have a:(fN (I3 (s7 d)) d.2.2.length v0).length<=9223372036854775807:=by
          have:∀n,(fN (I3 (s7 d)) n v0).length=v0.length:=by
           intro n
           induction n with
           | zero=>rfl
           | succ n ih =>
             grind[fN,I3,AK,List.length_set]
          rw[this,b.1]; omega
         grind
theorem M0c(l:List k6)(d:m6)(hl:wf (.sl y153) l)(k:wf y53 d)(md:c9 y53 d<=1048576):Jw l d=some (FC l d):=by
 have r:=k.1.1;have o:=k.2.2.1;have mi:d.1.length<=1048576:=w5 (cF md);have mn:d.2.1.length<=1048576:=w5 (cF (cS md));have mp:d.2.2.length<=1048576:=w5 (cS (cS md));show _=some (Bw _ _ _ _ _ _ _ _ _);unfold Jw;rw[L0U l hl,L0T l d hl k,vS,vS,gP ⟨rfl,fun _=>rfl,trivial⟩];by_cases m:Co l=true/\d.1.length<=14/\d.2.1.length<=30/\d.2.2.length<=8/\((List.range d.1.length).any fun i=>!L8 l.length (R8 l) d.2.1.length (j6 d i))=false/\((List.range d.2.2.length).any fun i=>!L9 d.2.1.length (s7 d i))=false
 ·obtain⟨H,aB,V,h8,P,G⟩:=m;have a1:decide (14 < (d.1.length:Int))=false:=decide_eq_false (by omega);have a2:decide (30 < (d.2.1.length:Int))=false:=decide_eq_false (by omega);have a3:decide (8 < (d.2.2.length:Int))=false:=decide_eq_false (by omega);rw[H,a1,a2,a3,P,G];refine(if_neg (by simp)).trans ?_;have T:∀y,j3 y 0 ((l.length:Int)-1)=true->2<=R8 l y:=fun y hy=>(Oa H hy).1;have E:∀i,i<d.1.length->L8 l.length (R8 l) d.2.1.length (j6 d i)=true:=fun i hi=>by
   grind
  have t:∀i,i<d.2.2.length->L9 d.2.1.length (s7 d i)=true:=fun i hi=>by
   grind
  have Qh:∀v:List Int,v.length<=9223372036854775807->Js v=some (v.all (·==1)):=fun v u=>by
   rw[Js];have a:=C4 (n:=v.length) u (fun i=>v.getD i 0 != 1) (some false) (e:=some true) (F:=Xa v) (fun g i hi=>by
    refine(AO hi u ⟨oo,by omega,trivial⟩).trans ?_;rfl) (fun g=>aE)
   refine a.trans ?_;rw[N0 v 0 (fun x=>x != 1),<- o0O]
   grind
  have k7:∀v:List Int,U0 v d.2.1.length d.1.length->Jt d v=some ((fN (I3 (s7 d)) d.2.2.length v).all (·==1)):=fun Y h=>by
   rw[Jt];have a:=lF (n:=d.2.2.length) o (fun i (v:List Int)=>((i:Int),v)) (I3 (s7 d)) (fun i v=>i<=d.2.2.length/\U0 v d.2.1.length (d.1.length+i)) (J:=Js) (F:=Xb d) (fun g i v hi b=>by
    have q:((i:Int)).toNat=i:=rfl;have j8:∀X,MW (i:Int) g X=g (((i+1:Nat):Int),X):=fun X=>gP ⟨oo,trivial⟩;have Q:j3 (s7 d i).2.2 0 ((d.2.1.length:Int)-1)=true:=by
     have:=t i hi;unfold L9 at this;rw[ba] at this;exact this.2
    refine(if_pos (by grind)).trans ?_;rw[q,gP ⟨oo,trivial⟩,j8];show(if((s7 d i).2.1==1)=true then _ else _)=g (_,I3 (s7 d) i v);unfold I3;by_cases k1:(s7 d i).2.1=1
    ·rw[if_pos (beq_iff_eq.2 k1),if_pos k1];refine(gP ⟨oo,Lx b.2 (by omega) Q⟩).trans ?_;rw[lE];exact j8 _
    grind) (fun i v hi b=>⟨by omega,by
    grind[I3,Hn,RW]⟩) (fun g v _=>aE) Y ⟨by omega,h⟩
   refine a.trans (Qh _ ?_);have:∀n,(fN (I3 (s7 d)) n Y).length=Y.length:=by
    intro n
    induction n with
    | zero=>rfl
    | succ n ih =>
      grind[fN,I3,AK,List.length_set]
   rw[this,h.1]; omega
  have k5:lp (QB d) ((0:Int),List.replicate d.2.1.length 0)=some ((Dj d.1.length d.2.2.length d.2.1.length (j6 d) (s7 d)).all (·==1)):=by
   have a:=lF (n:=d.1.length) r (fun i (v:List Int)=>((i:Int),v)) (N1 (j6 d)) (fun i v=>i<=d.1.length/\U0 v d.2.1.length i) (J:=Jt d) (F:=QB d) (fun g i v hi b=>by
    have q:((i:Int)).toNat=i:=rfl;have w:=H6 (d:=a6 y155) hi k.1;obtain⟨g1,g2⟩:=Sw (E i hi) T;have j:(j6 d i).2.2.length<=9223372036854775807:=w.2.2.1;refine(if_pos (by grind)).trans ?_;rw[q,gP ⟨oo,trivial⟩,lE,Lw g1,gP ⟨(Oc g1 j).1,(Oc g1 j).2,Lx b.2 (by omega) g2⟩,lE,gP ⟨oo,trivial⟩];rfl) (fun i v hi b=>⟨by omega,Hn b.2 _⟩) (fun g v _=>aE) (List.replicate d.2.1.length 0) ⟨by omega,NR _ _⟩
   refine a.trans (k7 _ (RX _ _ _))
  have W:wf (.sl .str) (d.1.map fun c:A9=>c.1):=Hv r fun x w=>(k.1.2 x w).1;have aA:wf (.sl .str) (d.2.2.map fun c:D3=>c.1):=Hv o fun x w=>(k.2.2.2 x w).1;have k2:∀v z:List ByteArray,wf (.sl .str) v->wf (.sl .str) z->Ju d v z=some ((x6 v.length fun i=>v.getD i (a6 .str))&&(x6 z.length fun i=>z.getD i (a6 .str))&&x6 d.2.1.length (fun i=>d.2.1.getD i (a6 .str))&&(Dj d.1.length d.2.2.length d.2.1.length (j6 d) (s7 d)).all (·==1)):=fun v z u hz=>by
   rw[Ju,Sn _ u,Sn _ hz,Sn _ k.2.1,vS,vS,vS,gP ⟨rfl,fun _=>rfl,fun _=>rfl,trivial⟩,gP (Sx mn (by decide)),Int.toNat_natCast,k5];cases(x6 v.length fun i=>v.getD i (a6 .str)) <;> cases(x6 z.length fun i=>z.getD i (a6 .str)) <;> cases x6 d.2.1.length (fun i=>d.2.1.getD i (a6 .str)) <;> rfl
  have k3:∀v:List ByteArray,wf (.sl .str) v->Jv d v=some ((x6 v.length fun i=>v.getD i (a6 .str))&&x6 d.2.2.length (fun i=>(s7 d i).1)&&x6 d.2.1.length (fun i=>d.2.1.getD i (a6 .str))&&(Dj d.1.length d.2.2.length d.2.1.length (j6 d) (s7 d)).all (·==1)):=fun v u=>by
   rw[Jv];have a:=lF (n:=d.2.2.length) o (fun i (s:List ByteArray)=>((i:Int),s)) (R6 fun i=>(s7 d i).1) (fun i s=>s.length=i) (J:=Ju d v) (F:=Xc d v) (fun g i s hi b=>by
    have q:((i:Int)).toNat=i:=rfl;refine(if_pos (by grind)).trans ?_;rw[q,gP ⟨oo,⟨by grind,by grind⟩,trivial⟩,gP ⟨oo,trivial⟩];rfl) (fun i s hi b=>by grind[R6,List.length_append]) (fun g s _=>aE) [] rfl
   refine a.trans ?_;rw[Hw d.2.2 (a6 y231) (fun c:D3=>c.1),k2 _ _ u aA,Hu d.2.2 (fun c:D3=>c.1) (a6 y231)]
  have a:=lF (n:=d.1.length) r (fun i (s:List ByteArray)=>((i:Int),s)) (R6 fun i=>(j6 d i).1) (fun i s=>s.length=i) (J:=Jv d) (F:=Xe d) (fun g i s hi b=>by
   have q:((i:Int)).toNat=i:=rfl;refine(if_pos (by grind)).trans ?_;rw[q,gP ⟨oo,⟨by grind,by grind⟩,trivial⟩,gP ⟨oo,trivial⟩];rfl) (fun i s hi b=>by grind[R6,List.length_append]) (fun g s _=>aE) [] rfl
  refine a.trans ?_;rw[Hw d.1 (a6 y155) (fun c:A9=>c.1),k3 _ W,Hu d.1 (fun c:A9=>c.1) (a6 y155)];unfold Bw;rw[P,G,decide_eq_true aB,decide_eq_true V,decide_eq_true h8];cases x6 d.1.length (fun i=>(j6 d i).1) <;> cases x6 d.2.1.length (fun i=>d.2.1.getD i (a6 .str)) <;> cases x6 d.2.2.length (fun i=>(s7 d i).1) <;> rfl
 ·have e0:(!Co l||decide (14 < (d.1.length:Int))||decide (30 < (d.2.1.length:Int))||decide (8 < (d.2.2.length:Int))||!(!((List.range d.1.length).any fun i=>!L8 l.length (R8 l) d.2.1.length (j6 d i))&&!((List.range d.2.2.length).any fun i=>!L9 d.2.1.length (s7 d i))))=true:=by
   rw[<- Bool.not_eq_false];intro f;simp only[Bool.or_eq_false_iff,Bool.not_eq_false',decide_eq_false_iff_not,ba,Bool.not_eq_true'] at f;exact m ⟨f.1.1.1.1,by omega,by omega,by omega,f.2.1,f.2.2⟩
  refine(if_pos e0).trans ?_;refine congrArg some ?_
  symm
  rw[<- Bool.not_eq_true];intro f;unfold Bw at f;simp only[ba,dq,Bool.not_eq_true'] at f;obtain⟨⟨⟨⟨⟨⟨⟨⟨⟨c1,c2⟩,c3⟩,c4⟩,_⟩,_⟩,_⟩,c5⟩,c6⟩,_⟩:=f;exact m ⟨c1,c2,c3,c4,c5,c6⟩
abbrev Ly(w:w9)(i:Nat):Bool:=(i==0&&(w.1.getD i 0 != -1||w.2.1.getD 0 0 != 0))||(decide (0<i)&&!j3 (w.1.getD i 0) 0 ((i:Int)-1))
theorem L0N(w:w9)(d:wf y172 w)(j:w.2.1.length=w.1.length):Bp w=some (!(List.range w.1.length).any (Ly w)):=by
 have h:=d.1.1;have a:=C4 (n:=w.1.length) h (Ly w) (some false) (e:=some true) (F:=YA w) (fun g i hi=>by
  have f:((i:Int)).toNat=i:=rfl;have b:((i:Int)==0)=(i==0):=by rw[Bool.eq_iff_iff,beq_iff_eq,beq_iff_eq]; omega
  have c:decide ((0:Int) < (i:Int))=decide (0<i):=by rw[decide_eq_decide]; omega
  refine(if_pos (by simpa using hi)).trans ?_;rw[f,b,c,R5,vS,gP ⟨oo,trivial⟩,gP ⟨fun _=>oo,fun _=>oo,fun _=>rfl,trivial⟩,gP ⟨oo,trivial⟩];rfl) (fun g=>aE)
 refine a.trans ?_
 grind
theorem M0a(w:w9)(n:Int)(d:wf y172 w):Kz w n=some (Aa w n):=by
 obtain⟨⟨i,_⟩,⟨f,_⟩,⟨h,_⟩,g,_⟩:=id d;have e:∀xs:List Int,A4 xs=some (xs.length:Int):=fun _=>rfl;unfold Kz;rw[e,e,e,e]
 repeat rw[vS]
 rw[gP ⟨rfl,trivial⟩,lE,R5,FB _ _ _ f,FB _ _ _ h,FB _ _ _ g]
 repeat rw[vS]
 by_cases b:(j3 (w.1.length:Int) 1 8&&(w.2.1.length:Int)==(w.1.length:Int)&&(w.2.2.1.length:Int)==(w.1.length:Int))=true
 ·have c:=b;simp only[ba,beq_iff_eq,r6] at c;rw[L0N w d (by omega),vS,gP ⟨rfl,fun _=>rfl,fun _=>rfl,fun _=>rfl,fun _=>rfl,fun _=>rfl,fun _=>rfl,fun _=>oo,fun _=>rfl,trivial⟩,lE];refine congrArg some ?_;rw[b];unfold Aa;rw[decide_eq_true (show 1<=w.1.length by omega),decide_eq_true (show w.1.length<=8 by omega),decide_eq_true (show w.2.1.length=w.1.length by omega),decide_eq_true (show w.2.2.1.length=w.1.length by omega)];cases(List.range w.1.length).any (Ly w) <;> cases w.2.1.all (j3 · 0 1000) <;> cases w.2.2.1.all (j3 · 0 500) <;> cases(w.2.2.2.length:Int)==n <;> cases w.2.2.2.all (j3 · 0 ((w.1.length:Int)-1)) <;> rfl
 ·have c:(j3 (w.1.length:Int) 1 8&&(w.2.1.length:Int)==(w.1.length:Int)&&(w.2.2.1.length:Int)==(w.1.length:Int))=false:=by simpa using b
  rw[c,gP ⟨rfl,fun _=>rfl,fun _=>rfl,fun a=>by simp at a,fun a=>by simp at a,fun a=>by simp at a,fun a=>by simp at a,fun a=>by simp at a,fun a=>by simp at a,trivial⟩,lE];refine congrArg some ?_;rw[c];simp only[Bool.false_and]
  symm
  rw[<- Bool.not_eq_true];intro a;unfold Aa at a;simp only[ba,dq] at a;refine b ?_;simp only[ba,beq_iff_eq,r6];omega
theorem J0y(w:w9)(n:Int)(o:wf y172 w):Jh w n=some (Aa w n):=by
 obtain⟨⟨t,_⟩,⟨v,_⟩,⟨y,_⟩,j,_⟩:=id o;unfold Jh;by_cases b:1<=w.1.length/\w.1.length<=8/\w.2.1.length=w.1.length/\w.2.2.1.length=w.1.length/\(w.2.2.2.length:Int)=n
 ·obtain⟨l,u,k,d,r⟩:=b;have a:(decide ((w.1.length:Int)<1)||decide (8 < (w.1.length:Int))||(w.2.1.length:Int) != (w.1.length:Int)||(w.2.2.1.length:Int) != (w.1.length:Int)||(w.2.2.2.length:Int) != n)=false:=by
   rw[<- Bool.not_eq_true]; simp; omega
  refine(if_neg (by rw[a]; simp)).trans ?_;have c:=C4 (n:=w.2.2.2.length) j (fun i=>!j3 (w.2.2.2.getD i 0) 0 ((w.1.length:Int)-1)) (some false) (e:=some true) (F:=Wq w) (fun g i hi=>AO hi j ⟨oo,oo,rfl,trivial⟩) (fun g=>aE);rw[N0 w.2.2.2 0 (fun x=>!j3 x 0 ((w.1.length:Int)-1))] at c;have m:=C4 (n:=w.1.length) t (fun i=>(!j3 (w.2.2.1.getD i 0) 0 500||!j3 (w.2.1.getD i 0) 0 1000)||Ly w i) (some false) (e:=MM w ()) (F:=Ws w) (fun g i hi=>by
   have s:((i:Int)).toNat=i:=rfl;have a:((i:Int)==0)=(i==0):=by rw[Bool.eq_iff_iff,beq_iff_eq,beq_iff_eq]; omega
   have q:decide ((0:Int) < (i:Int))=decide (0<i):=by rw[decide_eq_decide]; omega
   refine(if_pos (by simpa using hi)).trans ?_;rw[s,a,q,M3,M3,M3]
   repeat rw[vS]
   rw[gP ⟨oo,rfl,fun _=>oo,fun _=>rfl,trivial⟩,gP ⟨fun _=>oo,fun _=>oo,fun _=>oo,fun _=>oo,fun _=>rfl,trivial⟩,gP ⟨oo,trivial⟩]
   grind) (fun g=>aE)
  refine m.trans ?_;rw[NS,NS];have f:=N0 w.2.2.1 0 (fun x=>!j3 x 0 500);have h:=N0 w.2.1 0 (fun x=>!j3 x 0 1000);rw[d] at f;rw[k] at h;rw[f,h];unfold MM;rw[c];unfold Aa;rw[decide_eq_true l,decide_eq_true u,decide_eq_true k,decide_eq_true d,beq_iff_eq.2 r,<- Z9,<- Z9,<- Z9];cases(List.range w.1.length).any (Ly w) <;> cases w.2.1.any (fun x=>!j3 x 0 1000) <;> cases w.2.2.1.any (fun x=>!j3 x 0 500) <;> cases w.2.2.2.any (fun x=>!j3 x 0 ((w.1.length:Int)-1)) <;> rfl
 grind[decide,trans,Aa]
theorem Od(d:m6)(j:wf y53 d)(q:d.1.length<=14)(w:d.2.2.length<=8)(l:∀i,i<d.1.length->1<=(j6 d i).2.2.length/\(j6 d i).2.2.length<=5):AE d=some (J1 d.1.length d.2.2.length (j6 d) (s7 d)):=by
 have c:=j.1.1;have b:=j.2.2.1;unfold AE;have r:∀s:List w4,s.length<=70->KA d s=some (fN (K9 (s7 d)) d.2.2.length s):=fun m y=>by
  rw[KA];exact lF (n:=d.2.2.length) b (fun i (s:List w4)=>((i:Int),s)) (K9 (s7 d)) (fun i s=>s.length=m.length+i) (J:=fun s=>some s) (F:=YC d) (fun g i s hi f=>by
   have h:((i:Int)).toNat=i:=rfl;refine(if_pos (by grind)).trans ?_;rw[h,gP ⟨oo,trivial⟩,lE,gP ⟨⟨by grind,by grind⟩,trivial⟩,gP ⟨oo,trivial⟩];rfl) (fun i s hi f=>by grind[K9,List.length_append]) (fun g s _=>aE) m rfl
 have e:=lF (n:=d.1.length) c (fun i (s:List w4)=>(s,(i:Int))) (K2 (j6 d)) (fun i s=>s.length<=5*i) (J:=KA d) (F:=YE d) (fun g i s hi f=>by
  have h:((i:Int)).toNat=i:=rfl;have E:=(l i hi).2;have t:(j6 d i).2.2.length<=9223372036854775807:=by omega
  refine(if_pos (by grind)).trans ?_;rw[h,gP ⟨oo,trivial⟩,lE];have a:=lF (n:=(j6 d i).2.2.length) t (fun k (s:List w4)=>((k:Int),s)) (N2 (j6 d i) i) (fun k z=>z.length=s.length+k) (J:=QT (i:Int) g) (F:=YD (i:Int) (j6 d i) g) (fun v k z u hz=>by
   have o:((k:Int)).toNat=k:=rfl;refine(if_pos (by grind)).trans ?_;rw[o,gP ⟨oo,trivial⟩,gP ⟨oo,⟨by grind,by grind⟩,trivial⟩,lE];exact gP ⟨oo,trivial⟩) (fun k z u hz=>by grind[N2,List.length_append]) (fun v z _=>aE) s rfl
  refine a.trans ?_;exact gP ⟨oo,trivial⟩) (fun i s hi f=>by
  grind[K2,Fw]) (fun g s _=>aE) [] (Nat.zero_le _)
 refine e.trans (r _ ?_);have:=NT (x:=j6 d) (ni:=d.1.length) (fun i hi=>(l i hi).2) d.1.length (Nat.le_refl _);omega
theorem Dl(d:m6)(j:wf y53 d)(q:d.1.length<=14)(w:d.2.2.length<=8)(l:∀i,i<d.1.length->1<=(j6 d i).2.2.length/\(j6 d i).2.2.length<=5):G9 d=some (J1 d.1.length d.2.2.length (j6 d) (s7 d)):=by
 have c:=j.1.1;have b:=j.2.2.1;unfold G9;have r:∀s:List z6,s.length<=70->IY d s=some (fN (K9 (s7 d)) d.2.2.length s):=fun m y=>by
  rw[IY];exact lF (n:=d.2.2.length) b (fun i (s:List z6)=>((i:Int),s)) (K9 (s7 d)) (fun i s=>s.length=m.length+i) (J:=fun s=>some s) (F:=VB d) (fun g i s hi f=>by
   have h:((i:Int)).toNat=i:=rfl;refine(if_pos (by grind)).trans ?_;rw[h,gP ⟨oo,oo,⟨by grind,by grind⟩,trivial⟩,lE];exact gP ⟨oo,trivial⟩) (fun i s hi f=>by grind[K9,List.length_append]) (fun g s _=>aE) m rfl
 have e:=lF (n:=d.1.length) c (fun i (s:List z6)=>((i:Int),s)) (K2 (j6 d)) (fun i s=>s.length<=5*i) (J:=IY d) (F:=VD d) (fun g i s hi f=>by
  have h:((i:Int)).toNat=i:=rfl;have E:=(l i hi).2;have t:(j6 d i).2.2.length<=9223372036854775807:=by omega
  refine(if_pos (by grind)).trans ?_;rw[h,gP ⟨oo,trivial⟩,lE];have a:=lF (n:=(j6 d i).2.2.length) t (fun k (s:List z6)=>((k:Int),s)) (N2 (j6 d i) i) (fun k z=>z.length=s.length+k) (J:=Qj (i:Int) g) (F:=VC (i:Int) (j6 d i) g) (fun v k z u hz=>by
   have o:((k:Int)).toNat=k:=rfl;refine(if_pos (by grind)).trans ?_;rw[o,gP ⟨oo,oo,⟨by grind,by grind⟩,trivial⟩,lE];exact gP ⟨oo,trivial⟩) (fun k z u hz=>by grind[N2,List.length_append]) (fun v z _=>aE) s rfl
  refine a.trans ?_;exact gP ⟨oo,trivial⟩) (fun i s hi f=>by
  grind[K2,Fw]) (fun g s _=>aE) [] (Nat.zero_le _)
 refine e.trans (r _ ?_);have:=NT (x:=j6 d) (ni:=d.1.length) (fun i hi=>(l i hi).2) d.1.length (Nat.le_refl _);omega
abbrev l8(d:m6):List s9:=J1 d.1.length d.2.2.length (j6 d) (s7 d)
abbrev p8(d:m6)(i:Nat):s9:=(l8 d).getD i (a6 y235)
abbrev j1(b:j0)(i:Nat):w9:=b.2.2.getD i (a6 y172)
def p9(b:j0):Bool:=FC b.1 b.2.1&&decide (b.2.2.length=b.2.1.2.1.length)&&!(List.range b.2.2.length).any fun i=>!Aa (j1 b i) (R3 (p8 b.2.1) i (l8 b.2.1).length)
structure DF(l:List k6)(d:m6):Prop where
 lib:Co l=true
 fac:DesignFacts l.length (R8 l) d.1.length d.2.2.length d.2.1.length (j6 d) (s7 d)
 pin:∀i,i<d.1.length->1<=(j6 d i).2.2.length/\(j6 d i).2.2.length<=5
 plc:Ho d.2.1.length (l8 d)
 len:(l8 d).length<=78
theorem N4{l:List k6}{d:m6}(h:FC l d=true):DF l d:=by
 obtain⟨f,b⟩:=m0p h;have e:∀i,i<d.1.length->1<=(j6 d i).2.2.length/\(j6 d i).2.2.length<=5:=fun i hi=>by
  have a:=b.inst i hi;have m:=(Sw a (fun y j=>(Oa f j).1)).1;unfold L8 at a;simp only[ba,beq_iff_eq] at a
  grind[Oa]
 have c:=b.net;refine⟨f,b,e,o0K c.2 (j0k c.1 d.1.length (Nat.le_refl _)) d.2.2.length (Nat.le_refl _),?_⟩;have:=NT (x:=j6 d) (ni:=d.1.length) (fun i hi=>(e i hi).2) d.1.length (Nat.le_refl _);have g:=b.ni14;have k:=b.np8;unfold l8 J1
 grind[Lo]
theorem M0o(b:j0)(f:wf j7 b)(h:c9 j7 b<=1048576):Hc b=some (p9 b):=by
 have y:=f.1;have q:=f.2.1;have w:=f.2.2.1;have u:b.2.2.length<=1048576:=w5 (cS (cS h));unfold Hc p9;rw[M0b b.1 b.2.1 y q (cF h) (cF (cS h)),vS,gP ⟨rfl,trivial⟩];cases hdo:FC b.1 b.2.1 with
 | false=>grind
 | true =>
   have c:=N4 hdo;by_cases a:b.2.2.length=b.2.1.2.1.length
   ·have t:((b.2.2.length:Int) != (b.2.1.2.1.length:Int))=false:=by rw[a]; simp
    rw[t,decide_eq_true a];refine(if_neg (by simp)).trans ?_;rw[gP (Sx u (by decide)),Int.toNat_natCast,Od b.2.1 q c.fac.ni14 c.fac.np8 c.pin,vS,gP ⟨rfl,trivial⟩,lE];have k:(l8 b.2.1).length<=9223372036854775807:=by have:=c.len; omega
    have d:∀i,i < (l8 b.2.1).length->j3 (p8 b.2.1 i).2.2.1 0 ((b.2.2.length:Int)-1)=true:=fun i hi=>by
     rw[a]; exact c.plc _ (H0 hi)
    have m:=lF (n:=(l8 b.2.1).length) k (fun i (v:List Int)=>((i:Int),v)) (Cn (p8 b.2.1)) (fun i v=>i<=(l8 b.2.1).length/\U0 v b.2.2.length i) (J:=ND b) (F:=Zo (l8 b.2.1) b) (fun g i v hi r=>by
     have l:((i:Int)).toNat=i:=rfl;have s:∀j,NE (i:Int) g j=g (((i+1:Nat):Int),j):=fun j=>gP ⟨oo,trivial⟩;refine(if_pos (by grind)).trans ?_;rw[l,gP ⟨oo,hi,trivial⟩,lE,s];show(if(!(p8 b.2.1 i).2.2.2)=true then _ else _)=g (_,Cn (p8 b.2.1) i v);unfold Cn;cases hdr:(p8 b.2.1 i).2.2.2 with
     | true=>rfl
     | false =>
       refine(if_pos rfl).trans ?_;refine(gP (Lx r.2 (by have:=c.len; omega) (d i hi))).trans ?_;rw[lE];exact s _) (fun i v hi r=>⟨by omega,by
     grind[Cn,Hn,RW]⟩) (fun g v _=>aE) (List.replicate b.2.2.length 0) ⟨by omega,NR _ _⟩
    refine m.trans ?_;obtain⟨z,x⟩:=l0u (p8 b.2.1) b.2.2.length (l8 b.2.1).length d;generalize fN (Cn (p8 b.2.1)) (l8 b.2.1).length (List.replicate b.2.2.length 0)=v at *
    rw[ND];have o:=C4 (n:=b.2.2.length) w (fun i=>!Aa (j1 b i) (R3 (p8 b.2.1) i (l8 b.2.1).length)) (some false) (e:=some true) (F:=Zn v b) (fun g i hi=>by
     have l:((i:Int)).toNat=i:=rfl;refine(if_pos (by grind)).trans ?_;rw[l,gP ⟨oo,trivial⟩,lE,x i hi,M0a _ _ (H6 hi f.2.2),vS,gP ⟨oo,by omega,rfl,trivial⟩,gP ⟨oo,trivial⟩]) (fun g=>aE)
    grind
   grind
theorem Sy(d:m6)(e:wf y53 d){l:List k6}(a:DF l d)(t:Int):Y5 d t=some (fN (J2 (p8 d) t) (l8 d).length []):=by
 have k:=a.len;unfold Y5;rw[Dl d e a.fac.ni14 a.fac.np8 a.pin,vS,gP ⟨rfl,trivial⟩,lE];exact lF (n:=(l8 d).length) (by omega) (fun i (s:List Int)=>((i:Int),s)) (J2 (p8 d) t) (fun i s=>s.length<=i) (J:=fun s=>some s) (F:=VF (l8 d) t) (fun g i s hi b=>by
  have f:((i:Int)).toNat=i:=rfl;have c:∀s',MC (i:Int) g s'=g (((i+1:Nat):Int),s'):=fun j=>gP ⟨oo,trivial⟩;refine(if_pos (by grind)).trans ?_;have h:s.length<=i:=b;rw[f,gP ⟨oo,hi,fun _=>oo,fun _=>hi,trivial⟩,gP ⟨⟨by grind,by grind⟩,trivial⟩,c,c];show _=g (_,J2 (p8 d) t i s);unfold J2
  grind) (fun i s hi b=>by
  grind[J2,List.length_append]) (fun g s _=>aE) [] (Nat.le_refl _)
theorem Sz(b:j0)(c:wf j7 b)(h:c9 j7 b<=1048576):V7 b=some (p9 b):=by
 have o:=c.1;have f:=c.2.1;have l:=c.2.2.1;unfold V7 p9;rw[M0c b.1 b.2.1 o f (cF (cS h)),vS,gP ⟨rfl,trivial⟩];cases hdo:FC b.1 b.2.1 with
 | false=>grind
 | true =>
   have k:=N4 hdo;by_cases a:b.2.2.length=b.2.1.2.1.length
   ·have j:((b.2.2.length:Int) != (b.2.1.2.1.length:Int))=false:=by rw[a]; simp
    rw[j,decide_eq_true a];refine(if_neg (by simp)).trans ?_;have d:=C4 (n:=b.2.2.length) l (fun i=>!Aa (j1 b i) (R3 (p8 b.2.1) i (l8 b.2.1).length)) (some false) (e:=some true) (F:=Xg b) (fun g i hi=>by
     have m:((i:Int)).toNat=i:=rfl;refine(if_pos (by grind)).trans ?_;rw[m,Sy b.2.1 f k,vS,Lp,J0y _ _ (H6 hi c.2.2),gP ⟨oo,rfl,rfl,trivial⟩,lE,Lp,J0y _ _ (H6 hi c.2.2),vS,gP ⟨oo,trivial⟩]) (fun g=>aE)
    grind
   grind
theorem P2{b:j0}(h:p9 b=true):FC b.1 b.2.1=true/\b.2.2.length=b.2.1.2.1.length/\∀i,i<b.2.2.length->Aa (j1 b i) (R3 (p8 b.2.1) i (l8 b.2.1).length)=true:=by
 grind[p9,hi]
abbrev q6(d:m6)(t:Int):List Int:=fN (J2 (p8 d) t) (l8 d).length []
def Dm(l:List k6)(d:m6)(p:s9):Int:=if p.1<0 then 0 else((l.getD (j6 d p.1.toNat).2.1.toNat (a6 y153)).2.2.1.getD p.2.1.toNat (a6 y293)).2.2.1
theorem Oe{d:m6}{i:Nat}(h:i < (l8 d).length):p8 d i∈l8 d:=H0 h
theorem l0V{l:List k6}(h:Co l=true){i:Nat}(hi:i<l.length):AP B5 (R7 l i)=true:=by
 have h:Bv _ _ _=true:=h;unfold Bv at h;rw[ba] at h;have:=AL.1 h.1 i hi;rw[Bool.or_eq_false_iff,Bool.not_eq_false'] at this;exact this.1
theorem SA{l:List k6}{d:m6}(f:DF l d){p:s9}(e:p∈l8 d):(p.1 = -1/\0<=p.2.1/\p.2.1.toNat<d.2.2.length) ∨
  (0<=p.1/\p.1.toNat<d.1.length/\0<=(j6 d p.1.toNat).2.1/\(j6 d p.1.toNat).2.1.toNat<l.length/\0<=p.2.1/\p.2.1.toNat < (l.getD (j6 d p.1.toNat).2.1.toNat (a6 y153)).2.2.1.length):=by
 rcases n0g d.1.length d.2.2.length (j6 d) (s7 d) p e with h | ⟨h1,h2,h3,h4⟩
 ·exact .inl h
 ·have a:=f.fac.inst p.1.toNat h2;unfold L8 at a;simp only[ba,beq_iff_eq] at a;have c:=r6.1 a.1.1;have b:=a.1.2;refine .inr ⟨h1,h2,c.1,by omega,h3,?_⟩;have b:((j6 d p.1.toNat).2.2.length:Int)=((l.getD (j6 d p.1.toNat).2.1.toNat (a6 y153)).2.2.1.length:Int):=b;omega
theorem A0V{l:List k6}{d:m6}(b:DF l d){p:s9}(c:p∈l8 d):0<=Dm l d p/\Dm l d p<=500:=by
 unfold Dm;split
 ·exact⟨by decide,by decide⟩
 ·rename_i e;rcases SA b c with h | ⟨h1,h2,h3,h4,h5,h6⟩
  ·omega
  ·have a:O9 B5 _ _ _ _ _ _ _ _ _=true:=l0V b.lib h4;unfold O9 W6 at a;simp only[ba] at a;have:=AL.1 a.1.1.1.1.2.2 p.2.1.toNat h6;rw[Bool.not_eq_false'] at this;unfold AJ at this;rw[ba] at this;exact r6.1 this.1
theorem Lz{d:m6}{t:Int}{k:Nat}(h:k < (q6 d t).length):0<=(q6 d t).getD k 0/\((q6 d t).getD k 0).toNat < (l8 d).length:=by
 obtain⟨j,b,a,_⟩:=NV (p8 d) t (l8 d).length _ (H0 (d:=0) h);rw[b];exact⟨Int.natCast_nonneg _,by simpa using a⟩
structure NetOk(b:j0)(i:Nat):Prop where
 df:DF b.1 b.2.1
 lt:i<b.2.2.length
 wf:m0G (j1 b i) ((q6 b.2.1 i).length:Int)
theorem Ac{b:j0}(h:p9 b=true){i:Nat}(hi:i<b.2.2.length):NetOk b i:=by
 obtain⟨a,d,c⟩:=P2 h;refine⟨N4 a,hi,?_⟩;rw[Lp];exact p0O (c i hi)
def o3(b:j0)(i k:Nat):Int:=(j1 b i).2.2.2.getD k 0
def P3(b:j0)(i k:Nat):Int:=Dm b.1 b.2.1 (p8 b.2.1 ((q6 b.2.1 i).getD k 0).toNat)
def M4(b:j0)(i k:Nat):Int:=(j1 b i).1.getD k 0
def By(b:j0)(i k:Nat):Int:=(j1 b i).2.1.getD k 0
def q9(b:j0)(i:Nat):List Int:=F0L (j1 b i).2.2.1 (j1 b i).1.length (q6 b.2.1 i).length (o3 b i) (P3 b i) (M4 b i)
theorem NetOk.sn{b:j0}{i:Nat}(h:NetOk b i):(j1 b i).2.2.2.length=(q6 b.2.1 i).length:=by have:=h.wf.snk; omega
theorem NetOk.s78{b:j0}{i:Nat}(h:NetOk b i):(q6 b.2.1 i).length<=78:=by
 have e:=h.df.len;have d:=t0S (p8 b.2.1) i (l8 b.2.1).length;have a:=Lp (p8 b.2.1) i (l8 b.2.1).length;have c:((q6 b.2.1 i).length:Int)=R3 (p8 b.2.1) i (l8 b.2.1).length:=a;omega
theorem NetOk.capIn{b:j0}{i:Nat}(h:NetOk b i){k:Nat}(d:k < (q6 b.2.1 i).length):0<=o3 b i k/\(o3 b i k).toNat < (j1 b i).1.length/\0<=P3 b i k/\P3 b i k<=500:=by
 have c:=h.wf.snkIn k (by rw[h.sn]; exact d);have a:=A0V h.df (Oe (Lz d).2);exact⟨c.1,c.2,a.1,a.2⟩
theorem NetOk.low{b:j0}{i:Nat}(h:NetOk b i):∀m,m<=(q6 b.2.1 i).length->Low (fN (AM (o3 b i) (P3 b i)) m (j1 b i).2.2.1) (j1 b i).1.length (500*((j1 b i).1.length:Int)+500*(m:Int)):=fun m a=>p0A (B0j h.wf.cap h.wf.capOk) m (fun k c=>h.capIn (by omega))
theorem NetOk.pull{b:j0}{i:Nat}(h:NetOk b i):∀k,k<=(j1 b i).1.length-1->Hr (fN (P0 (M4 b i) (j1 b i).1.length) k (fN (AM (o3 b i) (P3 b i)) (q6 b.2.1 i).length (j1 b i).2.2.1)) (j1 b i).1.length k 43000:=by
 have a:=h.low _ (Nat.le_refl _);have f:=h.s78;have g:=h.wf.n8;have d:Low (fN (AM (o3 b i) (P3 b i)) (q6 b.2.1 i).length (j1 b i).2.2.1) (j1 b i).1.length 43000:=⟨a.len,a.pos,by have:=a.sum; omega⟩;exact l0B d (by decide) (fun k e c=>h.wf.par k e c)
theorem NetOk.loads{b:j0}{i:Nat}(h:NetOk b i):(q9 b i).length=(j1 b i).1.length/\∀j,0<=(q9 b i).getD j 0/\(q9 b i).getD j 0<=43000:=by
 have:=h.pull _ (Nat.le_refl _);exact⟨this.len,fun j=>⟨this.pos j,this.bd j⟩⟩
abbrev p6(b:j0)(i:Nat):k6:=b.1.getD (j6 b.2.1 i).2.1.toNat (a6 y153)
theorem Dn{b:j0}(a:DF b.1 b.2.1){i:Nat}(hi:i<b.2.1.1.length):ix (j6 b.2.1 i).2.1 b.1.length/\AP B5 (p6 b i)=true/\(j6 b.2.1 i).2.2.length=(p6 b i).2.2.1.length:=by
 have:=a.fac.inst i hi;unfold L8 at this;rw[ba,ba,beq_iff_eq] at this;have d:=r6.1 this.1.1;have c:=this.1.2;have e:((j6 b.2.1 i).2.2.length:Int)=((p6 b i).2.2.1.length:Int):=c;exact⟨⟨d.1,by omega⟩,l0V a.lib (by omega),by omega⟩
theorem Dp{c:k6}(h:AP B5 c=true):2<=c.2.2.1.length/\c.2.2.1.length<=5/\c.2.2.2.1.length<=8/\∀j,j<c.2.2.2.1.length->0<=(j5 c j).2.1/\(j5 c j).2.1 < (c.2.2.1.length:Int)-1/\0<=(j5 c j).2.2.1/\(j5 c j).2.2.1 < (c.2.2.1.length:Int):=by
 have h:O9 B5 _ _ _ _ _ _ _ _ _=true:=h;unfold O9 Ft at h;simp only[ba,dq] at h;have b:=Hk h.1.1.1.1.2;refine⟨b.1,b.2.1,h.1.1.1.2.1,fun j d=>?_⟩;have:=AL.1 h.1.1.1.2.2 j d;rw[Bool.or_eq_false_iff,Bool.not_eq_false'] at this;have a:=this.1;unfold B5 at a;rw[ba,ba] at a;have f:=r6.1 a.1.1;have e:=r6.1 a.1.2;omega
theorem L0J(l:List k6)(d:m6)(b:DF l d){p:s9}(a:p∈l8 d):Fl d l p=some (Dm l d p):=by
 unfold Fl Dm;rcases SA b a with h | ⟨h1,h2,h3,h4,h5,h6⟩
 ·grind
 ·refine(if_neg (by grind)).trans ?_;rw[if_neg (by omega),gP ⟨oo,⟨h3,by grind⟩,⟨h5,by grind⟩,trivial⟩];rfl
theorem L0K(d:m6)(e:wf y53 d){l:List k6}(a:DF l d)(t:Int):KQ d t=some (q6 d t):=by
 have k:=a.len;unfold KQ;rw[Od d e a.fac.ni14 a.fac.np8 a.pin,vS,gP ⟨rfl,trivial⟩,lE];exact lF (n:=(l8 d).length) (by omega) (fun i (s:List Int)=>(s,(i:Int))) (J2 (p8 d) t) (fun i s=>s.length<=i) (J:=fun s=>some s) (F:=Zq t (l8 d)) (fun g i s hi b=>by
  have f:((i:Int)).toNat=i:=rfl;have c:∀s',NF (i:Int) g s'=g (s',((i+1:Nat):Int)):=fun j=>gP ⟨oo,trivial⟩;refine(if_pos (by grind)).trans ?_;have h:s.length<=i:=b;rw[f,gP ⟨oo,hi,trivial⟩,lE,gP ⟨⟨by grind,by grind⟩,trivial⟩,c,c];show _=g (J2 (p8 d) t i s,_);unfold J2
  grind) (fun i s hi b=>by
  grind[J2,List.length_append]) (fun g s _=>aE) [] (Nat.le_refl _)
theorem L0L(xs:List Int)(h:xs.length<=1048576):NH xs=some xs:=gP ⟨oo,trivial⟩
theorem J0x(b:j0)(u:wf j7 b){i:Nat}(h:NetOk b i):AF b (i:Int)=some (q9 b i):=by
 have r:=u.2.1;have df:=h.df;have hb:=u.2.2.1;have hi:=h.lt;have n1:=h.wf.n1;have n8:=h.wf.n8;have aA:=h.sn;have hs:=h.s78;have E:=h.wf.cap;unfold AF;have P:((i:Int)).toNat=i:=rfl;rw[gP ⟨oo,trivial⟩,lE,P,L0L _ (by grind),vS,gP ⟨rfl,trivial⟩,lE,Od b.2.1 r df.fac.ni14 df.fac.np8 df.pin,vS,gP ⟨rfl,trivial⟩,lE,L0K b.2.1 r df,vS,gP ⟨rfl,trivial⟩,lE];have q:=lF (n:=(q6 b.2.1 i).length) (by omega) (fun k (s:List Int)=>((k:Int),s)) (AM (o3 b i) (P3 b i)) (fun k v=>Low v (j1 b i).1.length (500*((j1 b i).1.length:Int)+500*(k:Int))) (J:=NG (j1 b i)) (F:=Zs b (l8 b.2.1) (q6 b.2.1 i) (j1 b i)) (fun g k v c a=>by
  have z:((k:Int)).toNat=k:=rfl;obtain⟨w,m,t,G⟩:=h.capIn c;obtain⟨Q,x⟩:=Lz c;have hv:=a.bd (by omega) (o3 b i k).toNat;have j:0<=(j1 b i).2.2.2.getD k 0:=w;have l:((j1 b i).2.2.2.getD k 0).toNat<v.length:=by rw[a.len]; exact m
  refine(if_pos (by grind)).trans ?_;rw[z,gP ⟨oo,c,trivial⟩,L0J b.1 b.2.1 df (Oe x),vS];rw[gP ⟨oo,⟨j,by omega⟩,l,⟨Q,by omega⟩,x,rfl,⟨by grind[o3,P3],by grind[o3,P3]⟩,⟨j,by omega⟩,l,trivial⟩,lE];exact gP ⟨oo,trivial⟩) (fun k v c a=>by
  obtain⟨w,m,t,G⟩:=h.capIn c;have:=a.add m t;refine⟨this.len,this.pos,Int.le_trans this.sum ?_⟩;omega) (fun g s _=>aE) (j1 b i).2.2.1 (by
  have:=h.low 0 (Nat.zero_le _);exact this)
 refine q.trans ?_;have e:=(h.low _ (Nat.le_refl _)).len;have d:=h.pull 0 (Nat.zero_le _);have T:q9 b i=fN (P0 (M4 b i) (j1 b i).1.length) ((j1 b i).1.length-1) (fN (AM (o3 b i) (P3 b i)) (q6 b.2.1 i).length (j1 b i).2.2.1):=rfl;rw[T];have o:=h.pull;generalize fN (AM (o3 b i) (P3 b i)) (q6 b.2.1 i).length (j1 b i).2.2.1=v0 at e d o ⊢;rw[NG,e,gP ⟨oo,trivial⟩];have Y:(((j1 b i).1.length:Int)-1,v0)=(fun(k:Nat) (s:List Int)=>(((j1 b i).1.length:Int)-1-(k:Int),s)) 0 v0:=by simp
 rw[Y];exact lF (n:=(j1 b i).1.length-1) (by omega) (fun(k:Nat) (s:List Int)=>(((j1 b i).1.length:Int)-1-(k:Int),s)) (P0 (M4 b i) (j1 b i).1.length) (fun k v=>Hr v (j1 b i).1.length k 43000) (J:=fun s=>some s) (F:=Hd (j1 b i)) (fun g k v c a=>by
  have W:=h.wf.par ((j1 b i).1.length-1-k) (by omega) (by omega);have f:0<=(j1 b i).1.getD ((j1 b i).1.length-1-k) 0/\((j1 b i).1.getD ((j1 b i).1.length-1-k) 0).toNat < (j1 b i).1.length-1-k:=W;have y:=a.len;have H:((j1 b i).1.length:Int)-1-(k:Int)=(((j1 b i).1.length-1-k:Nat):Int):=by omega
  have X:((((j1 b i).1.length-1-k:Nat):Int)).toNat=(j1 b i).1.length-1-k:=rfl;have b1:=a.pos ((j1 b i).1.getD ((j1 b i).1.length-1-k) 0).toNat;have b2:=a.bd ((j1 b i).1.getD ((j1 b i).1.length-1-k) 0).toNat;have b3:=a.pos ((j1 b i).1.length-1-k);have b4:=a.bd ((j1 b i).1.length-1-k);have V:((j1 b i).1.length:Int)-1-((k+1:Nat):Int)=(((j1 b i).1.length-1-k:Nat):Int)-1:=by omega
  show Hd (j1 b i) g (((j1 b i).1.length:Int)-1-(k:Int),v)=g (((j1 b i).1.length:Int)-1-((k+1:Nat):Int),P0 (M4 b i) (j1 b i).1.length k v);rw[V,H];refine(if_pos (decide_eq_true (by omega))).trans ?_;rw[X,gP ⟨oo,⟨f.1,by omega⟩,by omega,oo,by omega,oo,⟨f.1,by omega⟩,by omega,trivial⟩,lE];exact gP ⟨oo,trivial⟩) (fun k v c a=>Sb a c (h.wf.par _ (by omega) (by omega))) (fun g s _=>by
  have e9:((j1 b i).1.length:Int)-1-(((j1 b i).1.length-1:Nat):Int)=0:=by omega
  show Hd (j1 b i) g (((j1 b i).1.length:Int)-1-(((j1 b i).1.length-1:Nat):Int),s)=some s;rw[e9];have:Hd (j1 b i) g (0,s)=Rj s:=by
   rw[Hd];exact if_neg (by decide)
  exact this.trans rfl) v0 d
def r8(b:j0)(i:Nat):List Int:=B0G (j1 b i).1.length (M4 b i) (By b i) (fun k=>(q9 b i).getD k 0)
def R9(b:j0)(i:Nat):List Int:=fN (Fx (r8 b i) (o3 b i)) (q6 b.2.1 i).length []
theorem NetOk.del{b:j0}{i:Nat}(h:NetOk b i):∀k,k<=(j1 b i).1.length-1->(fN (M0 (M4 b i) (By b i) (fun k=>(q9 b i).getD k 0)) k [0]).length=k+1/\∀j,0<=(fN (M0 (M4 b i) (By b i) (fun k=>(q9 b i).getD k 0)) k [0]).getD j 0/\(fN (M0 (M4 b i) (By b i) (fun k=>(q9 b i).getD k 0)) k [0]).getD j 0<=1000*43000*(k:Int) :=
 t0O (n:=(j1 b i).1.length) (fun k a=>h.wf.resIn k a) (fun k _=>h.loads.2 k) (by decide)
theorem NetOk.delays{b:j0}{i:Nat}(h:NetOk b i):(r8 b i).length=(j1 b i).1.length/\∀j,0<=(r8 b i).getD j 0/\(r8 b i).getD j 0<=301000000:=by
 have a:=h.del _ (Nat.le_refl _);have n1:=h.wf.n1;have n8:=h.wf.n8;refine⟨a.1.trans (by omega),fun j=>⟨(a.2 j).1,Int.le_trans (a.2 j).2 (by omega)⟩⟩
theorem L0I(b:j0)(m:wf j7 b){i:Nat}(h:NetOk b i):KT b (i:Int)=some (r8 b i):=by
 have hi:=h.lt;have Q:=m.2.2.1;have n1:=h.wf.n1;have n8:=h.wf.n8;have P:=h.wf.res;obtain⟨z,r⟩:=h.loads;have y:((i:Int)).toNat=i:=rfl;unfold KT;rw[J0x b m h,vS,gP ⟨oo,rfl,trivial⟩,lE,y];show gd ((0<=((q9 b i).length:Int)/\((q9 b i).length:Int)=((q9 b i).length:Int)/\((q9 b i).length:Int).toNat*8<=281474976710656/\((q9 b i).length:Int)<=9223372036854775807)/\True) (lp (KS (j1 b i) (q9 b i)) (1,List.replicate ((q9 b i).length:Int).toNat 0))=_;rw[z,gP ⟨⟨by omega,rfl,by omega,by omega⟩,trivial⟩];have E:((1:Int),List.replicate ((j1 b i).1.length:Int).toNat (0:Int))=(fun(k:Nat) (s:List Int)=>(((k+1:Nat):Int),s++List.replicate ((j1 b i).1.length-1-k) 0)) 0 [0]:=by
  show((1:Int),List.replicate (j1 b i).1.length (0:Int))=_;have:(j1 b i).1.length=((j1 b i).1.length-1)+1:=by omega
  rw[this,List.replicate_succ];rfl
 rw[E];refine(lF (n:=(j1 b i).1.length-1) (by omega) (fun(k:Nat) (s:List Int)=>(((k+1:Nat):Int),s++List.replicate ((j1 b i).1.length-1-k) 0)) (M0 (M4 b i) (By b i) (fun k=>(q9 b i).getD k 0)) (fun k s=>s.length=k+1/\∀j,0<=s.getD j 0/\s.getD j 0<=1000*43000*(k:Int)) (J:=fun s=>some s) (F:=KS (j1 b i) (q9 b i)) (fun g k s x d=>?_) (fun k s x d=>?_) (fun g s d=>?_) [0] ?_)
 ·obtain⟨f,o⟩:=d;have q:=h.wf.par (k+1) (by omega) (by omega);have e:(s++List.replicate ((j1 b i).1.length-1-k) (0:Int)).length=(j1 b i).1.length:=by rw[List.length_append,List.length_replicate]; omega
  have t:(((k+1:Nat):Int)).toNat=k+1:=rfl;have l:=w0G (n:=(j1 b i).1.length) f q.2;have a:=h.wf.resIn (k+1) (by omega);have c:=r (k+1);have u:=Lq a.1 a.2 c.1 c.2;have G:=o ((j1 b i).1.getD (k+1) 0).toNat;show KS (j1 b i) (q9 b i) g (((k+1:Nat):Int),s++List.replicate ((j1 b i).1.length-1-k) 0)=g (((k+1+1:Nat):Int),M0 (M4 b i) (By b i) (fun k=>(q9 b i).getD k 0) k s++List.replicate ((j1 b i).1.length-1-(k+1)) 0);have w:M0 (M4 b i) (By b i) (fun k=>(q9 b i).getD k 0) k s++List.replicate ((j1 b i).1.length-1-(k+1)) 0=(s++List.replicate ((j1 b i).1.length-1-k) 0).set (k+1) (s.getD ((j1 b i).1.getD (k+1) 0).toNat 0+(j1 b i).2.1.getD (k+1) 0*(q9 b i).getD (k+1) 0):=(w0F f (by omega)).symm;rw[w,<- l];generalize s++List.replicate ((j1 b i).1.length-1-k) (0:Int)=v at e l ⊢;refine(if_pos (by grind)).trans ?_;rw[t,gP ⟨oo,⟨q.1,by omega⟩,by omega,oo,oo,by omega,oo,oo,oo,by omega,trivial⟩,lE];exact gP ⟨oo,trivial⟩
 ·obtain⟨f,o⟩:=d;have a:=h.wf.resIn (k+1) (by omega);have c:=r (k+1);have u:=Lq a.1 a.2 c.1 c.2
  grind[M4,M0,List.length_append,By,q9,Nat.lt_or_ge,Hs,Sc,List.getD_cons_zero,List.getD_cons_succ,List.getD_nil]
 ·have H:(j1 b i).1.length-1-((j1 b i).1.length-1)=0:=by omega
  show KS (j1 b i) (q9 b i) g ((((j1 b i).1.length-1+1:Nat):Int),s++List.replicate ((j1 b i).1.length-1-((j1 b i).1.length-1)) 0)=some s;rw[H,List.replicate_zero,List.append_nil,<- d.1];exact aE
 grind
theorem L0Y(b:j0)(e:wf j7 b){i:Nat}(h:NetOk b i):Da b (i:Int)=some (R9 b i):=by
 have hi:=h.lt;have q:=e.2.2.1;have a:=h.sn;have m:=h.s78;obtain⟨r,o⟩:=h.delays;have j:((i:Int)).toNat=i:=rfl;unfold Da;rw[L0I b e h,vS,gP ⟨rfl,trivial⟩,lE,gP ⟨oo,trivial⟩,lE,j];unfold R9;rw[<- a];exact lF (n:=(j1 b i).2.2.2.length) (by omega) (fun(k:Nat) (s:List Int)=>(s,(k:Int))) (Fx (r8 b i) (o3 b i)) (fun k s=>s.length=k) (J:=fun s=>some s) (F:=Zx (r8 b i) (j1 b i)) (fun g k s d c=>by
  have f:((k:Int)).toNat=k:=rfl;have l:=h.wf.snkIn k d;have c:s.length=k:=c;refine(if_pos (by grind)).trans ?_;rw[f,gP ⟨oo,trivial⟩,gP ⟨⟨l.1,by omega⟩,by omega,⟨by grind,by grind⟩,trivial⟩,lE];exact gP ⟨oo,trivial⟩) (fun k s d c=>by
  grind[Fx,List.length_append]) (fun g s _=>aE) [] rfl
theorem FD{b:j0}{i k:Nat}(a:k < (q6 b.2.1 i).length):(R9 b i).getD k 0=(r8 b i).getD (o3 b i k).toNat 0:=t0I _ _ _ k a
theorem FE(b:j0)(i:Nat):(R9 b i).length=(q6 b.2.1 i).length:=Sd _ _ _
theorem L0M(a:r7):KU a=some (D6 a.1 a.2.2.2.1):=by
 unfold KU D6;split
 ·rfl
 split
 ·rfl
 split
 ·rfl
 split
 ·rfl
 split
 ·rfl
 ·rfl
theorem L0Z(b:j0)(G:DF b.1 b.2.1){i:Nat}(hi:i<b.2.1.1.length)(f:Int)(X:0<=f)(Y:f<=1000):Db b (j6 b.2.1 i) f=some (W7 f (j5 (p6 b i)) (p6 b i).2.2.2.1.length):=by
 obtain⟨u,Q,x3⟩:=Dn G hi;obtain⟨y,x,w,m⟩:=Dp Q;unfold Db;rw[gP ⟨u,trivial⟩,lE];show lp (Ro f (p6 b i)) ([],0)=_;generalize p6 b i=c at y x w m;refine lF (n:=c.2.2.2.1.length) (by omega) (fun(j:Nat) (s:List o5)=>(s,(j:Int))) (M1 f (j5 c)) (fun j s=>s.length<=4*j) (J:=fun s=>some s) (F:=Ro f c) (fun g j s l e=>?_) (fun j s l e=>?_) (fun g s _=>aE) [] (Nat.le_refl _)
 ·have q:((j:Int)).toNat=j:=rfl;obtain⟨V,t,v,E⟩:=m j l;have e:s.length<=4*j:=e;refine(if_pos (by simpa using l)).trans ?_;rw[q,gP ⟨oo,trivial⟩,lE,L0M,vS,gP ⟨rfl,trivial⟩,lE];show lp (Rn f (j5 c j) (j:Int) (D6 (j5 c j).1 (j5 c j).2.2.2.1) g) (0,s)=g (M1 f (j5 c) j s,_);obtain⟨r,o⟩:=NW (j5 c j).1 (j5 c j).2.2.2.1;have H:M1 f (j5 c) j s=fN (U4 f (j5 c j).2.1 (j5 c j).2.2.1 (j:Int) (D6 (j5 c j).1 (j5 c j).2.2.2.1)) (D6 (j5 c j).1 (j5 c j).2.2.2.1).length s:=rfl;rw[H];generalize D6 (j5 c j).1 (j5 c j).2.2.2.1=tr at r o;generalize j5 c j=a at V t v E;refine(lF (n:=tr.length) (by omega) (fun(k:Nat) (s:List o5)=>((k:Int),s)) (U4 f a.2.1 a.2.2.1 (j:Int) tr) (fun k z=>z.length=s.length+k) (J:=fun z=>Rm (j:Int) g z) (F:=Rn f a (j:Int) tr g) (fun P k z h hz=>?_) (fun k z h hz=>?_) (fun P z _=>aE) s rfl).trans ?_
  ·have T:((k:Int)).toNat=k:=rfl;have W:=o _ (H0 (d:=((0,0):Int×Int)) h);have hz:z.length=s.length+k:=hz;refine(if_pos (by simpa using h)).trans ?_;rw[T,gP ⟨oo,h,trivial⟩,lE];show gd _ _=_;rw[gP ⟨oo,oo,oo,⟨by show _<=2*(f+a.2.1)+(tr.getD k (0,0)).1; omega,by show 2*(f+a.2.1)+(tr.getD k (0,0)).1<=_; omega⟩,oo,oo,oo,⟨by show _<=2*(f+a.2.2.1)+(tr.getD k (0,0)).2; omega,by show 2*(f+a.2.2.1)+(tr.getD k (0,0)).2<=_; omega⟩,⟨by show z.length+1<=_; omega,by show(z.length+1)*32<=_; omega⟩,trivial⟩,lE];exact gP ⟨oo,trivial⟩
  ·have hz:z.length=s.length+k:=hz;unfold U4;rw[List.length_append,hz]; rfl
  ·exact gP ⟨oo,trivial⟩
 ·have e:s.length<=4*j:=e;have:=Se f (j5 c) j s;show _<=4*(j+1);omega
def Ad(b:j0)(i:Nat)(s:Int×List o5):Int×List o5:=P1 (fun i=>(j6 b.2.1 i).2.2.length) (fun i=>j5 (p6 b i)) (fun i=>(p6 b i).2.2.2.1.length) i s
def F1(b:j0)(i:Nat):Int:=N3 (p8 b.2.1) i (l8 b.2.1).length
def Hx(b:j0):List o5:=(fN (Ad b) b.2.1.1.length (0,[])).2
def lV(b:j0):List o5:=fN (Ab (F1 b) (fun i=>q6 b.2.1 i)) b.2.2.length (Hx b)
def z0K(b:j0):List Int:=fN (W8 fun i=>(q9 b i).getD 0 0) b.2.2.length []
def t0N(b:j0):List (List Int):=fN (W8 fun i=>R9 b i) b.2.2.length []
def l5(b:j0):x5:=(b,l8 b.2.1,lV b,z0K b,t0N b,[])
theorem SB{b:j0}(a:DF b.1 b.2.1)(m:Nat)(c:m<=b.2.1.1.length):0<=(fN (Ad b) m (0,[])).1/\(fN (Ad b) m (0,[])).1<=5*(m:Int)/\(fN (Ad b) m (0,[])).2.length<=32*m :=
 m0c (n:=b.2.1.1.length) (fun i hi=>⟨(a.pin i hi).2,(Dp (Dn a hi).2.1).2.2.1⟩) m c
def Of(b:j0)(i:Nat)(s:List Int×List (List Int)×List o5):List Int×List (List Int)×List o5:=(s.1++[(q9 b i).getD 0 0],s.2.1++[R9 b i],Ab (F1 b) (fun i=>q6 b.2.1 i) i s.2.2)
theorem j0e(b:j0)(z:List o5):∀m,fN (Of b) m ([],[],z)=(fN (W8 fun i=>(q9 b i).getD 0 0) m [],fN (W8 fun i=>R9 b i) m [],fN (Ab (F1 b) (fun i=>q6 b.2.1 i)) m z)
 | 0=>rfl
 | m+1=>by
   show Of b m (fN (Of b) m ([],[],z))=_;rw[j0e b z m]; rfl
theorem M0m(b:j0)(hw:wf j7 b)(hb:p9 b=true):KX b=some (l5 b):=by
 obtain⟨aB,X,aA⟩:=P2 hb;have d:=N4 aB;have hd:=hw.2.1;have aN:=d.fac.ni14;have aK:=d.fac.nn30;have aM:=d.len;have aF:b.2.1.1.length<=9223372036854775807:=by omega
 have eN:∀l,A4 l=some (l.length:Int):=fun _=>rfl;unfold KX;rw[Od b.2.1 hd d.fac.ni14 d.fac.np8 d.pin,vS,gP ⟨rfl,trivial⟩,lE];refine(lF (n:=b.2.1.1.length) aF (fun(i:Nat) (s:Int×List o5)=>(s.1,(i:Int),s.2)) (Ad b) (fun i s=>0<=s.1/\s.1<=5*(i:Int)/\s.2.length<=32*i) (J:=fun s=>KW (l8 b.2.1) b s.2) (F:=ZC b (l8 b.2.1)) (fun g i s hi m=>?_) (fun i s hi m=>?_) (fun g s _=>aE) (0,[]) ⟨Int.le_refl _,Int.le_refl _,Nat.le_refl _⟩).trans ?_
 ·have E:((i:Int)).toNat=i:=rfl;obtain⟨f,z⟩:=s;obtain⟨e,i2,i3⟩:=m;have e:0<=f:=e;have i2:f<=5*(i:Int):=i2;have i3:z.length<=32*i:=i3;have hp:=d.pin i hi;have Y:=Lr f (j5 (p6 b i)) (p6 b i).2.2.2.1.length;have aG:=(Dp (Dn d hi).2.1).2.2.1;refine(if_pos (by grind)).trans ?_;rw[E,gP ⟨oo,trivial⟩,lE];show gd ((Db b (j6 b.2.1 i) f).isSome=true/\_/\True) _=_;rw[L0Z b d hi f e (by omega),vS,gP ⟨rfl,oo,trivial⟩,lE];show gd ((A4 (j6 b.2.1 i).2.2).isSome=true/\b7 (f+vl (A4 (j6 b.2.1 i).2.2))/\True) _=_;rw[eN,vS,gP ⟨rfl,oo,trivial⟩,lE];exact gP ⟨oo,trivial⟩
 ·obtain⟨f,z⟩:=s;obtain⟨e,i2,i3⟩:=m;have e:0<=f:=e;have i2:f<=5*(i:Int):=i2;have i3:z.length<=32*i:=i3;have hp:=d.pin i hi;have Y:=Lr f (j5 (p6 b i)) (p6 b i).2.2.2.1.length;have aG:=(Dp (Dn d hi).2.1).2.2.1;refine⟨by show 0<=f+((j6 b.2.1 i).2.2.length:Int); omega,by show f+((j6 b.2.1 i).2.2.length:Int)<=_; omega,?_⟩;show(z++W7 f (j5 (p6 b i)) (p6 b i).2.2.2.1.length).length<=_
  grind
 have hz:=(SB d _ (Nat.le_refl _)).2.2;have aD:Hx b=(fN (Ad b) b.2.1.1.length (0,[])).2:=rfl;unfold l5 lV z0K t0N;rw[aD];generalize (fN (Ad b) b.2.1.1.length (0,[])).2=z at hz;show KW (l8 b.2.1) b z=_;have aJ:b.2.2.length<=30:=by omega
 rw[KW,gP ⟨⟨by omega,rfl,by omega,by omega⟩,trivial⟩,gP ⟨⟨by omega,rfl,by omega,by omega⟩,trivial⟩];show lp (Rt (l8 b.2.1) b z) (0,List.replicate b.2.2.length [],List.replicate b.2.2.length 0)=_;have j:∀i,i < (l8 b.2.1).length->j3 (p8 b.2.1 i).2.2.1 0 ((b.2.2.length:Int)-1)=true:=fun i hi=>by rw[X]; exact d.plc _ (Oe hi)
 have gf:=m0f (p8 b.2.1) b.2.2.length;refine(lF (n:=(l8 b.2.1).length) (by omega) (fun(i:Nat) (s:List (List Int)×List Int)=>((i:Int),s.1,s.2)) (R4 (p8 b.2.1)) (fun i s=>s.1.length=b.2.2.length/\s.2.length=b.2.2.length/\∀k:Nat,(s.1.getD k []).length<=i) (J:=fun s=>Rs b (l8 b.2.1) z s) (F:=Rt (l8 b.2.1) b z) (fun g i s hi m=>?_) (fun i s hi m=>?_) (fun g s _=>aE) (List.replicate b.2.2.length [],List.replicate b.2.2.length 0) ⟨List.length_replicate,List.length_replicate,fun k=>?_⟩).trans ?_
 ·obtain⟨a,c⟩:=s;obtain⟨V,P,G⟩:=m;have V:a.length=b.2.2.length:=V;have P:c.length=b.2.2.length:=P;have G:∀k:Nat,(a.getD k []).length<=i:=G;have hp:=r6.1 (j i hi);have E:((i:Int)).toNat=i:=rfl;have j4:∀x y,NI (i:Int) g (x,y)=g (((i+1:Nat):Int),y,x):=fun x y=>gP ⟨oo,trivial⟩;have g4:=G (p8 b.2.1 i).2.2.1.toNat;refine(if_pos (by grind)).trans ?_;rw[E,gP ⟨oo,hi,trivial⟩,lE];show(if(p8 b.2.1 i).2.2.2=true then _ else _)=g (_,(R4 (p8 b.2.1) i (a,c)).1,(R4 (p8 b.2.1) i (a,c)).2);unfold R4;cases(p8 b.2.1 i).2.2.2 with
  | true =>
    rw[if_pos rfl,if_pos rfl];show gd (ix (p8 b.2.1 i).2.2.1 c.length/\_/\True) _=_;rw[gP ⟨oo,by grind,trivial⟩,j4]
  | false =>
    rw[if_neg (by simp),if_neg (by simp)];show gd (ix (p8 b.2.1 i).2.2.1 a.length/\_) _=_;rw[gP ⟨oo,by grind,⟨by grind,by grind⟩,⟨by grind,by grind⟩,⟨by grind,rfl⟩,trivial⟩,lE,j4]
 ·obtain⟨a,c⟩:=s;obtain⟨V,P,G⟩:=m;have V:a.length=b.2.2.length:=V;have P:c.length=b.2.2.length:=P;have G:∀k:Nat,(a.getD k []).length<=i:=G;have hp:=r6.1 (j i hi);unfold R4
  grind[List.length_set,Sg,List.length_append]
 ·grind
 obtain⟨gl,dl,u⟩:=gf (l8 b.2.1).length j;generalize fN (R4 (p8 b.2.1)) (l8 b.2.1).length (List.replicate b.2.2.length [],List.replicate b.2.2.length 0)=s at gl dl u;obtain⟨a,c⟩:=s;have gl:a.length=b.2.2.length:=gl;have dl:c.length=b.2.2.length:=dl;have aH:∀k:Nat,k<b.2.2.length->a.getD k []=q6 b.2.1 k:=fun k w=>(u k w).1;have aC:∀k:Nat,k<b.2.2.length->c.getD k 0=F1 b k:=fun k w=>(u k w).2;show lp (Rr c a b (l8 b.2.1)) (0,[],[],z)=_;refine(lF (n:=b.2.2.length) (by omega) (fun(i:Nat) (s:List Int×List (List Int)×List o5)=>((i:Int),s.1,s.2.1,s.2.2)) (Of b) (fun i s=>s.1.length=i/\s.2.1.length=i/\s.2.2.length<=500+160*i) (J:=fun s=>some (b,l8 b.2.1,s.2.2,s.1,s.2.1,[])) (F:=Rr c a b (l8 b.2.1)) (fun g i s hi m=>?_) (fun i s hi m=>?_) (fun g s _=>aE) ([],[],z) ⟨rfl,rfl,by grind⟩).trans ?_
 ·obtain⟨o,q,r⟩:=s;obtain⟨e,i2,i3⟩:=m;have e:o.length=i:=e;have i2:q.length=i:=i2;have i3:r.length<=500+160*i:=i3;have h:=Ac hb hi;have n1:=h.wf.n1;have Q:=h.s78;have aL:=h.loads.1;have E:((i:Int)).toNat=i:=rfl;refine(if_pos (by grind)).trans ?_;rw[J0x b hw h,vS,gP ⟨rfl,oo,by omega,⟨by grind,by grind⟩,trivial⟩,lE,L0Y b hw h,vS,gP ⟨rfl,⟨by grind,by grind⟩,trivial⟩,lE,gP ⟨oo,trivial⟩];have W:=aH i hi;have aI:=aC i hi;have T:=Sf (p8 b.2.1) i (l8 b.2.1).length;have T:0<=F1 b i/\F1 b i<=((l8 b.2.1).length:Int):=T;show lp (Fm c (i:Int) a q (R9 b i) o (q9 b i) g) (0,r)=g (_,o++[(q9 b i).getD 0 0],q++[R9 b i],Ab (F1 b) (fun i=>q6 b.2.1 i) i r);refine(lF (n:=(q6 b.2.1 i).length) (by omega) (fun(k:Nat) (s:List o5)=>((k:Int),s)) (AN (F1 b i) (q6 b.2.1 i)) (fun k y=>y.length=r.length+2*k) (J:=fun y=>Rp (i:Int) g (q++[R9 b i],o++[(q9 b i).getD 0 0],y)) (F:=Fm c (i:Int) a q (R9 b i) o (q9 b i) g) (fun v k y w hy=>?_) (fun k y w hy=>?_) (fun v y _=>?_) r rfl).trans ?_
  ·have hy:y.length=r.length+2*k:=hy;obtain⟨k1,k2⟩:=Lz w;have e4:((k:Int)).toNat=k:=rfl;show Fm c (i:Int) a q (R9 b i) o (q9 b i) g v ((k:Int),y)=_;rw[Fm,E,W,if_pos (by grind),gP ⟨oo,trivial⟩];show _=v (_,AN (F1 b i) (q6 b.2.1 i) k y);refine(lF (n:=2) (by decide) (fun(t:Nat) (x:List o5)=>((t:Int),x)) (Si (F1 b i) ((q6 b.2.1 i).getD k 0) (k:Int)) (fun t x=>x.length=y.length+t) (J:=fun x=>Rq (k:Int) v x) (F:=KV c (i:Int) a (k:Int) v) (fun H t x ht hx=>?_) (fun t x ht hx=>?_) (fun H x _=>?_) y rfl).trans ?_
   ·have hx:x.length=y.length+t:=hx;show KV c (i:Int) a (k:Int) v H ((t:Int),x)=_;rw[KV,E,e4,W,aI,if_pos (decide_eq_true (by omega)),gP ⟨oo,by omega,oo,oo,oo,oo,⟨by grind,by grind⟩,trivial⟩,lE];exact gP ⟨oo,trivial⟩
   ·grind[Si,List.length_append]
   ·grind[KV]
   ·exact gP ⟨oo,trivial⟩
  ·grind[Sj]
  ·show Fm c (i:Int) a q (R9 b i) o (q9 b i) g v (((q6 b.2.1 i).length:Int),y)=_
   grind[Fm]
  ·exact gP ⟨oo,trivial⟩
 ·obtain⟨o,q,r⟩:=s;obtain⟨e,i2,i3⟩:=m;have e:o.length=i:=e;have i2:q.length=i:=i2;have i3:r.length<=500+160*i:=i3;have Q:=(Ac hb hi).s78;refine⟨by show(o++_).length=_; grind,by show(q++_).length=_; grind,?_⟩;show(Ab (F1 b) (fun i=>q6 b.2.1 i) i r).length<=_;unfold Ab
  grind[NX]
 ·rw[j0e]
end Go.Proofs.YtechodbafnmddaaGreatDoor
end
section
namespace Go.Proofs.Xd
open Go Go.Proofs Go.Proofs.Xl
def q8(x:Nat->A8):Nat->Nat
 | 0=>0
 | i+1=>q8 x i+(x i).2.2.length
theorem m0b(x:A8)(i:Int)(d:s9)(s:List s9):∀n k,k<n->(fN (N2 x i) n s).getD (s.length+k) d=(i,(k:Int),x.2.2.getD k 0,(k:Int)==(x.2.2.length:Int)-1)
 | n+1,k,h=>by
   have a:=Fw x i s n;have b:=m0b x i d s n k
   grind[N2,fN]
theorem m0a(x:A8)(i:Int)(d:s9)(s:List s9):∀n j,j<s.length->(fN (N2 x i) n s).getD j d=s.getD j d
 | 0,_,_=>rfl
 | n+1,j,h=>by
   have a:=Fw x i s n;have b:=m0a x i d s n j h
   grind[N2,fN,Hs]
theorem LA(x:Nat->A8):∀n,(fN (K2 x) n []).length=q8 x n
 | 0=>rfl
 | n+1=>by
   have:=LA x n;show(K2 x n (fN (K2 x) n [])).length=_;unfold K2;rw[Fw];show(fN (K2 x) n []).length+_=_;rw[this]; rfl
theorem h0y(x:Nat->A8)(d:s9):∀n i k,i<n->k < (x i).2.2.length->(fN (K2 x) n []).getD (q8 x i+k) d=((i:Int),(k:Int),(x i).2.2.getD k 0,(k:Int)==((x i).2.2.length:Int)-1)
 | n+1,i,k,hi,hk=>by
   have a:=LA x n;have b:=h0y x d n i k;show(K2 x n (fN (K2 x) n [])).getD _ d=_;generalize fN (K2 x) n []=z at a b;unfold K2;rcases Nat.lt_or_ge i n with h | h
   ·have c:q8 x i+k<z.length:=by
     rw[a];have:∀m,i<m->q8 x i+(x i).2.2.length<=q8 x m:=by
      intro m
      induction m with
      | zero=>omega
      | succ m b =>
        grind[q8,Nat.lt_or_ge]
     have:=this n h;omega
    grind[m0a]
   grind[m0b]
theorem l0C(y:Nat->I9)(d:s9)(s:List s9):∀n j,j<s.length->(fN (K9 y) n s).getD j d=s.getD j d
 | 0,_,_=>rfl
 | n+1,j,h=>by
   have a:=Lo y s n;have b:=l0C y d s n j h
   grind[K9,fN,Hs]
theorem l0D(y:Nat->I9)(d:s9)(s:List s9):∀n k,k<n->(fN (K9 y) n s).getD (s.length+k) d=(-1,(k:Int),(y k).2.2,(y k).2.1==1)
 | n+1,k,h=>by
   have a:=Lo y s n;have b:=l0D y d s n k
   grind[K9,fN]
theorem o0P(x:Nat->A8):∀n j,j<q8 x n->∃i k,i<n/\k < (x i).2.2.length/\j=q8 x i+k
 | n+1,j,h=>by
   have h:j<q8 x n+(x n).2.2.length:=h;rcases Nat.lt_or_ge j (q8 x n) with a | a
   ·obtain⟨i,k,d,b,c⟩:=o0P x n j a;exact⟨i,k,by omega,b,c⟩
   ·exact⟨n,j-q8 x n,by omega,by omega,by omega⟩
theorem LB(x:Nat->A8){i n k:Nat}(hi:i<n)(b:k < (x i).2.2.length):q8 x i+k<q8 x n:=by
 induction n with
 | zero=>omega
 | succ n a =>
   grind[q8,Nat.lt_or_ge]
theorem Hy(ni np:Nat)(x:Nat->A8)(y:Nat->I9):(J1 ni np x y).length=q8 x ni+np:=by
 grind[J1,Lo,LA]
theorem Og(ni np:Nat)(x:Nat->A8)(y:Nat->I9)(d:s9){i k:Nat}(hi:i<ni)(a:k < (x i).2.2.length):(J1 ni np x y).getD (q8 x i+k) d=((i:Int),(k:Int),(x i).2.2.getD k 0,(k:Int)==((x i).2.2.length:Int)-1):=by
 grind[J1,l0C,LA,LB,h0y]
theorem h0x(ni np:Nat)(x:Nat->A8)(y:Nat->I9)(d:s9){k:Nat}(a:k<np):(J1 ni np x y).getD (q8 x ni+k) d=(-1,(k:Int),(y k).2.2,(y k).2.1==1):=by
 grind[J1,LA,l0D]
theorem q0n(ni np:Nat)(x:Nat->A8)(y:Nat->I9)(d:s9){i k:Nat}(hi:i<ni)(f:k < (x i).2.2.length){j:Nat}(b:j < (J1 ni np x y).length):(((J1 ni np x y).getD j d).1==(i:Int)&&((J1 ni np x y).getD j d).2.1==(k:Int))=decide (j=q8 x i+k):=by
 rw[Bool.eq_iff_iff,ba,beq_iff_eq,beq_iff_eq,dq];rw[Hy] at b;constructor
 ·rintro⟨a,c⟩;rcases Nat.lt_or_ge j (q8 x ni) with h | h
  ·grind[o0P,Og,Int.ofNat.inj]
  ·have e:j=q8 x ni+(j-q8 x ni):=by omega
   rw[e,h0x ni np x y d (by omega)] at a;omega
 grind[Og]
def N5(P:Nat->Bool)(m:Nat):Nat:=fN (fun i s=>if P i=true then s+1 else s) m 0
theorem Cp(P:Nat->Bool)(m:Nat):N5 P (m+1)=if P m=true then N5 P m+1 else N5 P m:=rfl
theorem p0v{P:Nat->Bool}:∀{m i:Nat},i<m->P i=true->1<=N5 P m
 | m+1,i,h,hp=>by
   rw[Cp];rcases Nat.lt_or_ge i m with a | a
   ·have:=p0v a hp; split <;> omega
   grind
theorem SC{P:Nat->Bool}:∀{m i j:Nat},i<j->j<m->P i=true->P j=true->2<=N5 P m
 | m+1,i,j,h1,h2,hi,hj=>by
   rw[Cp];rcases Nat.lt_or_ge j m with a | a
   ·have:=SC h1 a hi hj; split <;> omega
   ·have:j=m:=by omega
    subst this;have:=p0v h1 hi
    grind
theorem t0V{P:Nat->Bool}:∀{m:Nat},1<=N5 P m->∃i,i<m/\P i=true
 | 0,h=>by grind[N5,fN]
 | m+1,h=>by
   rw[Cp] at h;by_cases a:P m=true
   ·grind
   ·rw[if_neg a] at h;obtain⟨i,c,b⟩:=t0V h
    grind
def S0(pl:Nat->s9)(t:Int)(j:Nat):Bool:=(pl j).2.2.1==t&&(pl j).2.2.2
theorem m0m{pl:Nat->s9}{t:Int}:∀{m i:Nat},i<m->S0 pl t i=true->(∀j,i<j->j<m->S0 pl t j=false)->N3 pl t m=(i:Int)
 | m+1,i,h,hi,hn=>by
   have e:N3 pl t (m+1)=if S0 pl t m=true then(m:Int) else N3 pl t m:=rfl
   rw[e];rcases Nat.lt_or_ge i m with a | a
   ·rw[if_neg (by grind)];exact m0m a hi (fun j b c=>hn j b (by omega))
   grind
theorem B0E{pl:Nat->s9}{t:Int}{m:Nat}(h:N5 (S0 pl t) m=1):∃i,i<m/\S0 pl t i=true/\(∀j,j<m->S0 pl t j=decide (j=i))/\N3 pl t m=(i:Int):=by
 obtain⟨i,d,b⟩:=t0V (Nat.le_of_eq h.symm);have f:∀j,j<m->S0 pl t j=true->j=i:=fun j a g=>by
  rcases Nat.lt_trichotomy i j with c | c | c
  ·grind[SC]
  ·omega
  grind[SC]
 refine⟨i,d,b,fun j a=>?_,m0m d b (fun j e a=>?_)⟩
 ·grind
 grind
theorem p0w(P:Nat->Bool)(m:Nat):∀n,N5 P (m+n)=N5 P m+N5 (fun i=>P (m+i)) n
 | 0=>rfl
 | n+1=>by
   rw[<- Nat.add_assoc,Cp,Cp,p0w P m n];split <;> omega
theorem t0U{P:Nat->Bool}{n:Nat}(h:∀i,i<n->P i=false):N5 P (n+1)=if P n=true then 1 else 0:=by
 have:∀m,m<=n->N5 P m=0:=by
  intro m
  induction m with
  | zero=>intro _; rfl
  | succ m a=>intro b; rw[Cp,h m (by omega),if_neg (by simp),a (by omega)]
 rw[Cp,this n (Nat.le_refl _)]
theorem p0l{ni np:Nat}{x:Nat->A8}{y:Nat->I9}{d:s9}{a:Nat}(l:∀i,i<ni->1<=(x i).2.2.length/\j3 ((x i).2.2.getD ((x i).2.2.length-1) 0) 0 ((a:Int)-1)=true):∀n,n<=ni->(fN (N1 x) n (List.replicate a 0)).length=a/\∀t:Nat,t<a->(fN (N1 x) n (List.replicate a 0)).getD t 0=(N5 (S0 (fun j=>(J1 ni np x y).getD j d) t) (q8 x n):Nat)
 | 0,_=>⟨List.length_replicate,fun t g=>by
   show(List.replicate a (0:Int)).getD t 0=_;rw[gq,List.getElem?_replicate,if_pos g]; rfl⟩
 | n+1,hn=>by
   obtain⟨u,q⟩:=p0l (np:=np) (y:=y) (d:=d) l n (by omega);obtain⟨w,c⟩:=l n (by omega);have c:=r6.1 c;have e:fN (N1 x) (n+1) (List.replicate a 0)=N1 x n (fN (N1 x) n (List.replicate a 0)):=rfl;rw[e];generalize fN (N1 x) n (List.replicate a 0)=v at u q;unfold N1 AK;refine⟨by grind,fun t g=>?_⟩;rw[Sg (by omega)];show _=((N5 _ (q8 x n+(x n).2.2.length):Nat):Int);rw[p0w];have h:∀k,k < (x n).2.2.length->S0 (fun j=>(J1 ni np x y).getD j d) t (q8 x n+k)=((x n).2.2.getD k 0==(t:Int)&&(k:Int)==((x n).2.2.length:Int)-1):=fun k h=>by
    grind[S0,J1,q8,Og]
   obtain⟨m,f⟩:∃m,(x n).2.2.length=m+1:=⟨(x n).2.2.length-1,by omega⟩;have b:(x n).2.2.length-1=m:=by omega
   rw[b] at c;rw[b,f,t0U (fun i hi=>by grind),h m (by omega),f];have o:((m:Int)==((m+1:Nat):Int)-1)=true:=by simp
   rw[o,Bool.and_true];have r:((x n).2.2.getD m 0==(t:Int))=decide (t=((x n).2.2.getD m 0).toNat):=by
    rw[Bool.eq_iff_iff,beq_iff_eq,dq];omega
   rw[r];by_cases s:t=((x n).2.2.getD m 0).toNat
   ·grind
   grind
theorem o0J{ni np:Nat}{x:Nat->A8}{y:Nat->I9}{d:s9}{a:Nat}(c:∀i,i<ni->1<=(x i).2.2.length/\j3 ((x i).2.2.getD ((x i).2.2.length-1) 0) 0 ((a:Int)-1)=true)(b:∀i,i<np->j3 (y i).2.2 0 ((a:Int)-1)=true):∀n,n<=np->(fN (I3 y) n (fN (N1 x) ni (List.replicate a 0))).length=a/\∀t:Nat,t<a->(fN (I3 y) n (fN (N1 x) ni (List.replicate a 0))).getD t 0=(N5 (S0 (fun j=>(J1 ni np x y).getD j d) t) (q8 x ni+n):Nat)
 | 0,_=>p0l c ni (Nat.le_refl _)
 | n+1,hn=>by
   obtain⟨l,f⟩:=o0J (d:=d) c b n (by omega);have m:=r6.1 (b n (by omega));have e:fN (I3 y) (n+1) (fN (N1 x) ni (List.replicate a 0))=I3 y n (fN (I3 y) n (fN (N1 x) ni (List.replicate a 0))):=rfl;rw[e];generalize fN (I3 y) n (fN (N1 x) ni (List.replicate a 0))=v at l f;have h:∀t:Nat,S0 (fun j=>(J1 ni np x y).getD j d) t (q8 x ni+n)=((y n).2.2==(t:Int)&&(y n).2.1==1):=fun t=>by
    grind[S0,J1,q8,h0x]
   have g:∀t:Nat,((y n).2.2==(t:Int))=decide (t=(y n).2.2.toNat):=fun t=>by
    grind
   unfold I3;split
   ·rename_i k;unfold AK;refine⟨by grind,fun t o=>?_⟩;rw[Sg (by omega),<- Nat.add_assoc,Cp,h,g,k]
    grind
   grind[Nat.add_assoc,Cp]
def FF(f:Int)(a:A7)(j:Nat)(t:Nat):o5:=(2*(f+a.2.1)+((D6 a.1 a.2.2.2.1).getD t (0,0)).1,2*(f+a.2.2.1)+((D6 a.1 a.2.2.2.1).getD t (0,0)).2,1,(j:Int))
def Cq(d s:Int)(k t:Nat):o5:=(2*d+(t:Int),2*s+(t:Int),2,(k:Int))
theorem j0E{f a b x:Int}{c:List (Int×Int)}{s:List o5}{l:o5}:∀k,l∈fN (U4 f a b x c) k s->l∈s∨∃t,t<k/\l=(2*(f+a)+(c.getD t (0,0)).1,2*(f+b)+(c.getD t (0,0)).2,1,x)
 | 0,h=>.inl h
 | k+1,h=>by
   rcases List.mem_append.1 (show l∈fN (U4 f a b x c) k s++[_] from h) with h | h
   ·rcases j0E k h with h | ⟨t,ht,e⟩
    ·exact .inl h
    ·exact .inr ⟨t,by omega,e⟩
   ·exact .inr ⟨k,by omega,List.mem_singleton.1 h⟩
theorem m0u{f:Int}{a:Nat->A7}{s:List o5}{l:o5}:∀m,l∈fN (M1 f a) m s->l∈s∨∃j t,j<m/\t < (D6 (a j).1 (a j).2.2.2.1).length/\l=FF f (a j) j t
 | 0,h=>.inl h
 | m+1,h=>by
   rcases j0E _ (show l∈fN (U4 f _ _ (m:Int) _) _ (fN (M1 f a) m s) from h) with h | ⟨t,ht,e⟩
   ·rcases m0u m h with h | ⟨j,t,hj,ht,e⟩
    ·exact .inl h
    ·exact .inr ⟨j,t,by omega,ht,e⟩
   ·exact .inr ⟨m,t,by omega,ht,e⟩
theorem SD{a:Nat->Nat}{b:Nat->Nat->A7}{c:Nat->Nat}{x:Nat->A8}(d:∀i,a i=(x i).2.2.length):∀m,(fN (P1 a b c) m (0,[])).1=(q8 x m:Int)
 | 0=>rfl
 | m+1=>by
   show(fN (P1 a b c) m (0,[])).1+(a m:Int)=((q8 x m+(x m).2.2.length:Nat):Int);rw[SD d m,d m]; omega
theorem j0s{b:Nat->Nat}{a:Nat->Nat->A7}{c:Nat->Nat}{x:Nat->A8}(d:∀i,b i=(x i).2.2.length){l:o5}:∀m,l∈(fN (P1 b a c) m (0,[])).2->∃i j t,i<m/\j<c i/\t < (D6 (a i j).1 (a i j).2.2.2.1).length/\l=FF (q8 x i:Int) (a i j) j t
 | 0,h=>by cases h
 | m+1,h=>by
   rcases List.mem_append.1 (show l∈(fN (P1 b a c) m (0,[])).2++W7 _ _ _ from h) with h | h
   ·obtain⟨i,j,t,hi,f⟩:=j0s d m h;exact⟨i,j,t,by omega,f⟩
   ·rcases m0u _ h with h | ⟨j,t,hj,ht,e⟩
    ·cases h
    ·rw[SD d m] at e;exact⟨m,j,t,by omega,hj,ht,e⟩
theorem i0C{d:Int}{a:List Int}{z:List o5}{l:o5}:∀k,l∈fN (AN d a) k z->l∈z∨∃j t,j<k/\t<2/\l=Cq d (a.getD j 0) j t
 | 0,h=>.inl h
 | k+1,h=>by
   have h:l∈(fN (AN d a) k z++[Cq d (a.getD k 0) k 0])++[Cq d (a.getD k 0) k 1]:=h;rcases List.mem_append.1 h with h | h
   ·rcases List.mem_append.1 h with h | h
    ·rcases i0C k h with h | ⟨j,t,hj,ht,e⟩
     ·exact .inl h
     ·exact .inr ⟨j,t,by omega,ht,e⟩
    ·exact .inr ⟨k,0,by omega,by omega,List.mem_singleton.1 h⟩
   ·exact .inr ⟨k,1,by omega,by omega,List.mem_singleton.1 h⟩
theorem l0P{d:Nat->Int}{a:Nat->List Int}{z:List o5}{l:o5}:∀m,l∈fN (Ab d a) m z->l∈z∨∃i j t,i<m/\j < (a i).length/\t<2/\l=Cq (d i) ((a i).getD j 0) j t
 | 0,h=>.inl h
 | m+1,h=>by
   rcases i0C _ (show l∈fN (AN (d m) (a m)) _ (fN (Ab d a) m z) from h) with h | ⟨j,t,hj,ht,e⟩
   ·rcases l0P m h with h | ⟨i,j,t,hi,hr⟩
    ·exact .inl h
    ·exact .inr ⟨i,j,t,by omega,hr⟩
   ·exact .inr ⟨m,j,t,by omega,hj,ht,e⟩
theorem SE(f a b x:Int)(c:List (Int×Int))(s:List o5):∀k,fN (U4 f a b x c) k s=s++fN (U4 f a b x c) k []
 | 0=>(List.append_nil _).symm
 | k+1=>by
   show fN (U4 f a b x c) k s++[_]=s++(fN (U4 f a b x c) k []++[_]);rw[SE f a b x c s k,List.append_assoc]
theorem m0v(f:Int)(a:Nat->A7)(s:List o5):∀m,fN (M1 f a) m s=s++W7 f a m
 | 0=>(List.append_nil _).symm
 | m+1=>by
   show M1 f a m (fN (M1 f a) m s)=s++M1 f a m (W7 f a m);rw[m0v f a s m];unfold M1;rw[SE,SE _ _ _ _ _ (W7 f a m),List.append_assoc]
end Go.Proofs.Xd
end
section
namespace Go.Proofs.YtechodbafnmddaaGreatDoor
open Go Go.Proofs Go.Proofs.Sv Go.Proofs.Xv Go.Proofs.Xl Go.Proofs.Xd
theorem SF(l:List o5)(f t a b k i:Int)(d:0<=f/\f<=1000)(e:0<=t/\t<=1000)(c:0<=a/\a<=1)(g:0<=b/\b<=1)(h:l.length<=100000):CQ l f t a b k i=some (l++[(2*f+a,2*t+b,k,i)]) :=
 gP ⟨oo,oo,oo,oo,⟨by grind,by grind⟩,trivial⟩
def F0Q(k s:Int)(x y:Nat):Bool:=if(k==1)=true then s==3||(s==1)==((x:Int)==(y:Int)) else if(k==2)=true then(x:Int)==0 else if(k==3)=true then(x:Int)==1 else false
def Cr(k s f t i:Int)(x y:Nat)(l:List o5):List o5:=if F0Q k s x y=true then l++[(2*f+(x:Int),2*t+(y:Int),1,i)] else l
theorem p0G(k s f t i:Int)(x y:Nat)(l:List o5):(Cr k s f t i x y l).length<=l.length+1:=by
 grind[Cr]
theorem m0A(k s f t i:Int)(x:Nat)(l:List o5):∀n,(fN (Cr k s f t i x) n l).length<=l.length+n
 | 0=>Nat.le_refl _
 | n+1=>by
   have h:=m0A k s f t i x l n
   grind[p0G,fN,Cr]
theorem r86(a:r7)(l:List o5)(f t i:Int)(e:0<=f/\f<=1000)(h:0<=t/\t<=1000)(o:l.length<=90000):DW l a f t i=some (fN (fun x s=>fN (Cr a.1 a.2.2.2.1 f t i x) 2 s) 2 l):=by
 unfold DW;refine lF (n:=2) (by decide) (fun(x:Nat) (s:List o5)=>((x:Int),s)) (fun x s=>fN (Cr a.1 a.2.2.2.1 f t i x) 2 s) (fun x s=>s.length<=l.length+2*x) (J:=fun s=>some s) (F:=MJ f t i a) (fun g x s j b=>?_) (fun x s j b=>?_) (fun g s _=>by
  show MJ f t i a g (((2:Nat):Int),s)=_;rw[MJ];exact if_neg (by decide)) l (Nat.le_refl _)
 ·have b:s.length<=l.length+2*x:=b;refine(if_pos (decide_eq_true (by omega))).trans ?_;refine(lF (n:=2) (by decide) (fun(y:Nat) (s:List o5)=>((y:Int),s)) (Cr a.1 a.2.2.2.1 f t i x) (fun y s=>s.length<=l.length+2*x+y) (J:=fun s=>Qs (x:Int) g s) (F:=Qt f t (x:Int) i a g) (fun c y s d b=>?_) (fun y s d b=>?_) (fun c s _=>by
   grind[Qt]) s b).trans ?_
  ·have b:s.length<=l.length+2*x+y:=b;have k:∀v,MI (y:Int) c v=c (((y+1:Nat):Int),v):=fun v=>gP ⟨oo,trivial⟩;have m:∀v,CR (y:Int) s f t (x:Int) i c v=c (((y+1:Nat):Int),if v=true then s++[(2*f+(x:Int),2*t+(y:Int),1,i)] else s):=fun v=>by
    cases v with
    | true=>rw[CR,if_pos rfl,if_pos rfl,SF s f t x y 1 i e h (by omega) (by omega) (by omega),gP ⟨rfl,trivial⟩,vS,lE,k]
    | false=>grind[CR]
   refine(if_pos (decide_eq_true (by omega))).trans ?_
   grind[Cr,F0Q]
  ·grind[p0G]
  ·exact gP ⟨oo,trivial⟩
 grind[m0A]
theorem RU{k s:Int}(h:(k=1/\(s=1∨s=2∨s=3))∨k=2∨k=3)(a A B i:Int)(l:List o5):fN (fun x z=>fN (Cr k s (a+A) (a+B) i x) 2 z) 2 l=fN (U4 a A B i (D6 k s)) (D6 k s).length l:=by
 rcases h with ⟨rfl,rfl | rfl | rfl⟩ | rfl | rfl <;> rfl
theorem r87(d:m6)(f:wf y53 d){l:List k6}(b:DF l d){i k:Nat}(hi:i<d.1.length)(e:k < (j6 d i).2.2.length):Q4 d (i:Int) (k:Int)=some ((q8 (j6 d) i+k:Nat):Int)/\q8 (j6 d) i+k < (l8 d).length:=by
 have q:=b.len;have c:q8 (j6 d) i+k < (l8 d).length:=by
  have:=LB (j6 d) hi e;unfold l8;rw[Hy]; omega
 refine⟨?_,c⟩;unfold Q4;rw[Dl d f b.fac.ni14 b.fac.np8 b.pin,vS,gP ⟨rfl,trivial⟩,lE];have o:∀j,j < (l8 d).length->((p8 d j).1==(i:Int)&&(p8 d j).2.1==(k:Int))=decide (j=q8 (j6 d) i+k):=fun j a=>q0n d.1.length d.2.2.length (j6 d) (s7 d) (a6 y235) hi e a;have h:=Bx (n:=(l8 d).length) (by omega) (fun j=>(p8 d j).1==(i:Int)&&(p8 d j).2.1==(k:Int)) (F:=Wd (l8 d) (i:Int) (k:Int)) (fun g j a=>by
  have m:((j:Int)).toNat=j:=rfl;refine(if_pos (by grind)).trans ?_;rw[m,gP ⟨oo,a,(fun _=>oo),(fun _=>a),trivial⟩,gP ⟨oo,trivial⟩]) (fun g=>aE)
 grind
theorem B0F{b:j0}(l:p9 b=true){t:Nat}(o:t<b.2.2.length):N5 (S0 (p8 b.2.1) t) (l8 b.2.1).length=1:=by
 obtain⟨g,h,_⟩:=P2 l;have e:=N4 g;have c:Bw _ _ _ _ _ _ _ _ _=true:=g;unfold Bw at c;rw[ba] at c;have k:∀i,i<b.2.1.1.length->1<=(j6 b.2.1 i).2.2.length/\j3 ((j6 b.2.1 i).2.2.getD ((j6 b.2.1 i).2.2.length-1) 0) 0 ((b.2.1.2.1.length:Int)-1)=true:=fun i hi=>by
  have f:=(e.pin i hi).1;exact⟨f,e.fac.net.1 i hi _ (by omega)⟩
 obtain⟨n,j⟩:=o0J (d:=a6 y235) k (fun i hi=>e.fac.net.2 i hi) b.2.1.2.2.length (Nat.le_refl _);have a:=Hp (p:=fun x=>x==1) c.2 (i:=t) (by
  grind[Dj])
 have f:(Dj b.2.1.1.length b.2.1.2.2.length b.2.1.2.1.length (j6 b.2.1) (s7 b.2.1)).getD t 0=1:=beq_iff_eq.1 a;have m:=j t (by omega);unfold Dj at f
 grind[Hy,Int.ofNat.inj]
theorem r88(b:j0)(k:wf j7 b)(d:p9 b=true){t:Nat}(e:t<b.2.2.length):Jd b.2.1 (t:Int)=some (F1 b t)/\0<=F1 b t/\(F1 b t).toNat < (l8 b.2.1).length:=by
 have a:=N4 (P2 d).1;have s:=a.len;obtain⟨i,m,o,q,f⟩:=B0E (B0F d e);have r:F1 b t=(i:Int):=f;refine⟨?_,by omega,by omega⟩;unfold Jd;rw[Dl b.2.1 k.2.1 a.fac.ni14 a.fac.np8 a.pin,vS,gP ⟨rfl,trivial⟩,lE];have h:=Bx (n:=(l8 b.2.1).length) (by omega) (S0 (p8 b.2.1) t) (F:=VY (l8 b.2.1) (t:Int)) (fun g j c=>by
  have l:((j:Int)).toNat=j:=rfl;refine(if_pos (by grind)).trans ?_;rw[l,gP ⟨oo,c,(fun _=>oo),(fun _=>c),trivial⟩,gP ⟨oo,trivial⟩];rfl) (fun g=>aE)
 grind
theorem m0y{c:k6}(h:AP B5 c=true){j:Nat}(a:j<c.2.2.2.1.length):B5 c.2.2.1.length (m8 c) (j5 c j)=true:=by
 grind[O9,B5,Ft]
theorem p0F{n:Nat}{p:Nat->I8}{a:A7}(h:B5 n p a=true)(c:a.1<=3):((a.1=1/\(a.2.2.2.1=1∨a.2.2.2.1=2∨a.2.2.2.1=3))∨a.1=2∨a.1=3)/\C1 a.2.2.2.2.1 true=true/\C1 a.2.2.2.2.2 true=true:=by
 unfold B5 at h;simp only[ba] at h;obtain⟨_,h⟩:=h;by_cases b:a.1=1
 ·rw[if_pos b] at h;simp only[ba] at h
  grind[r6]
 grind
theorem q0b{k s:Int}(h:3<k):D6 k s=[]:=by
 grind[D6]
theorem q0c{k s:Int}(h:0 < (D6 k s).length):k=1∨k=2∨k=3:=by
 grind[D6]
def FG(b:j0)(i:Nat)(s:List o5):List o5:=s++W7 (q8 (j6 b.2.1) i) (j5 (p6 b i)) (p6 b i).2.2.2.1.length
theorem SG(b:j0):∀n,fN (FG b) n []=(fN (Ad b) n (0,[])).2
 | 0=>rfl
 | n+1=>by
   show FG b n (fN (FG b) n [])=(fN (Ad b) n (0,[])).2++W7 (fN (Ad b) n (0,[])).1 (j5 (p6 b n)) (p6 b n).2.2.2.1.length;have a:(fN (Ad b) n (0,[])).1=(q8 (j6 b.2.1) n:Int):=SD (fun _=>rfl) n;rw[SG b n,a]; rfl
theorem q0e{b:j0}(a:DF b.1 b.2.1){t:Int}{k:Nat}(c:k < (q6 b.2.1 t).length):0<=(q6 b.2.1 t).getD k 0/\(q6 b.2.1 t).getD k 0<=1000:=by
 have:=Lz c;have:=a.len;omega
theorem SH(b:j0)(V:wf j7 b)(r:p9 b=true):Bl b=some (lV b):=by
 obtain⟨x,q,w⟩:=P2 r;have e:=N4 x;have P:=V.2.1;have aB:=e.fac.ni14;have Y:=e.fac.nn30;have aA:=e.len;unfold Bl;refine(lF (n:=b.2.1.1.length) (by omega) (fun(i:Nat) (s:List o5)=>((i:Int),s)) (FG b) (fun i s=>s.length<=32*i) (J:=MK b) (F:=Wi b) (fun g i s hi c=>?_) (fun i s hi c=>?_) (fun g s _=>aE) [] (Nat.le_refl _)).trans ?_
 ·have c:s.length<=32*i:=c;have e3:((i:Int)).toNat=i:=rfl;obtain⟨Q,t,x3⟩:=Dn e hi;obtain⟨c1,c2,c3,c4⟩:=Dp t;have a:=fun k d=>r87 b.2.1 P e (i:=i) (k:=k) hi d;refine(if_pos (by grind)).trans ?_;rw[e3,gP ⟨oo,Q,trivial⟩,lE];refine(lF (n:=(p6 b i).2.2.2.1.length) (by omega) (fun(j:Nat) (z:List o5)=>((j:Int),z)) (M1 (q8 (j6 b.2.1) i) (j5 (p6 b i))) (fun j z=>z.length<=s.length+4*j) (J:=Qv (i:Int) g) (F:=Wh (p6 b i) b (i:Int) g) (fun l j z E hz=>?_) (fun j z E hz=>?_) (fun l z _=>aE) s (Nat.le_refl _)).trans ?_
  ·have hz:z.length<=s.length+4*j:=hz;have u:((j:Int)).toNat=j:=rfl;obtain⟨a1,a2,a3,a4⟩:=c4 j E;have ha:=m0y t E;have T:∀v,Je (j:Int) l v=l (((j+1:Nat):Int),v):=fun v=>gP ⟨oo,trivial⟩;refine(if_pos (by grind)).trans ?_;rw[u,gP ⟨oo,trivial⟩];show(if decide ((j5 (p6 b i) j).1<=3)=true then _ else _)=l (((j+1:Nat):Int),M1 (q8 (j6 b.2.1) i) (j5 (p6 b i)) j z);by_cases d:(j5 (p6 b i) j).1<=3
   ·refine(if_pos (decide_eq_true d)).trans ?_;obtain⟨k1,k2,k3⟩:=p0F ha d;obtain⟨A,hA⟩:∃A:Nat,(j5 (p6 b i) j).2.1=(A:Int):=⟨(j5 (p6 b i) j).2.1.toNat,by omega⟩;obtain⟨B,hB⟩:∃B:Nat,(j5 (p6 b i) j).2.2.1=(B:Int):=⟨(j5 (p6 b i) j).2.2.1.toNat,by omega⟩;obtain⟨fA,lA⟩:=a A (by omega);obtain⟨fB,lB⟩:=a B (by omega);have X:=r86 (j5 (p6 b i) j) z ((q8 (j6 b.2.1) i+A:Nat):Int) ((q8 (j6 b.2.1) i+B:Nat):Int) (j:Int) (by omega) (by omega) (by omega);have W:=RU k1 (q8 (j6 b.2.1) i:Int) (A:Int) (B:Int) (j:Int) z;rw[<- Int.natCast_add,<- Int.natCast_add] at W;rw[W] at X;show gd (ix (j:Int) (p6 b i).2.2.2.1.length/\ix (j:Int) (p6 b i).2.2.2.1.length/\(Q4 b.2.1 (i:Int) (j5 (p6 b i) j).2.1).isSome=true/\ix (j:Int) (p6 b i).2.2.2.1.length/\(Q4 b.2.1 (i:Int) (j5 (p6 b i) j).2.2.1).isSome=true/\(DW z (j5 (p6 b i) j) (vl (Q4 b.2.1 (i:Int) (j5 (p6 b i) j).2.1)) (vl (Q4 b.2.1 (i:Int) (j5 (p6 b i) j).2.2.1)) (j:Int)).isSome=true/\True) (lt (vl (DW z (j5 (p6 b i) j) (vl (Q4 b.2.1 (i:Int) (j5 (p6 b i) j).2.1)) (vl (Q4 b.2.1 (i:Int) (j5 (p6 b i) j).2.2.1)) (j:Int))) fun v=>Je (j:Int) l v)=_;rw[hA,hB,fA,fB,vS,vS,X,vS,gP ⟨oo,oo,rfl,oo,rfl,rfl,trivial⟩,lE,T]
    grind[M1]
   ·refine(if_neg (by grind)).trans ?_;rw[T];unfold M1;rw[q0b (by omega)];rfl
  ·grind[Se]
  ·rw[m0v];exact gP ⟨oo,trivial⟩
 ·have c:s.length<=32*i:=c;obtain⟨Q,t,x3⟩:=Dn e hi;have c3:=(Dp t).2.2.1;have:=Lr (q8 (j6 b.2.1) i) (j5 (p6 b i)) (p6 b i).2.2.2.1.length
  grind[FG,List.length_append]
 ·have f:(fN (FG b) b.2.1.1.length []).length<=500:=by
   have:=SB e b.2.1.1.length (Nat.le_refl _);rw[SG];omega
  have H:fN (FG b) b.2.1.1.length []=Hx b:=SG b _;unfold lV;rw[H] at f ⊢;generalize Hx b=z at f ⊢;unfold MK;rw[q];refine lF (n:=b.2.1.2.1.length) (by omega) (fun(i:Nat) (s:List o5)=>((i:Int),s)) (Ab (F1 b) (fun i=>q6 b.2.1 i)) (fun i s=>s.length<=500+160*i) (J:=fun s=>some s) (F:=Wg b) (fun g i s hi c=>?_) (fun i s hi c=>?_) (fun g s _=>aE) z f
  ·have c:s.length<=500+160*i:=c;have o:i<b.2.2.length:=by omega
   have m:=(Ac r o).s78;obtain⟨d1,d2,d3⟩:=r88 b V r o;have es:Y5 b.2.1 (i:Int)=some (q6 b.2.1 i):=Sy b.2.1 P e _;refine(if_pos (by grind)).trans ?_;rw[d1,vS,gP ⟨rfl,trivial⟩,lE,es,vS,gP ⟨rfl,trivial⟩,lE];refine(lF (n:=(q6 b.2.1 i).length) (by omega) (fun(k:Nat) (y:List o5)=>((k:Int),y)) (AN (F1 b i) (q6 b.2.1 i)) (fun k y=>y.length=s.length+2*k) (J:=Qu (i:Int) g) (F:=Wf (F1 b i) (q6 b.2.1 i) (i:Int) g) (fun g8 k y d G=>?_) (fun k y d G=>?_) (fun g8 y _=>aE) s rfl).trans ?_
   ·have G:y.length=s.length+2*k:=G;have u:((k:Int)).toNat=k:=rfl;have h:=q0e e d;have p1:=SF y (F1 b i) ((q6 b.2.1 i).getD k 0) 0 0 2 (k:Int) (by omega) h oo oo (by omega);have p2:=SF (y++[(2*F1 b i+0,2*(q6 b.2.1 i).getD k 0+0,2,(k:Int))]) (F1 b i) ((q6 b.2.1 i).getD k 0) 1 1 2 (k:Int) (by omega) h oo oo (by grind);refine(if_pos (by grind)).trans ?_;rw[u,p1,vS,gP ⟨oo,d,rfl,trivial⟩,lE,p2,vS,gP ⟨oo,d,rfl,trivial⟩,lE];exact gP ⟨oo,trivial⟩
   ·grind[Sj]
   ·exact gP ⟨oo,trivial⟩
  ·have c:s.length<=500+160*i:=c;have m:=(Ac r (show i<b.2.2.length by omega)).s78;unfold Ab
   grind[NX]
theorem U5{b:j0}(d:p9 b=true):(lV b).length<=6000:=by
 have a:=N4 (P2 d).1;have f:=a.fac.ni14;have k:=SB a b.2.1.1.length (Nat.le_refl _);have g:=p0d (F1 b) (fun i=>q6 b.2.1 i) (Hx b) (n:=b.2.2.length) (c:=78) (fun i hi=>(Ac d hi).s78) b.2.2.length (Nat.le_refl _);have j:=(P2 d).2.1;have e:=a.fac.nn30;have h:(Hx b).length=(fN (Ad b) b.2.1.1.length (0,[])).2.length:=rfl
 grind[lV]
theorem t0q{b:j0}{l:o5}(h:l∈lV b):(∃i j t,i<b.2.1.1.length/\j < (p6 b i).2.2.2.1.length/\t < (D6 (j5 (p6 b i) j).1 (j5 (p6 b i) j).2.2.2.1).length/\l=FF (q8 (j6 b.2.1) i:Int) (j5 (p6 b i) j) j t) ∨
  ∃i k t,i<b.2.2.length/\k < (q6 b.2.1 i).length/\t<2/\l=Cq (F1 b i) ((q6 b.2.1 i).getD k 0) k t:=by
 rcases l0P _ h with h | h
 ·exact .inl (j0s (fun _=>rfl) _ h)
 grind
end Go.Proofs.YtechodbafnmddaaGreatDoor
end
section
namespace Go.Proofs.Xd
open Go Go.Proofs.Xv Go.Proofs.Xl
theorem w0O{xs:List Int}(h:C0 xs=true):∀i,0<i->i<xs.length->xs.getD (i-1) 0<xs.getD i 0:=by
 simp only[C0,ba,dq] at h;intro i a hi;have:=AL.1 h.2 i hi;simp only[Bool.and_eq_false_iff,decide_eq_false_iff_not] at this;omega
theorem u0f{xs:List Int}(h:C0 xs=true):∀k i,i+k<xs.length->0<k->xs.getD i 0<xs.getD (i+k) 0:=by
 intro k
 induction k with
 | zero=>intro i _ d; omega
 | succ k b =>
   intro i hi _;have a:=w0O h (i+(k+1)) (by omega) hi;have e:i+(k+1)-1=i+k:=by omega
   rw[e] at a;by_cases c:k=0
   ·subst c; exact a
   ·have:=b i (by omega) (by omega); omega
theorem Bz{xs:List Int}(h:C0 xs=true){i j:Nat}(a:i<j)(b:j<xs.length):xs.getD i 0<xs.getD j 0:=by
 have:=u0f h (j-i) i (by omega) (by omega);have e:i+(j-i)=j:=by omega
 rwa [e] at this
theorem LC{xs:List Int}(h:C0 xs=true){i:Nat}(hi:i<xs.length):0<=xs.getD i 0/\xs.getD i 0<=100000:=by
 simp only[C0,ba,dq] at h;have a:=h.1.2;rw[List.all_eq_true] at a;have e:xs.getD i 0=xs[i]:=by rw[gq,List.getElem?_eq_getElem hi]; rfl
 rw[e];exact r6.1 (a _ (List.getElem_mem hi))
theorem o0v{t:Cj}(h:x4 t=true){i:Nat}(hi:i<t.2.2.length) : -1000000<=t.2.2.getD i 0/\t.2.2.getD i 0<=1000000:=by
 simp only[x4,ba,dq] at h;have a:=h.2;rw[List.all_eq_true] at a;have e:t.2.2.getD i 0=t.2.2[i]:=by rw[gq,List.getElem?_eq_getElem hi]; rfl
 rw[e];exact r6.1 (a _ (List.getElem_mem hi))
theorem u0g{xs:List Int}(h:C0 xs=true){x:Int}(_:xs.getD 0 0<=x)(o:x<=xs.getD (xs.length-1) 0):∃p,p<xs.length/\(∀i,i<p->xs.getD i 0<x)/\(∀i,p<=i->i<xs.length->x<=xs.getD i 0):=by
 have c:∀m,m<=xs.length->(∃p,p<m/\(∀i,i<p->xs.getD i 0<x)/\x<=xs.getD p 0)∨∀i,i<m->xs.getD i 0<x:=by
  intro m
  induction m with
  | zero=>exact fun _=>.inr fun i hi=>by omega
  | succ m k =>
    intro l;rcases k (by omega) with ⟨p,e,a,d⟩ | a
    ·exact .inl ⟨p,by omega,a,d⟩
    ·by_cases g:x<=xs.getD m 0
     ·exact .inl ⟨m,by omega,a,g⟩
     ·exact .inr fun i hi=>by
       by_cases b:i=m
       ·subst b; omega
       ·exact a i (by omega)
 have n:=Bu h;rcases c xs.length (Nat.le_refl _) with ⟨p,e,a,d⟩ | a
 ·refine⟨p,e,a,fun i j hi=>?_⟩;by_cases f:p=i
  ·subst f; exact d
  ·have:=Bz h (by omega:p<i) hi; omega
 ·have:=a (xs.length-1) (by omega); omega
theorem Dq{a b:Type}{F:(a->Option b)->a->Option b}{s:a}{r:Option b}(k:Nat)(c:k<=9223372036854775807)(h:∀n,D7 F (n+k) s=r):lp F s=r:=by
 have e:J3=(J3-k)+k:=by have:=Oh c; omega
 unfold lp;rw[e];exact h _
theorem B0c(i j:Nat):((i:Int)+(j:Int)).fdiv ((2:Int) ^ Int.toNat (1:Int))=((((i+j) / 2:Nat)):Int):=by
 have e:(2:Int) ^ Int.toNat (1:Int)=2:=by decide
 rw[e,Int.fdiv_eq_ediv_of_nonneg _ (by omega)];omega
theorem F6{x y A B:Int}(f : -A<=x)(c:x<=A)(a:0<=y)(d:y<=B)(e:0<=A) : -(A*B)<=x*y/\x*y<=A*B:=by
 have g:x*y<=A*y:=Int.mul_le_mul_of_nonneg_right c a;have h:A*y<=A*B:=Int.mul_le_mul_of_nonneg_left d e;have b : -A*y<=x*y:=Int.mul_le_mul_of_nonneg_right f a;rw[Int.neg_mul] at b;omega
theorem Oi{p q b a:Nat}(c:p<b)(e:q<a):p*a+q<b*a:=by
 have d:(p+1)*a<=b*a:=Nat.mul_le_mul_right _ c;rw[Nat.add_mul,Nat.one_mul] at d;omega
end Go.Proofs.Xd
end
section
namespace Go.Proofs.Xd
open Go Go.Proofs Go.Proofs.Xl
def m5(a b m:Int):Int:=if(decide (a.tmod b<0)&&m==0)=true then a.tdiv b-1 else if(decide (0<a.tmod b)&&m==1)=true then a.tdiv b+1 else a.tdiv b
theorem Dr{a b K:Int}(m:Int)(c:0<b)(r : -(K*b)<=a)(k:a<=K*b) : -K<=m5 a b m/\m5 a b m<=K:=by
 have e:=Int.mul_tdiv_add_tmod a b;have o:=Int.tmod_lt_of_pos a c;have l:=Int.lt_tmod_of_pos a c;have n:b*K=K*b:=Int.mul_comm _ _;have g:∀q:Int,b*q<b*K+b->q<=K:=fun q h=>by
  have:b*q<b*(K+1):=by rw[Int.mul_add,Int.mul_one]; exact h
  have:=Int.lt_of_mul_lt_mul_left this (Int.le_of_lt c);omega
 have f:∀q:Int,-(b*K)-b<b*q -> -K<=q:=fun q h=>by
  have:b*(-K-1)<b*q:=by rw[Int.mul_sub,Int.mul_one,Int.mul_neg]; exact h
  have:=Int.lt_of_mul_lt_mul_left this (Int.le_of_lt c);omega
 have i:∀q:Int,b*q<b*K->q<K:=fun q h=>Int.lt_of_mul_lt_mul_left h (Int.le_of_lt c);have d:∀q:Int,-(b*K)<b*q -> -K<q:=fun q h=>by
  have:b*(-K)<b*q:=by rw[Int.mul_neg]; exact h
  exact Int.lt_of_mul_lt_mul_left this (Int.le_of_lt c)
 have s:=g (a.tdiv b) (by omega);have j:=f (a.tdiv b) (by omega);unfold m5;split
 ·rename_i h;rw[ba,dq] at h;have:=d (a.tdiv b) (by omega);omega
 ·split
  ·rename_i h;rw[ba,dq] at h;have:=i (a.tdiv b) (by omega);omega
  ·omega
theorem B0h{b h:Type}{F:(b->Option h)->b->Option h}{J:b->Option h}(d:b->Nat)(I:b->Prop)(c:b->Bool)(nx:b->b)
  (f:∀g s,I s->F g s=if c s=true then g (nx s) else J s) (m:∀s,I s->c s=true->I (nx s)/\d (nx s)<d s) (s:b) (a:I s) (u:d s<=9223372036854775806):∃s',I s'/\c s'=false/\lp F s=J s':=by
 have e:∀(n:Nat) (s:b),d s<=n->I s->∃s',I s'/\c s'=false/\∀k,D7 F (k+(n+1)) s=J s':=by
  intro n
  induction n with
  | zero =>
    intro s o a;cases hc:c s with
    | true=>have:=(m s a hc).2; omega
    | false=>exact⟨s,a,hc,fun k=>by show F (D7 F k) s=_; rw[f _ _ a,hc]; rfl⟩
  | succ n t =>
    intro s o a;cases hc:c s with
    | true =>
      obtain⟨i,l⟩:=m s a hc;obtain⟨s',j,q,r⟩:=t (nx s) (by omega) i;refine⟨s',j,q,fun k=>?_⟩;show F (D7 F (k+(n+1))) s=_;rw[f _ _ a,hc,if_pos rfl];exact r k
    | false=>exact⟨s,a,hc,fun k=>by show F (D7 F (k+(n+1))) s=_; rw[f _ _ a,hc]; rfl⟩
 obtain⟨s',i,l,j⟩:=e (d s) s (Nat.le_refl _) a;exact⟨s',i,l,Dq (d s+1) (by omega) j⟩
def Ae(n r:Int):Prop:=0<=r/\r*r<=n/\n < (r+1)*(r+1)
theorem A0N{a b:Int}(c:0<=a)(h:a<=b):a*a<=b*b:=Int.mul_le_mul h h c (Int.le_trans c h)
theorem SI{a b:Int}(c:0<=a)(h:a<b):a*a<b*b:=by
 have:=Int.mul_le_mul (show a+1<=b by omega) (show a+1<=b by omega) (by omega) (by omega);have e:(a+1)*(a+1)=a*a+2*a+1:=by rw[Int.add_mul,Int.mul_add,Int.one_mul,Int.mul_one]; omega
 omega
theorem p0e{a b:Int}(c:0<=b)(h:a*a<b*b):a<b:=by
 by_cases d:a<b
 ·exact d
 ·have:=A0N c (show b<=a by omega); omega
theorem SJ{l h:Int}(b:0<=l)(a:l<h):(l+h+1).tdiv 2=(l+h+1) / 2/\l < (l+h+1) / 2/\(l+h+1) / 2<=h:=by
 refine⟨Int.tdiv_eq_ediv_of_nonneg (by omega),by omega,by omega⟩
end Go.Proofs.Xd
end
section
namespace Go.Proofs.YtechodbafnmddaaGreatDoor
open Go Go.Proofs Go.Proofs.Xv Go.Proofs.Xl Go.Proofs.Xd
theorem N6(a b m:Int)(h : -1000000000000000000<=a)(j:a<=1000000000000000000)(e:0<b):AA a b m=some (m5 a b m)/\O2 a b m=some (m5 a b m):=by
 have i:a.tdiv b<=1000000000000000000 /\ -1000000000000000000<=a.tdiv b:=by
  have k:(a.tdiv b).natAbs<=a.natAbs:=by
   rw[Int.natAbs_tdiv];exact Nat.div_le_self _ _
  omega
 have f:b7 (a.tdiv b-1)/\True:=⟨oo,trivial⟩;have g:b7 (a.tdiv b+1)/\True:=⟨oo,trivial⟩;unfold AA O2 m5;rw[gP (V:=0<b/\0<b/\True) ⟨e,e,trivial⟩,gP (V:=0<b/\True) ⟨e,trivial⟩,gP (V:=0<b/\True) ⟨e,trivial⟩,gP f,gP g,Bool.and_comm (m==0),Bool.and_comm (m==1)];by_cases c:(decide (a.tmod b<0)&&m==0)=true
 ·rw[if_pos c,if_pos c]; exact⟨rfl,rfl⟩
 ·by_cases d:(decide (0<a.tmod b)&&m==1)=true
  ·rw[if_neg c,if_pos d,if_neg c,if_pos d]; exact⟨rfl,rfl⟩
  ·rw[if_neg c,if_neg d,if_neg c,if_neg d]; exact⟨rfl,rfl⟩
end Go.Proofs.YtechodbafnmddaaGreatDoor
end
section
namespace Go.Proofs.YtechodbafnmddaaGreatDoor
open Go Go.Proofs Go.Proofs.Sv Go.Proofs.Xv Go.Proofs.Xl Go.Proofs.Xd
theorem L0y(l:List k6)(d:m6)(b:DF l d){p:s9}(a:p∈l8 d):DR l d p=some (Dm l d p):=by
 unfold DR Dm;rcases SA b a with h | ⟨h1,h2,h3,h4,h5,h6⟩
 ·grind
 ·refine(if_neg (by grind)).trans ?_;rw[if_neg (by omega),gP ⟨oo,⟨h3,by grind⟩,⟨h5,by grind⟩,trivial⟩];rfl
theorem L0z(xs:List Int)(h:xs.length<=1048576):MD xs=some xs:=gP ⟨oo,trivial⟩
theorem J0r(b:j0)(u:wf j7 b){i:Nat}(h:NetOk b i):V6 b (i:Int)=some (q9 b i):=by
 have r:=u.2.1;have df:=h.df;have hb:=u.2.2.1;have hi:=h.lt;have n1:=h.wf.n1;have n8:=h.wf.n8;have aA:=h.sn;have hs:=h.s78;have E:=h.wf.cap;unfold V6;have P:((i:Int)).toNat=i:=rfl;have es:Y5 b.2.1 (i:Int)=some (q6 b.2.1 i):=Sy b.2.1 r df _;rw[gP ⟨oo,trivial⟩,lE,P,L0z _ (by grind),vS,gP ⟨rfl,trivial⟩,lE,Dl b.2.1 r df.fac.ni14 df.fac.np8 df.pin,vS,gP ⟨rfl,trivial⟩,lE,es,vS,gP ⟨rfl,trivial⟩,lE];have q:=lF (n:=(q6 b.2.1 i).length) (by omega) (fun k (s:List Int)=>((k:Int),s)) (AM (o3 b i) (P3 b i)) (fun k v=>Low v (j1 b i).1.length (500*((j1 b i).1.length:Int)+500*(k:Int))) (J:=ME (j1 b i)) (F:=VH b (l8 b.2.1) (q6 b.2.1 i) (j1 b i)) (fun g k v c a=>by
  have z:((k:Int)).toNat=k:=rfl;obtain⟨w,m,t,G⟩:=h.capIn c;obtain⟨Q,x⟩:=Lz c;have hv:=a.bd (by omega) (o3 b i k).toNat;have j:0<=(j1 b i).2.2.2.getD k 0:=w;have l:((j1 b i).2.2.2.getD k 0).toNat<v.length:=by rw[a.len]; exact m
  refine(if_pos (by grind)).trans ?_;rw[z,L0y b.1 b.2.1 df (Oe x),vS];rw[gP ⟨oo,⟨j,by omega⟩,l,oo,c,⟨Q,by omega⟩,x,rfl,⟨by grind[o3,P3],by grind[o3,P3]⟩,⟨j,by omega⟩,l,trivial⟩,lE];exact gP ⟨oo,trivial⟩) (fun k v c a=>by
  obtain⟨w,m,t,G⟩:=h.capIn c;have:=a.add m t;refine⟨this.len,this.pos,Int.le_trans this.sum ?_⟩;omega) (fun g s _=>aE) (j1 b i).2.2.1 (by
  have:=h.low 0 (Nat.zero_le _);exact this)
 refine q.trans ?_;have e:=(h.low _ (Nat.le_refl _)).len;have d:=h.pull 0 (Nat.zero_le _);have T:q9 b i=fN (P0 (M4 b i) (j1 b i).1.length) ((j1 b i).1.length-1) (fN (AM (o3 b i) (P3 b i)) (q6 b.2.1 i).length (j1 b i).2.2.1):=rfl;rw[T];have o:=h.pull;generalize fN (AM (o3 b i) (P3 b i)) (q6 b.2.1 i).length (j1 b i).2.2.1=v0 at e d o ⊢;rw[ME,e,gP ⟨oo,trivial⟩];have Y:(((j1 b i).1.length:Int)-1,v0)=(fun(k:Nat) (s:List Int)=>(((j1 b i).1.length:Int)-1-(k:Int),s)) 0 v0:=by simp
 rw[Y];exact lF (n:=(j1 b i).1.length-1) (by omega) (fun(k:Nat) (s:List Int)=>(((j1 b i).1.length:Int)-1-(k:Int),s)) (P0 (M4 b i) (j1 b i).1.length) (fun k v=>Hr v (j1 b i).1.length k 43000) (J:=fun s=>some s) (F:=GC (j1 b i)) (fun g k v c a=>by
  have W:=h.wf.par ((j1 b i).1.length-1-k) (by omega) (by omega);have f:0<=(j1 b i).1.getD ((j1 b i).1.length-1-k) 0/\((j1 b i).1.getD ((j1 b i).1.length-1-k) 0).toNat < (j1 b i).1.length-1-k:=W;have y:=a.len;have H:((j1 b i).1.length:Int)-1-(k:Int)=(((j1 b i).1.length-1-k:Nat):Int):=by omega
  have X:((((j1 b i).1.length-1-k:Nat):Int)).toNat=(j1 b i).1.length-1-k:=rfl;have b1:=a.pos ((j1 b i).1.getD ((j1 b i).1.length-1-k) 0).toNat;have b2:=a.bd ((j1 b i).1.getD ((j1 b i).1.length-1-k) 0).toNat;have b3:=a.pos ((j1 b i).1.length-1-k);have b4:=a.bd ((j1 b i).1.length-1-k);have V:((j1 b i).1.length:Int)-1-((k+1:Nat):Int)=(((j1 b i).1.length-1-k:Nat):Int)-1:=by omega
  show GC (j1 b i) g (((j1 b i).1.length:Int)-1-(k:Int),v)=g (((j1 b i).1.length:Int)-1-((k+1:Nat):Int),P0 (M4 b i) (j1 b i).1.length k v);rw[V,H];refine(if_pos (decide_eq_true (by omega))).trans ?_;rw[X,gP ⟨oo,⟨f.1,by omega⟩,by omega,oo,by omega,oo,⟨f.1,by omega⟩,by omega,trivial⟩,lE];exact gP ⟨oo,trivial⟩) (fun k v c a=>Sb a c (h.wf.par _ (by omega) (by omega))) (fun g s _=>by
  have e9:((j1 b i).1.length:Int)-1-(((j1 b i).1.length-1:Nat):Int)=0:=by omega
  show GC (j1 b i) g (((j1 b i).1.length:Int)-1-(((j1 b i).1.length-1:Nat):Int),s)=some s;rw[e9];have:GC (j1 b i) g (0,s)=Qk s:=by
   rw[GC];exact if_neg (by decide)
  exact this.trans rfl) v0 d
theorem J0q(b:j0)(f:wf j7 b){i:Nat}(h:NetOk b i):Bj b (i:Int)=some (r8 b i):=by
 have hi:=h.lt;have z:=f.2.2.1;have n1:=h.wf.n1;have n8:=h.wf.n8;have y:=h.wf.res;obtain⟨E,l⟩:=h.loads;have w:((i:Int)).toNat=i:=rfl;unfold Bj;rw[J0r b f h,vS,gP ⟨oo,trivial⟩,lE,gP ⟨rfl,trivial⟩,lE,w];have m:((1:Int),[(0:Int)])=(fun(k:Nat) (s:List Int)=>(((k+1:Nat):Int),s)) 0 [0]:=rfl;rw[m];refine(lF (n:=(j1 b i).1.length-1) (by omega) (fun(k:Nat) (s:List Int)=>(((k+1:Nat):Int),s)) (M0 (M4 b i) (By b i) (fun k=>(q9 b i).getD k 0)) (fun k s=>s.length=k+1/\∀j,0<=s.getD j 0/\s.getD j 0<=1000*43000*(k:Int)) (J:=fun s=>some s) (F:=Qm (j1 b i) (q9 b i)) (fun g k s t d=>?_) (fun k s t d=>?_) (fun g s d=>?_) [0] ?_)
 ·obtain⟨x,e⟩:=d;have u:=h.wf.par (k+1) (by omega) (by omega);have o:(((k+1:Nat):Int)).toNat=k+1:=rfl;have c:=h.wf.resIn (k+1) (by omega);have a:=l (k+1);have r:=Lq c.1 c.2 a.1 a.2;have q:=e ((j1 b i).1.getD (k+1) 0).toNat;refine(if_pos (by grind)).trans ?_;rw[o,gP ⟨oo,⟨u.1,by omega⟩,by omega,oo,oo,by omega,oo,oo,⟨by grind,by grind⟩,trivial⟩,lE];exact gP ⟨oo,trivial⟩
 ·obtain⟨x,e⟩:=d;have c:=h.wf.resIn (k+1) (by omega);have a:=l (k+1);have r:=Lq c.1 c.2 a.1 a.2
  grind[M4,M0,List.length_append,By,q9,Nat.lt_or_ge,Hs,Sc,List.getD_cons_zero,List.getD_cons_succ,List.getD_nil]
 ·have v:(j1 b i).1.length-1+1=(q9 b i).length:=by omega
  show Qm (j1 b i) (q9 b i) g ((((j1 b i).1.length-1+1:Nat):Int),s)=some s;rw[v];exact aE
 grind
def Oj(b:j0)(i:Nat)(m:Int):List Int:=fN (W8 fun k=>m5 ((r8 b i).getD (o3 b i k).toNat 0) 1000 m) (q6 b.2.1 i).length []
theorem L0S(b:j0)(e:wf j7 b){i:Nat}(h:NetOk b i)(m:Int):DV b (i:Int) m=some (Oj b i m):=by
 have hi:=h.lt;have w:=e.2.2.1;have a:=h.sn;have u:=h.s78;obtain⟨t,j⟩:=h.delays;have q:((i:Int)).toNat=i:=rfl;unfold DV;rw[J0q b e h,vS,gP ⟨rfl,trivial⟩,lE];unfold Oj;rw[<- a];refine lF (n:=(j1 b i).2.2.2.length) (by omega) (fun(k:Nat) (s:List Int)=>((k:Int),s)) (W8 fun k=>m5 ((r8 b i).getD (o3 b i k).toNat 0) 1000 m) (fun k s=>s.length=k) (J:=fun s=>some s) (F:=VN (r8 b i) b (i:Int) m) (fun g k s c d=>?_) (fun k s c d=>?_) (fun g s _=>?_) [] rfl
 ·have f:((k:Int)).toNat=k:=rfl;have r:0<=(b.2.2.getD i (a6 y172)).2.2.2.getD k 0/\((b.2.2.getD i (a6 y172)).2.2.2.getD k 0).toNat < (r8 b i).length:=by rw[t]; exact h.wf.snkIn k c
  have l:k < (b.2.2.getD i (a6 y172)).2.2.2.length:=c;have d:s.length=k:=d;have v:=j ((j1 b i).2.2.2.getD k 0).toNat;have o:=(N6 ((r8 b i).getD ((j1 b i).2.2.2.getD k 0).toNat 0) 1000 m (by omega) (by omega) (by decide)).2;refine(gP ⟨oo,trivial⟩).trans ?_;refine(if_pos (by grind)).trans ?_;rw[q,f,o,vS,gP ⟨oo,oo,⟨r.1,by omega⟩,by omega,rfl,⟨by grind,by grind⟩,trivial⟩,lE];exact gP ⟨oo,trivial⟩
 ·grind[W8,List.length_append]
 ·refine(gP ⟨oo,trivial⟩).trans ?_;exact aE
theorem s0B{b:j0}{i k:Nat}{m:Int}(a:k < (q6 b.2.1 i).length):(Oj b i m).getD k 0=m5 ((r8 b i).getD (o3 b i k).toNat 0) 1000 m:=Ls _ 0 _ k a
theorem s0A(b:j0)(i:Nat)(m:Int):(Oj b i m).length=(q6 b.2.1 i).length:=Fy _ _
end Go.Proofs.YtechodbafnmddaaGreatDoor
end
section
namespace Go.Proofs.Xd
open Go Go.Proofs Go.Proofs.Xl
def FH(n:Int)(s:Int×Int):Int×Int:=if decide ((s.1+s.2+1).tdiv 2*(s.1+s.2+1).tdiv 2<=n)=true then((s.1+s.2+1).tdiv 2,s.2) else(s.1,(s.1+s.2+1).tdiv 2-1)
theorem t0j{F:(Int×Int->Option Int)->Int×Int->Option Int}{J:Int->Option Int}{n H:Int}(x:0<=n)(l:n < (H+1)*(H+1))(f:0<=H)(q:H<=3000000000)
  (o:∀g (s:Int×Int),0<=s.1->s.1<=s.2->s.2<=H->F g s=if decide (s.1<s.2)=true then g (FH n s) else J s.1):∃r,Ae n r/\r<=H/\lp F (0,H)=J r:=by
 obtain⟨d,⟨m,i2,i3,i4,i5⟩,b,v⟩:=B0h (J:=fun s:Int×Int=>J s.1) (fun s=>(s.2-s.1).toNat) (fun s=>0<=s.1/\s.1<=s.2/\s.2<=H/\s.1*s.1<=n/\n < (s.2+1)*(s.2+1)) (fun s=>decide (s.1<s.2)) (FH n)
  (fun g s c=>o g s c.1 c.2.1 c.2.2.1) (fun s c b=>by
    obtain⟨h,y,j,k,u⟩:=c;have b:=of_decide_eq_true b;obtain⟨i,w,t⟩:=SJ h b;unfold FH;rw[i];split
    ·rename_i a;have a:=of_decide_eq_true a;exact⟨⟨by show 0<=(s.1+s.2+1) / 2; omega,t,j,a,u⟩,by show(s.2-(s.1+s.2+1) / 2).toNat < (s.2-s.1).toNat; omega⟩
    ·rename_i a;have a:n < (s.1+s.2+1) / 2*((s.1+s.2+1) / 2):=by
      rw[dq] at a;omega
     refine⟨⟨h,by show s.1<=(s.1+s.2+1) / 2-1; omega,by show(s.1+s.2+1) / 2-1<=H; omega,k,?_⟩,by show((s.1+s.2+1) / 2-1-s.1).toNat < (s.2-s.1).toNat; omega⟩;show n < ((s.1+s.2+1) / 2-1+1)*((s.1+s.2+1) / 2-1+1);rw[Int.sub_add_cancel];exact a) (0,H) ⟨Int.le_refl _,f,Int.le_refl _,by show(0:Int)*0<=n; omega,l⟩ (by show(H-0).toNat<=_; omega)
 have b:=of_decide_eq_false b;have e:d.1=d.2:=by omega
 exact⟨d.1,⟨m,i4,by rw[e]; exact i5⟩,by omega,v⟩
theorem s0G{n R Z:Int}(h:Ae n R)(k:Ae (4*n) Z):(Z=2*R∨Z=2*R+1)/\(R*R=n->Z=2*R/\Z*Z=4*n)/\(R*R<n->(Z=2*R/\Z*Z<4*n)∨(Z=2*R+1/\Z*Z<4*n)):=by
 obtain⟨o,g,j⟩:=h;obtain⟨e,f,c⟩:=k;have a:(2*R)*(2*R)=4*(R*R):=by rw[Int.mul_assoc,<- Int.mul_assoc R 2 R,Int.mul_comm R 2,Int.mul_assoc 2 R R]; omega
 have i:(2*R+2)*(2*R+2)=4*((R+1)*(R+1)):=by
  rw[show 2*R+2=2*(R+1) by omega,Int.mul_assoc,<- Int.mul_assoc (R+1) 2 (R+1),Int.mul_comm (R+1) 2,Int.mul_assoc 2 (R+1) (R+1)]; omega
 have m:(2*R+1)*(2*R+1)=4*(R*R)+4*R+1:=by
  rw[Int.add_mul,Int.mul_add,a]; omega
 have d:2*R<Z+1:=p0e (by omega) (by omega);have l:Z<2*R+2:=p0e (by omega) (by omega);have hz:Z=2*R∨Z=2*R+1:=by omega
 refine⟨hz,fun b=>?_,fun b=>?_⟩
 ·rcases hz with rfl | rfl
  ·exact⟨rfl,by omega⟩
  ·omega
 ·rcases hz with rfl | rfl
  ·exact .inl ⟨rfl,by omega⟩
  ·exact .inr ⟨rfl,by omega⟩
theorem Cs{a b:Int}(c:0<=a)(d:0<b):m5 a b 0=a / b:=by
 unfold m5;rw[Int.tdiv_eq_ediv_of_nonneg c,Int.tmod_eq_emod_of_nonneg c,if_neg,if_neg]
 ·simp
 ·have:=Int.emod_nonneg a (Int.ne_of_gt d);simp;omega
theorem Af{a b:Int}(c:0<=a)(_:0<b):m5 a b 1=if 0<a % b then a / b+1 else a / b:=by
 unfold m5;rw[Int.tdiv_eq_ediv_of_nonneg c,Int.tmod_eq_emod_of_nonneg c,if_neg (by simp)];by_cases h:0<a % b
 ·rw[if_pos h,if_pos (by simp[h])]
 ·rw[if_neg h,if_neg (by simp[h])]
def J4(n m R:Int):Int:=if(m==1&&decide (R*R<n))=true then R.tdiv 500+1 else m5 R 500 m
def Cu(N m Z:Int):Int:=if(m==1&&decide (Z*Z<N))=true then Z+1 else Z
theorem u0R{n R Z m:Int}(h:Ae n R)(k:Ae (4*n) Z)(c:m=0∨m=1):J4 n m R=m5 (Cu (4*n) m Z) 1000 m:=by
 obtain⟨i,f,g⟩:=s0G h k;have b:=h.1;have d:=h.2.1;unfold J4 Cu;rcases c with rfl | rfl
 ·rw[if_neg (by simp),if_neg (by simp),Cs b (by decide),Cs k.1 (by decide)];omega
 ·by_cases a:R*R<n
  ·rw[if_pos (by simp[a]),Int.tdiv_eq_ediv_of_nonneg b];rcases g a with ⟨e,hz⟩ | ⟨e,hz⟩
   ·rw[if_pos (by simp[hz]),Af (by omega) (by decide),e];split <;> omega
   ·rw[if_pos (by simp[hz]),Af (by omega) (by decide),e];split <;> omega
  ·obtain⟨e,hz⟩:=f (by omega);rw[if_neg (by simp[a]),if_neg (by simp[hz]),Af b (by decide),Af k.1 (by decide),e];split <;> split <;> omega
end Go.Proofs.Xd
end
section
namespace Go.Proofs.YtechodbafnmddaaGreatDoor
open Go Go.Proofs Go.Proofs.Sv Go.Proofs.Xv Go.Proofs.Xl Go.Proofs.Xd
theorem o0u{q r:Int}(h:0<=q)(a:r=0∨r=1):(2*q+r).tdiv 2=q/\((2*q+r).tmod 2=0∨(2*q+r).tmod 2=1):=by
 grind
structure LD(b:j0)(l:o5)(a:A7)(n:Nat):Prop where
 kind:l.2.2.1=1
 pix:ix (l.2.1.tdiv 2) (l8 b.2.1).length
 plt:(l.2.1.tdiv 2).toNat < (l8 b.2.1).length
 iix:ix (p8 b.2.1 (l.2.1.tdiv 2).toNat).1 b.2.1.1.length
 cix:ix (j6 b.2.1 (p8 b.2.1 (l.2.1.tdiv 2).toNat).1.toNat).2.1 b.1.length
 aix:ix l.2.2.2 (b.1.getD (j6 b.2.1 (p8 b.2.1 (l.2.1.tdiv 2).toNat).1.toNat).2.1.toNat (a6 y153)).2.2.2.1.length
 arc:(b.1.getD (j6 b.2.1 (p8 b.2.1 (l.2.1.tdiv 2).toNat).1.toNat).2.1.toNat (a6 y153)).2.2.2.1.getD l.2.2.2.toNat (a6 y158)=a
 net:(p8 b.2.1 (l.2.1.tdiv 2).toNat).2.2.1=(n:Int)
 nlt:n<b.2.2.length
 trs:l.2.1.tmod 2=0∨l.2.1.tmod 2=1
 del:C1 a.2.2.2.2.1 true=true
 slw:C1 a.2.2.2.2.2 true=true
structure G0n(b:j0)(l:o5)(n k:Nat):Prop where
 kind:l.2.2.1=2
 pix:ix (l.2.1.tdiv 2) (l8 b.2.1).length
 plt:(l.2.1.tdiv 2).toNat < (l8 b.2.1).length
 net:(p8 b.2.1 (l.2.1.tdiv 2).toNat).2.2.1=(n:Int)
 nlt:n<b.2.2.length
 idx:l.2.2.2=(k:Int)
 klt:k < (q6 b.2.1 n).length
theorem v0h{k s:Int}{t:Nat}(h:t < (D6 k s).length):(((D6 k s).getD t (0,0)).2=0∨((D6 k s).getD t (0,0)).2=1):=by
 grind[NW,H0]
theorem FI{b:j0}(H:p9 b=true){l:o5}(h:l∈lV b):(∃a n,LD b l a n)∨∃n k,G0n b l n k:=by
 obtain⟨F,E,_⟩:=P2 H;have y:=N4 F;rcases t0q h with ⟨i,j,t,hi,x,s,rfl⟩ | ⟨i,k,t,hi,hk,s,rfl⟩
 ·obtain⟨G,z,x3⟩:=Dn y hi;obtain⟨c1,c2,Y,T⟩:=Dp z;obtain⟨a1,W,X,a4⟩:=T j x;obtain⟨B,V⟩:∃B:Nat,(j5 (p6 b i) j).2.2.1=(B:Int):=⟨(j5 (p6 b i) j).2.2.1.toNat,by omega⟩;have f:B < (j6 b.2.1 i).2.2.length:=by omega
  have lB:q8 (j6 b.2.1) i+B < (l8 b.2.1).length:=by
   have:=LB (j6 b.2.1) hi f;unfold l8;rw[Hy]; omega
  have e:=Og b.2.1.1.length b.2.1.2.2.length (j6 b.2.1) (s7 b.2.1) (a6 y235) hi f;have e:p8 b.2.1 (q8 (j6 b.2.1) i+B)=((i:Int),(B:Int),(j6 b.2.1 i).2.2.getD B 0,(B:Int)==((j6 b.2.1 i).2.2.length:Int)-1):=e;have hn:=r6.1 (y.fac.net.1 i hi B f);obtain⟨n,u⟩:∃n:Nat,(j6 b.2.1 i).2.2.getD B 0=(n:Int):=⟨((j6 b.2.1 i).2.2.getD B 0).toNat,by omega⟩;have w:(j5 (p6 b i) j).1<=3:=by have:=q0c (Nat.lt_of_le_of_lt (Nat.zero_le _) s); omega
  obtain⟨_,P,Q⟩:=p0F (m0y z x) w;have g:=o0u (q:=((q8 (j6 b.2.1) i+B:Nat):Int)) (Int.natCast_nonneg _) (v0h s);have o:(FF (q8 (j6 b.2.1) i:Int) (j5 (p6 b i) j) j t).2.1=2*((q8 (j6 b.2.1) i+B:Nat):Int)+((D6 (j5 (p6 b i) j).1 (j5 (p6 b i) j).2.2.2.1).getD t (0,0)).2:=by
   show 2*((q8 (j6 b.2.1) i:Int)+(j5 (p6 b i) j).2.2.1)+_=_;rw[V,Int.natCast_add]
  refine .inl ⟨j5 (p6 b i) j,n,?_⟩;have c:((FF (q8 (j6 b.2.1) i:Int) (j5 (p6 b i) j) j t).2.1.tdiv 2)=((q8 (j6 b.2.1) i+B:Nat):Int):=by rw[o]; exact g.1
  have m:((q8 (j6 b.2.1) i+B:Nat):Int).toNat=q8 (j6 b.2.1) i+B:=rfl;refine⟨rfl,?_,?_,?_,?_,?_,?_,?_,by omega,by rw[o]; omega,P,Q⟩
  ·rw[c]; exact oo
  ·omega
  ·rw[c,m,e]; exact⟨Int.natCast_nonneg _,by omega⟩
  ·rw[c,m,e]; exact G
  ·rw[c,m,e]; exact⟨Int.natCast_nonneg _,by show(j:Int) < ((p6 b i).2.2.2.1.length:Int); omega⟩
  ·rw[c,m,e]; rfl
  ·rw[c,m,e]; exact u
 ·obtain⟨q,v,h2,h3,_⟩:=NV (p8 b.2.1) i (l8 b.2.1).length _ (H0 (d:=0) hk);have v:(q6 b.2.1 i).getD k 0=(q:Int):=v;have o:(Cq (F1 b i) ((q6 b.2.1 i).getD k 0) k t).2.1=2*(q:Int)+(t:Int):=by
   show 2*(q6 b.2.1 i).getD k 0+_=_;rw[v]
  have g:=o0u (q:=(q:Int)) (r:=(t:Int)) (Int.natCast_nonneg _) (by omega);have c:((Cq (F1 b i) ((q6 b.2.1 i).getD k 0) k t).2.1.tdiv 2)=(q:Int):=by rw[o]; exact g.1
  have m:((q:Int)).toNat=q:=rfl;refine .inr ⟨i,k,rfl,?_,?_,?_,hi,rfl,hk⟩
  ·rw[c]; exact oo
  ·omega
  grind
theorem BA{l:List Cj}{p:Bool}(h:C1 l p=true){x:Int}(b:x=0∨x=1):ix x l.length/\x4 (l.getD x.toNat (a6 y269))=true:=by
 unfold C1 at h;rw[ba,dq] at h;have a:x.toNat<l.length:=by omega
 refine⟨oo,?_⟩
 grind
section
variable {b:j0}
theorem FJ{l:o5}{a:A7}{n:Nat}(h:LD b l a n):AD (l5 b) l=some a:=by
 unfold AD;refine(gP ⟨by decide,h.pix,h.iix,trivial⟩).trans ?_;rw[lE];refine(gP ⟨h.cix,h.aix,trivial⟩).trans ?_;rw[lE];exact congrArg some h.arc
theorem S5{l:o5}{n:Nat}(c:ix (l.2.1.tdiv 2) (l8 b.2.1).length)(a:(p8 b.2.1 (l.2.1.tdiv 2).toNat).2.2.1=(n:Int)):Bo (l5 b) l=some (n:Int):=by
 unfold Bo;refine(gP ⟨by decide,c,trivial⟩).trans ?_;rw[lE];exact congrArg some a
theorem J0v(e:wf j7 b)(f:p9 b=true){l:o5}{a:A7}{n:Nat}(h:LD b l a n):DT b l=some (a,(q9 b n).getD 0 0):=by
 have d:=N4 (P2 f).1;have c:=Ac f h.nlt;have n1:=c.wf.n1;have g:=c.loads.1;unfold DT;rw[Dl b.2.1 e.2.1 d.fac.ni14 d.fac.np8 d.pin,vS,gP ⟨rfl,by decide,h.pix,h.plt,trivial⟩,lE];show gd (ix (p8 b.2.1 (l.2.1.tdiv 2).toNat).1 b.2.1.1.length/\ix (j6 b.2.1 (p8 b.2.1 (l.2.1.tdiv 2).toNat).1.toNat).2.1 b.1.length/\ix l.2.2.2 (b.1.getD (j6 b.2.1 (p8 b.2.1 (l.2.1.tdiv 2).toNat).1.toNat).2.1.toNat (a6 y153)).2.2.2.1.length/\(V6 b (p8 b.2.1 (l.2.1.tdiv 2).toNat).2.2.1).isSome=true/\ix (0:Int) (vl (V6 b (p8 b.2.1 (l.2.1.tdiv 2).toNat).2.2.1)).length/\Int.toNat (0:Int) < (vl (V6 b (p8 b.2.1 (l.2.1.tdiv 2).toNat).2.2.1)).length/\True) (lt (vl (V6 b (p8 b.2.1 (l.2.1.tdiv 2).toNat).2.2.1),(b.1.getD (j6 b.2.1 (p8 b.2.1 (l.2.1.tdiv 2).toNat).1.toNat).2.1.toNat (a6 y153)).2.2.2.1.getD l.2.2.2.toNat (a6 y158)) fun x=>match x with | (v2,v3)=>some (v3,v2.getD (Int.toNat (0:Int)) (0:Int)))=_;rw[h.net,J0r b e c,vS,gP ⟨h.iix,h.cix,h.aix,rfl,⟨by decide,by omega⟩,by omega,trivial⟩,lE,h.arc];rfl
theorem J0u(c:wf j7 b)(d:p9 b=true){l:o5}{n k:Nat}(h:G0n b l n k):Ax b l=some (n:Int):=by
 have a:=N4 (P2 d).1;unfold Ax;rw[Dl b.2.1 c.2.1 a.fac.ni14 a.fac.np8 a.pin,vS,gP ⟨rfl,by decide,h.pix,h.plt,trivial⟩,lE];exact congrArg some h.net
end
theorem SK{n:Int}(e:0<=n)(j:n<=1000000000000000000):∃r,Ae n r/\r<=3000000000/\Kp n=some r:=by
 unfold Kp;refine t0j (J:=fun r=>some r) (n:=n) (H:=3000000000) e (by omega) (by decide) (by decide) (fun g s b c d=>?_);obtain⟨lo,hi⟩:=s;have b:0<=lo:=b;have c:lo<=hi:=c;have d:hi<=3000000000:=d;show QK n g (lo,hi)=if decide (lo<hi)=true then g (FH n (lo,hi)) else some lo
 rw[QK];by_cases a:lo<hi
 ·obtain⟨h,k,i⟩:=SJ b a;have f:=F6 (A:=3000000000) (B:=3000000000) (x:=(lo+hi+1).tdiv 2) (y:=(lo+hi+1).tdiv 2) (by omega) (by omega) (by omega) (by omega) (by decide);rw[if_pos (decide_eq_true a),if_pos (decide_eq_true a),gP ⟨oo,oo,by decide,trivial⟩,gP ⟨oo,trivial⟩];unfold FH;show(if _ then _ else _)=g (if decide ((lo+hi+1).tdiv 2*(lo+hi+1).tdiv 2<=n)=true then((lo+hi+1).tdiv 2,hi) else(lo,(lo+hi+1).tdiv 2-1));split
  ·rfl
  ·exact gP ⟨oo,trivial⟩
 ·rw[if_neg (by grind),if_neg (by grind)];rfl
theorem L0F{n m:Int}(i:0<=n)(u:n<=2000000000000000000)(_:m=0∨m=1):∃r,Ae n r/\r<=2000000000/\Bi n m=some (Cu n m r):=by
 unfold Bi;obtain⟨r,d,a,h⟩:=t0j (J:=fun r=>IX m n r) (F:=MB n m) (n:=n) (H:=2000000000) i (by omega) (by decide) (by decide) (fun g s c e f=>by
  obtain⟨lo,hi⟩:=s;have c:0<=lo:=c;have e:lo<=hi:=e;have f:hi<=2000000000:=f;show MB n m g (lo,hi)=if decide (lo<hi)=true then g (FH n (lo,hi)) else IX m n lo
  rw[MB];by_cases b:lo<hi
  ·obtain⟨o,q,t⟩:=SJ c b;have l:=F6 (A:=3000000000) (B:=3000000000) (x:=(lo+hi+1).tdiv 2) (y:=(lo+hi+1).tdiv 2) (by omega) (by omega) (by omega) (by omega) (by decide);rw[if_pos (decide_eq_true b),if_pos (decide_eq_true b),gP ⟨oo,oo,by decide,trivial⟩,gP ⟨oo,trivial⟩];unfold FH;show(if _ then _ else _)=g (if decide ((lo+hi+1).tdiv 2*(lo+hi+1).tdiv 2<=n)=true then((lo+hi+1).tdiv 2,hi) else(lo,(lo+hi+1).tdiv 2-1));split
   ·rfl
   ·exact gP ⟨oo,trivial⟩
  grind)
 refine⟨r,d,a,h.trans ?_⟩;have j:=d.1;have k:=F6 (A:=2000000000) (B:=2000000000) (x:=r) (y:=r) (by omega) (by omega) (by omega) (by omega) (by decide);rw[IX,gP ⟨(fun _=>oo),trivial⟩];unfold Cu;split
 ·rw[gP ⟨oo,trivial⟩]; rfl
 ·rfl
theorem Ol(s d:Int):500*s*500*s=250000*(s*s)/\1000000*s*s=1000000*(s*s)/\4*d*d=4*(d*d):=by
 grind
theorem H0Y{s d m:Int}(g:0<=s)(T:s<=1000000)(i:0<=d)(X:d<=301000000)(f:m=0∨m=1):∃r z,O5 s d m=some r/\Bi (1000000*s*s+4*d*d) m=some z/\O2 z 1000 m=some r/\0<=r/\r<=3000000001:=by
 obtain⟨E,Y,V⟩:=Ol s d;have W:=F6 (A:=1000000) (B:=1000000) (x:=s) (y:=s) (by omega) (by omega) (by omega) (by omega) (by decide);have Q:=F6 (A:=301000000) (B:=301000000) (x:=d) (y:=d) (by omega) (by omega) (by omega) (by omega) (by decide);have P:0<=s*s:=Int.mul_nonneg g g;have v:0<=d*d:=Int.mul_nonneg i i;obtain⟨R,j,o,u⟩:=SK (n:=250000*(s*s)+d*d) (by omega) (by omega);obtain⟨Z,h,w,k⟩:=L0F (n:=4*(250000*(s*s)+d*d)) (m:=m) (by omega) (by omega) f;have c:=j.1;have G:=h.1;have q:=u0R j h f;have l:1000000*s*s+4*d*d=4*(250000*(s*s)+d*d):=by omega
 have F:0<=Cu (4*(250000*(s*s)+d*d)) m Z/\Cu (4*(250000*(s*s)+d*d)) m Z<=3000000000:=by
  unfold Cu;split <;> omega
 have H:=Dr (a:=Cu (4*(250000*(s*s)+d*d)) m Z) (b:=1000) (K:=3000000) m (by decide) (by omega) (by omega);have t:=F6 (A:=3000000000) (B:=3000000000) (x:=R) (y:=R) (by omega) (by omega) (by omega) (by omega) (by decide);have e:0<=J4 (250000*(s*s)+d*d) m R:=by
  unfold J4;rcases f with rfl | rfl
  ·rw[if_neg (by simp),Cs c (by decide)]; omega
  ·split
   ·rw[Int.tdiv_eq_ediv_of_nonneg c]; omega
   ·rw[Af c (by decide)]; split <;> omega
 refine⟨J4 (250000*(s*s)+d*d) m R,Cu (4*(250000*(s*s)+d*d)) m Z,?_,by rw[l]; exact k,?_,e,by omega⟩
 ·unfold O5;rw[E,u,vS,gP ⟨oo,oo,oo,oo,oo,trivial⟩,gP ⟨rfl,trivial⟩,lE,gP ⟨(fun _=>oo),trivial⟩];unfold J4;split
  ·have:R.tdiv 500=R / 500:=Int.tdiv_eq_ediv_of_nonneg c;exact gP ⟨by decide,oo,trivial⟩
  ·rw[(N6 R 500 m (by omega) (by omega) (by decide)).1,vS,gP ⟨rfl,trivial⟩,lE]
 ·rw[q];exact(N6 _ 1000 m (by omega) (by omega) (by decide)).2
end Go.Proofs.YtechodbafnmddaaGreatDoor
end
section
namespace Go.Proofs.YtechodbafnmddaaGreatDoor
open Go Go.Proofs Go.Proofs.Xv Go.Proofs.Xl Go.Proofs.Xd
theorem L0s(a b:Int):Kq a b=some (decide (a<b)):=by
 unfold Kq;have e:∀a,Fc a=some (a != a):=fun _=>rfl;rw[e,e,gP ⟨rfl,fun _=>rfl,trivial⟩,vS,vS];simp
theorem LF{xs:List Int}{x:Int}(y:xs.length<=4611686018427387903){p:Nat}(v:p<xs.length)(s:∀i,i<p->xs.getD i 0<x)(u:∀i,p<=i->i<xs.length->x<=xs.getD i 0):Ks xs x=some ((p:Int),xs.getD p 0==x):=by
 have g:∀(m i j:Nat),i<=p->p<=j->j<=xs.length->j-i<m->D7 (Kr xs x) m ((i:Int),(j:Int))=some ((p:Int),xs.getD p 0==x):=by
  intro m
  induction m with
  | zero=>intro i j _ _ _ h; omega
  | succ m o =>
    intro i j hi t k w;show Kr xs x (D7 (Kr xs x) m) ((i:Int),(j:Int))=_;rw[Kr];by_cases c:i<j
    ·have d:(i+j) / 2<xs.length:=by omega
     have l:((((i+j) / 2:Nat)):Int).toNat=(i+j) / 2:=rfl;rw[if_pos (by simpa using c),B0c,gP ⟨oo,oo,⟨⟨by decide,by decide⟩,by omega,by omega⟩,oo,trivial⟩,l,L0s,gP ⟨oo,rfl,trivial⟩,vS];by_cases q:xs.getD ((i+j) / 2) 0<x
     ·rw[if_pos (by simpa using q),gP ⟨oo,trivial⟩];have f:(i+j) / 2<p:=by
       apply Nat.lt_of_not_le;intro b;have:=u _ b d; omega
      have:=o ((i+j) / 2+1) j (by omega) t k (by omega);simpa using this
     ·rw[if_neg (by simpa using q)];have f:p<=(i+j) / 2:=by
       apply Nat.le_of_not_lt;intro b;have:=s _ b; omega
      exact o i ((i+j) / 2) hi f (by omega) (by omega)
    ·have e:i=p:=by omega
     subst e;rw[if_neg (by simpa using c),QL];have l:((i:Int)).toNat=i:=rfl;have r:decide ((i:Int) < (xs.length:Int))=true:=by simpa using v
     have n:∀a,Fb a=some (a != a):=fun _=>rfl;rw[l,r,n,n,gP ⟨fun _=>oo,fun _=>oo,fun _=>rfl,fun _=>rfl,trivial⟩,vS,vS];simp
 unfold Ks;have:=g J3 0 xs.length (by omega) (by omega) (Nat.le_refl _) (by simp only[J3]; omega);exact this
def r5(xs:List Int)(x:Int):Int:=min (max x (xs.getD 0 0)) (xs.getD (xs.length-1) 0)
theorem L0D{xs:List Int}(x:Int)(h:C0 xs=true):∃(p:Nat) (a b:Int),p<xs.length/\BX xs x=some ((p:Int),a,b) /\
  ((a=1/\b=0/\J7 xs x=some ([((p:Int),1)],1)) ∨
    (p+1<xs.length/\0<a/\0<b/\a+b<=100000/\J7 xs x=some ([((p:Int),a),((p:Int)+1,b)],a+b))):=by
 obtain⟨l1,l4⟩:=Bu h;have o:((xs.length:Int)-1).toNat=xs.length-1:=by omega
 have H:xs.getD 0 0<=r5 xs x:=by
  have:xs.getD 0 0<=xs.getD (xs.length-1) 0:=by
   by_cases l:xs.length=1
   ·rw[l]; exact Int.le_refl _
   ·have:=Bz h (by omega:0<xs.length-1) (by omega); omega
  unfold r5; omega
 have Q:r5 xs x<=xs.getD (xs.length-1) 0:=by unfold r5; omega
 obtain⟨p,e,E,w⟩:=u0g h H Q;have c:∀(q:Nat) (r:Option (Int×Int×Int)),(∀g,BW xs (r5 xs x) g (q:Int)=r)->(∀i,q<i->i<xs.length->r5 xs x<xs.getD i 0)->q<xs.length->lp (BW xs (r5 xs x)) ((xs.length:Int)-1)=r:=by
  intro q r u d j;have y:∀(m k:Nat),q+k<xs.length->k<m->D7 (BW xs (r5 xs x)) m ((q+k:Nat):Int)=r:=by
   intro m
   induction m with
   | zero=>intro k _ h; omega
   | succ m T =>
     intro k P hm;show BW xs (r5 xs x) (D7 (BW xs (r5 xs x)) m) ((q+k:Nat):Int)=r;by_cases z:k=0
     ·subst z; exact u _
     ·have hg:=d (q+k) (by omega) P;have f:(((q+k:Nat):Int)).toNat=q+k:=rfl;have t:¬(r5 xs x=xs.getD (q+k) 0):=by omega
      have X:¬(xs.getD (q+k) 0<r5 xs x):=by omega
      rw[BW,if_pos (by simp; omega),gP ⟨oo,trivial⟩,f,if_neg (by simpa using t),gP ⟨oo,trivial⟩,if_neg (by simpa using X),gP ⟨oo,trivial⟩];have F:(((q+k:Nat):Int))-1=((q+(k-1):Nat):Int):=by omega
      rw[F];exact T (k-1) (by omega) (by omega)
  have:=y J3 (xs.length-1-q) (by omega) (by simp only[J3]; omega);have W:((q+(xs.length-1-q):Nat):Int)=(xs.length:Int)-1:=by omega
  rw[W] at this;exact this
 have f:∀n:Nat,((n:Int)).toNat=n:=fun _=>rfl;by_cases s:xs.getD p 0=r5 xs x
 ·refine⟨p,1,0,e,?_,.inl ⟨rfl,rfl,?_⟩⟩
  ·unfold BX;rw[gP ⟨oo,trivial⟩,gP ⟨oo,oo,trivial⟩,o];change lt (r5 xs x) _=_;rw[lE,gP ⟨oo,trivial⟩];refine c p _ (fun g=>?_) (fun i hi l=>?_) e
   ·rw[BW,if_pos (by simp),gP ⟨oo,trivial⟩,f,if_pos (by simpa using s.symm)]
   ·have:=Bz h hi l; omega
  ·unfold J7;rw[gP ⟨oo,oo,oo,trivial⟩,o];change lt (r5 xs x) _=_;rw[lE,LF (by omega) e E w,gP ⟨rfl,trivial⟩,vS,lE,if_pos (by simpa using s)]
 ·have d:r5 xs x<xs.getD p 0:=by have:=w p (Nat.le_refl _) e; omega
  have G:0<p:=by
   apply Nat.pos_of_ne_zero;intro z; subst z; omega
  obtain⟨q,rfl⟩:∃q,p=q+1:=⟨p-1,by omega⟩;have j:=E q (by omega);have b1:=LC h e;have Y:=LC h (by omega:q<xs.length);refine⟨q,xs.getD (q+1) 0-r5 xs x,r5 xs x-xs.getD q 0,by omega,?_,.inr ⟨e,by omega,by omega,by omega,?_⟩⟩
  ·unfold BX;rw[gP ⟨oo,trivial⟩,gP ⟨oo,oo,trivial⟩,o];change lt (r5 xs x) _=_;rw[lE,gP ⟨oo,trivial⟩];refine c q _ (fun g=>?_) (fun i hi l=>?_) (by omega)
   ·have v:((q:Int)+1).toNat=q+1:=by omega
    have t:¬(r5 xs x=xs.getD q 0):=by omega
    rw[BW,if_pos (by simp),gP ⟨oo,trivial⟩,f,if_neg (by simpa using t),gP ⟨oo,trivial⟩,if_pos (by simpa using j),v,gP ⟨oo,oo,oo,oo,oo,trivial⟩]
   ·by_cases u:i=q+1
    ·subst u; exact d
    ·have:=Bz h (by omega:q+1<i) l; omega
  ·have v:(((q+1:Nat):Int)-1).toNat=q:=by omega
   have V:((q+1:Nat):Int)-1=(q:Int):=by omega
   unfold J7;rw[gP ⟨oo,oo,oo,trivial⟩,o];change lt (r5 xs x) _=_;rw[lE,LF (by omega) e E w,gP ⟨rfl,trivial⟩,vS,lE,if_neg (by simpa using s),v,f,gP ⟨oo,oo,oo,oo,oo,oo,oo,oo,oo,oo,trivial⟩,lE,V];congr 2;omega
end Go.Proofs.YtechodbafnmddaaGreatDoor
end

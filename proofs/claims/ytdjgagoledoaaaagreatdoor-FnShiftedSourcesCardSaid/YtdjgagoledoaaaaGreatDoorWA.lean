/- Plain words on names: no program in sight. -/
import Derived.Test.YtdjgagoledoaaaaGreatDoorXA
import Derived.Lib.SlTrimSet
import Derived.Lib.Bytealg
import Derived.Test.YtdjgagoledoaaaaGreatDoorXF
import Derived.Test.YtdjgagoledoaaaaGreatDoorF84c
import Derived.Test.YtdjgagoledoaaaaGreatDoorG84
set_option maxHeartbeats 0
section
namespace Go.Proofs.Sv
open Go
def Bk(c:Int):Bool:=decide (c≥97)&&decide (c<=122)
def Ja(c:Int):Bool:=decide (c≥48)&&decide (c<=57)
def Fy(c:Int)(i:Nat):Bool:=Bk c||(Ja c&&decide (0<i))
def Bl(s:ByteArray):Nat->Bool
 | 0=>true
 | k+1=>Bl s k&&Fy (F5 s k) k
def J0(s:ByteArray):Bool:=Bl s s.size&&decide ((s.size:Int)≥1)&&decide ((s.size:Int)<=8)
theorem v0s(s:ByteArray)(k:Nat):∀j,k<=j->Bl s j=true->Bl s k=true:=by
 intro j c h
 induction j with
 | zero=>have:k=0:=by omega
         subst this; rfl
 | succ j a =>
   by_cases b:k=j+1
   ·subst b; exact h
   ·simp only[Bl,ba] at h;exact a (by omega) h.1
def low26:List UInt8:=[97,98,99,100,101,102,103,104,105,106,107,108,109,110,111,112,113,114,115,116,117,118,119,120,121,122]
def low36:List UInt8:=[97,98,99,100,101,102,103,104,105,106,107,108,109,110,111,112,113,114,115,116,117,118,119,120,121,122,48,49,50,51,52,53,54,55,56,57]
theorem v0F:∀n:Fin 256,low26.contains (UInt8.ofNat n.val)=Bk (n.val:Int):=by decide +kernel
theorem v0D:∀n:Fin 256,low36.contains (UInt8.ofNat n.val)=(Bk (n.val:Int)||Ja (n.val:Int)):=by decide +kernel
theorem v0E(b:UInt8):low26.contains b=Bk (b.toNat:Int):=by
 have:=v0F ⟨b.toNat,b.toNat_lt⟩;simpa using this
theorem n0b(b:UInt8):low36.contains b=(Bk (b.toNat:Int)||Ja (b.toNat:Int)):=by
 have:=v0D ⟨b.toNat,b.toNat_lt⟩;simpa using this
theorem f0U(c:UInt8):∀l:List UInt8,decide (0<=Lib.indexByte l c)=l.contains c
 | []=>by simp[Lib.indexByte]
 | b :: l=>by
   have f:=f0U c l;have i:=Lib.indexByte_ge l c;unfold Lib.indexByte;by_cases a:b=c
   ·subst a; simp
   ·have d:¬c=b:=fun h=>a h.symm;have g:(b==c)=false:=by simpa using a
    rw[g,List.contains_cons,show(c==b)=false by simpa using d,<- f];by_cases e:Lib.indexByte l c = -1
    ·simp[e]
    ·have:(Lib.indexByte l c == -1)=false:=by simpa using e
     rw[this];simp only[Bool.false_eq_true,if_false,Bool.false_or];rw[Bool.eq_iff_iff]; simp only[dq]; omega
theorem f0Z{a:Type}(p:a->Bool):∀l:List a,l.dropWhile p=[]↔∀x∈l,p x=true
 | []=>by simp
 | x :: r=>by
   rw[List.dropWhile_cons];by_cases h:p x=true
   ·simp[h,f0Z p r]
   ·simp[h]
theorem f0L{a:Type}(p:a->Bool)(x:a):∀l:List a,x∈l.takeWhile p->p x=true
 | [],h=>by cases h
 | y :: r,h=>by
   rw[List.takeWhile_cons] at h;by_cases b:p y=true
   ·rw[if_pos b] at h;rcases List.mem_cons.1 h with rfl | h
    ·exact b
    ·exact f0L p x r h
   ·rw[if_neg b] at h; cases h
theorem u0p(l cs:List UInt8):Lib.trimS l cs=[]↔∀b∈l,cs.contains b=true:=by
 unfold Lib.trimS Lib.trimLeftS Lib.trimRightS;rw[f0Z];constructor
 ·intro h b a;have e:l=(l.reverse.dropWhile (cs.contains ·)).reverse++(l.reverse.takeWhile (cs.contains ·)).reverse:=by
   rw[<- List.reverse_append,List.takeWhile_append_dropWhile,List.reverse_reverse]
  rw[e] at a;rcases List.mem_append.1 a with a | a
  ·exact h b a
  ·have:=List.mem_reverse.1 a;exact f0L (cs.contains ·) b _ this
 ·intro h b a;exact h b (by have:=(List.dropWhile_sublist _).mem (List.mem_reverse.1 a); exact List.mem_reverse.1 this)
theorem q0A(s:ByteArray)(d:Bk (F5 s 0)=true):∀k,k<=s.size->(Bl s k=true↔∀i,i<k->(Bk (F5 s i)||Ja (F5 s i))=true)
 | 0,_=>by simp[Bl]
 | k+1,hk=>by
   have f:=q0A s d k (by omega);simp only[Bl,ba,f];constructor
   ·rintro⟨g,a⟩ i hi;by_cases b:i=k
    ·subst b;unfold Fy at a;cases hl:Bk (F5 s i) with
     | true=>simp
     | false=>rw[hl] at a; simp only[Bool.false_or,ba] at a; simp[a.1]
    ·exact g i (by omega)
   ·intro h;refine⟨fun i hi=>h i (by omega),?_⟩;have:=h k (by omega);unfold Fy;by_cases c:k=0
    ·subst c; simp[d]
    ·have e:decide (0<k)=true:=by simp; omega
     rw[e]; simpa using this
theorem x0I(s:ByteArray):Lib.trimS s.data.toList low36=[]↔∀i,i<s.size->(Bk (F5 s i)||Ja (F5 s i))=true:=by
 rw[u0p];have c:s.data.toList.length=s.size:=by simp
 constructor
 ·intro h i hi;have a:i<s.data.toList.length:=by rw[c]; exact hi
  have:=h s.data.toList[i] (List.getElem_mem a);rw[n0b] at this;unfold F5;rw[gq,List.getElem?_eq_getElem a];exact this
 ·intro h b d;obtain⟨i,hi,rfl⟩:=List.getElem_of_mem d;have:=h i (by rw[<- c]; exact hi);unfold F5 at this;rw[gq,List.getElem?_eq_getElem hi] at this;rw[n0b]; exact this
theorem y0J(s:ByteArray)(c:1<=s.size)(e:s.size<=8):J0 s=((Lib.trimS s.data.toList low36==[])&&decide (0<=Lib.indexByte low26 (F5 s 0).toNat.toUInt8)):=by
 have a:(F5 s 0).toNat.toUInt8=s.data.toList.getD 0 0:=by unfold F5; simp
 rw[a,f0U,v0E];show J0 s=(_&&Bk (F5 s 0));have b:decide ((s.size:Int)≥1)=true:=by simp; omega
 have d:decide ((s.size:Int)<=8)=true:=by simp; omega
 unfold J0;rw[b,d,Bool.and_true,Bool.and_true];cases h0:Bk (F5 s 0) with
 | false =>
   rw[Bool.and_false];cases hn:Bl s s.size with
   | false=>rfl
   | true =>
     have:=v0s s 1 s.size c hn;simp[Bl,Fy,h0] at this
 | true =>
   rw[Bool.and_true,Bool.eq_iff_iff,q0A s h0 s.size (Nat.le_refl _),beq_iff_eq,x0I]
end Go.Proofs.Sv
end
section
namespace Go.Proofs.Xd
open Go Go.Proofs.Xv Go.Proofs.Xl
abbrev Dv:=List Int×List Int×List Int
abbrev F0:=Int×Int×Int×Int×List Dv×List Dv
abbrev O0:=ByteArray×Int×Int×Bool
abbrev F1:=ByteArray×Int×List Int
abbrev O1:=ByteArray×Int×Int
abbrev Vy:=List Int×List Int×List Int×List Int
def m0(x l h:Int):Bool:=decide (l<=x)&&decide (x<=h)
theorem A4{x l h:Int}:m0 x l h=true↔l<=x/\x<=h:=by simp[m0]
def Dw(xs:List Int):Bool:=!(List.range xs.length).any fun i=>decide (0<i)&&decide (xs.getD i 0<=xs.getD (i-1) 0)
def G6(xs:List Int):Bool:=decide (1<=xs.length)&&decide (xs.length<=4)&&xs.all (m0 · 0 100000)&&Dw xs
def C8(t:Dv):Bool:=G6 t.1&&G6 t.2.1&&decide (t.2.2.length=t.1.length*t.2.1.length)&&t.2.2.all (m0 · (-1000000) 1000000)
theorem CE{xs:List Int}(h:G6 xs=true):1<=xs.length/\xs.length<=4:=by
 simp only[G6,ba,dq] at h;exact⟨h.1.1.1,h.1.1.2⟩
theorem Fz{t:Dv}(h:C8 t=true):1<=t.1.length/\t.1.length<=4/\1<=t.2.1.length/\t.2.1.length<=4/\t.2.2.length=t.1.length*t.2.1.length/\1<=t.2.2.length/\t.2.2.length<=16:=by
 simp only[C8,ba,dq] at h;obtain⟨⟨⟨f,e⟩,g⟩,_⟩:=h;obtain⟨b,d⟩:=CE f;obtain⟨c,a⟩:=CE e;have i:1*1<=t.1.length*t.2.1.length:=Nat.mul_le_mul b c;have j:t.1.length*t.2.1.length<=4*4:=Nat.mul_le_mul d a;exact⟨b,d,c,a,g,by omega,by omega⟩
def AF(xs:List Int):Int:=fN (fun i m=>min m (xs.getD (i+1) 0)) (xs.length-1) (xs.getD 0 0)
def F2(l:List Dv)(p:Bool):Bool:=decide (l.length=2)&&l.all fun t=>C8 t&&!(p&&decide (AF t.2.2<0))
theorem Bm{b:Type}(l:List b)(p:b->Bool):(!l.any fun x=>!p x)=l.all p:=by
 induction l with
 | nil=>rfl
 | cons a r c=>simp only[List.any_cons,List.all_cons,Bool.not_or,Bool.not_not,c]
end Go.Proofs.Xd
end
section
namespace Go.Proofs.Xd
open Go Go.Proofs.Sv Go.Proofs.Xv Go.Proofs.Xl
theorem q0z(s:ByteArray):∀n,Bl s n=!(List.range n).any fun i=>!Fy (F5 s i) i
 | 0=>rfl
 | n+1=>by
   rw[Bl,q0z s n,List.range_succ,List.any_append,Bool.not_or];simp
def P3(f:Nat->ByteArray)(i:Nat):Bool:=(List.range i).any fun k=>decide (f k=f i)
def D1(n:Nat)(f:Nat->ByteArray):Bool:=!(List.range n).any fun i=>!J0 (f i)||P3 f i
theorem m0W{n:Nat}{f g:Nat->ByteArray}(h:∀i,i<n->f i=g i):D1 n f=D1 n g:=by
 unfold D1;congr 1;refine MD fun i hi=>?_;rw[h i hi];congr 1;unfold P3;refine MD fun k a=>?_;rw[h i hi,h k (by omega)]
theorem x0M(l:List ByteArray)(d:ByteArray)(i:Nat)(h:i<l.length):((l.take i).any fun y=>decide (l.getD i d=y))=P3 (fun k=>l.getD k d) i:=by
 have a:(l.take i).length=i:=by rw[List.length_take]; omega
 rw[<- U9 (l.take i) d (fun y=>decide (l.getD i d=y)),a];unfold P3;refine MD fun k b=>?_;have:(l.take i).getD k d=l.getD k d:=by
  rw[gq,gq,List.getElem?_take_of_lt b]
 rw[this,decide_eq_decide];exact eq_comm
theorem v0T{a b:Type}(f:a->b)(l:List a)(i:Nat)(d:a)(e:b)(h:i<l.length):(l.map f).getD i e=f (l.getD i d):=by
 rw[gq,gq,List.getElem?_map,List.getElem?_eq_getElem h]; rfl
theorem u0Y{a b:Type}(l:List a)(d:a)(f:a->b):(List.range l.length).map (fun i=>f (l.getD i d))=l.map f:=by
 apply List.ext_getElem?;intro i;rw[List.getElem?_map,List.getElem?_map];by_cases h:i<l.length
 ·rw[List.getElem?_range h,List.getElem?_eq_getElem h];show some (f (l.getD i d))=some (f l[i]);rw[gq,List.getElem?_eq_getElem h]; rfl
 ·rw[List.getElem?_eq_none (by simpa using h),List.getElem?_eq_none (by omega)]; rfl
def Bn(n:Nat)(q:O0)(i:Nat):Bool:=m0 q.2.2.1 0 500&&(if i+1=n then q.2.1==2&&q.2.2.1==0&&!q.2.2.2 else q.2.1==1)
def AG(n:Nat)(p:Nat->O0):Bool:=decide (2<=n)&&decide (n<=5)&&D1 n (fun i=>(p i).1)&&!(List.range n).any fun i=>!Bn n (p i) i
def J1(n:Nat)(p:Nat->O0):Int:=fN (fun i s=>if(p i).2.2.2=true then s+1 else s) n 0
def FA(n:Nat)(p:Nat->O0):Int:=match(List.range n).find? (fun i=>(p i).2.2.2) with | some i=>(i:Int) | none => -1
def Jb(a:Nat->F0)(i:Nat):Bool:=(List.range i).any fun k=>(a k).1==(a i).1&&(a k).2.1==(a i).2.1&&(a k).2.2.1==(a i).2.2.1
def F7(n:Nat)(p:Nat->O0)(a:F0):Bool :=
 m0 a.2.1 0 ((n:Int)-1-1)&&m0 a.2.2.1 0 ((n:Int)-1) &&
 if a.1=1 then !(p a.2.1.toNat).2.2.2&&a.2.2.1==(n:Int)-1&&m0 a.2.2.2.1 1 3&&F2 a.2.2.2.2.1 true&&F2 a.2.2.2.2.2 true
 else if a.1=2∨a.1=3 then(p a.2.1.toNat).2.2.2&&a.2.2.1==(n:Int)-1&&a.2.2.2.1==0&&F2 a.2.2.2.2.1 true&&F2 a.2.2.2.2.2 true
 else if a.1=4∨a.1=5 then(p a.2.1.toNat).2.2.2&&decide (a.2.2.1 < (n:Int)-1)&&!(p a.2.2.1.toNat).2.2.2&&a.2.2.2.1==0&&F2 a.2.2.2.2.1 false&&(a.2.2.2.2.2.length:Int)==0
 else false
def Dx(n:Nat)(p:Nat->O0)(a:F0):Bool :=
 if a.1=4∨a.1=5 then a.2.2.2.1==0&&(a.2.2.2.2.2.length:Int)==0&&F2 a.2.2.2.2.1 false&&a.2.1==FA n p&&decide (0<=a.2.1)&&m0 a.2.2.1 0 ((n:Int)-1-1)&&a.2.2.1 != a.2.1
 else F2 a.2.2.2.2.1 true&&F2 a.2.2.2.2.2 true&&a.2.2.1==(n:Int)-1&&m0 a.2.1 0 ((n:Int)-1-1) &&
  if a.1=1 then !(p a.2.1.toNat).2.2.2&&m0 a.2.2.2.1 1 3
  else if a.1=2∨a.1=3 then(p a.2.1.toNat).2.2.2&&a.2.2.2.1==0
  else false
theorem w0s(p:Nat->O0):∀n,0<=J1 n p/\J1 n p<=n
 | 0=>⟨Int.le_refl _,Int.le_refl _⟩
 | n+1=>by
   have:=w0s p n
   grind[J1,fN]
theorem r0e{p:Nat->O0}:∀{n i:Nat},i<n->(p i).2.2.2=true->1<=J1 n p
 | n+1,i,hi,h=>by
   have b:=(w0s p n).1;have c:i<n->1<=J1 n p:=fun a=>r0e a h;unfold J1 at *
   rw[fN]
   grind
theorem r0d{p:Nat->O0}:∀{n i j:Nat},i<j->j<n->(p i).2.2.2=true->(p j).2.2.2=true->2<=J1 n p
 | n+1,i,j,hij,hj,h,k=>by
   have c:j<n->2<=J1 n p:=fun a=>r0d hij a h k;have b:i<n->1<=J1 n p:=fun a=>r0e a h;unfold J1 at *
   rw[fN]
   grind
theorem E0J{p:Nat->O0}{n i:Nat}(f:J1 n p<=1)(hi:i<n):(p i).2.2.2=decide (FA n p=(i:Int)):=by
 unfold FA;cases h:(List.range n).find? (fun i=>(p i).2.2.2) with
 | none =>
   grind
 | some j =>
   have c:=List.find?_some h;have d:=List.mem_range.1 (List.mem_of_find?_eq_some h);show _=decide ((j:Int)=(i:Int));by_cases e:j=i
   ·grind
   ·rw[decide_eq_false (by omega),<- Bool.not_eq_true];intro b;rcases Nat.lt_or_gt_of_ne e with a | a
    ·have:=r0d (p:=p) a hi c b; omega
    simp_all
theorem E0I{p:Nat->O0}{n:Nat}:FA n p<n:=by
 grind[FA,List.range,List.mem_of_find?_eq_some]
theorem Jc{p:Nat->O0}{n:Nat}(h:AG n p=true):2<=n/\n<=5/\(p (n-1)).2.2.2=false:=by
 grind[AG,Bn]
theorem Vz{p:Nat->O0}{n:Nat}(h:AG n p=true)(l:J1 n p<=1)(a:F0):Dx n p a=F7 n p a:=by
 obtain⟨q,s,i⟩:=Jc h;obtain⟨b,u,o,m,de,v⟩:=a;rw[Bool.eq_iff_iff];unfold Dx F7;dsimp only;have f:∀x:Int,0<=x->x<=(n:Int)-1->(p x.toNat).2.2.2=decide (FA n p=x):=fun x r t=>by
  rw[E0J l (by omega)];rw[decide_eq_decide]; omega
 have g:FA n p≠(n:Int)-1:=fun e=>by
  have:=f ((n:Int)-1) (by omega) (by omega);have j:((n:Int)-1).toNat=n-1:=by omega
  rw[j,i,decide_eq_true e] at this;cases this
 have k:=E0I (p:=p) (n:=n);by_cases Cv:b=4∨b=5
 ·rw[if_pos Cv,if_neg (by omega),if_neg (by omega),if_pos Cv];simp only[ba,A4,dq,beq_iff_eq,bne_iff_ne,Bool.not_eq_true']
  grind
 ·rw[if_neg Cv];by_cases d:b=1
  ·rw[if_pos d,if_pos d];simp only[ba,A4,beq_iff_eq]
   grind
  ·rw[if_neg d,if_neg d];by_cases c:b=2∨b=3
   ·rw[if_pos c,if_pos c];simp only[ba,A4,beq_iff_eq]
    grind
   grind
def D2(m:Nat)(a:Nat->F0)(k:Int):Bool:=(List.range m).any fun i=>(a i).1==k
def Jd(k:Int)(n:Nat)(p:Nat->O0)(m:Nat)(a:Nat->F0)(tr:List Int):Bool :=
 if k=1 then J1 n p==0&&(tr.length:Int)==1*2 ^ (n-1)&&tr.all (m0 · 0 1)
 else if k=2 then J1 n p==1&&(tr.length:Int)==0&&!D2 m a 1&&!(D2 m a 2==D2 m a 3)
 else if k=3 then J1 n p==1&&(tr.length:Int)==0&&D2 m a 1&&D2 m a 2&&!D2 m a 3
 else false
theorem y0U{k:Int}{n:Nat}{p:Nat->O0}{m:Nat}{a:Nat->F0}{tr:List Int}(h:Jd k n p m a tr=true):J1 n p<=1:=by
 grind[Jd]
def Hc(q:F0->Bool)(m:Nat)(a:Nat->F0):Bool:=decide (m<=8)&&!(List.range m).any fun i=>!q (a i)||Jb a i
def V0(q:Nat->(Nat->O0)->F0->Bool)(nm:ByteArray)(k:Int)(n:Nat)(p:Nat->O0)(m:Nat)(a:Nat->F0)(tr:List Int)(lk en:Int):Bool :=
 J0 nm&&AG n p&&Hc (q n p) m a&&m0 lk 0 100000&&m0 en 0 100000&&Jd k n p m a tr
theorem E0L(nm:ByteArray)(k:Int)(n:Nat)(p:Nat->O0)(m:Nat)(a:Nat->F0)(tr:List Int)(lk b:Int):V0 Dx nm k n p m a tr lk b=V0 F7 nm k n p m a tr lk b:=by
 unfold V0;cases hp:AG n p with
 | false=>simp
 | true =>
   cases hk:Jd k n p m a tr with
   | false=>simp
   | true =>
     have:Dx n p=F7 n p:=funext fun x=>Vz hp (y0U hk) x;rw[this]
theorem u0r{a:Type}(l:List a)(d:a)(q:a->Bool)(i:Nat)(h:i<=l.length):(l.take i).any q=(List.range i).any fun k=>q (l.getD k d):=by
 have b:(l.take i).length=i:=by rw[List.length_take]; omega
 rw[<- U9 (l.take i) d q,b];refine MD fun k c=>?_;rw[gq,gq,List.getElem?_take_of_lt c]
theorem n0O{n:Nat}{p:Nat->O0}{a:F0}(h:F7 n p a=true):1<=a.1/\a.1<=5:=by
 grind[F7]
theorem B0J{n:Nat}(h:n<=5) : -9223372036854775808<=(1:Int)*2 ^ (n-1)/\(1:Int)*2 ^ (n-1)<=9223372036854775807:=by
 have:∀k:Fin 6,-9223372036854775808<=(1:Int)*2 ^ (k.val-1)/\(1:Int)*2 ^ (k.val-1)<=9223372036854775807:=by decide
 exact this ⟨n,by omega⟩
def Hd(a:Nat->F0)(k:Int)(m:Nat):Int:=fN (fun i s=>if(a i).1=k then s+1 else s) m 0
theorem ME(a:Nat->F0)(k:Int):∀m,0<=Hd a k m/\Hd a k m<=m
 | 0=>⟨Int.le_refl _,Int.le_refl _⟩
 | m+1=>by
   have:=ME a k m
   grind[Hd,fN]
theorem Je(a:Nat->F0)(k:Int):∀m,D2 m a k=decide (0<Hd a k m)
 | 0=>rfl
 | m+1=>by
   have c:=Je a k m;have b:=(ME a k m).1
   grind[D2,Hd,fN]
def He(a:Nat->F0)(i:Nat)(v:List Int):List Int:=v.set (a i).1.toNat (v.getD (a i).1.toNat 0+1)
theorem VA(a:Nat->F0):∀m,(∀i,i<m->1<=(a i).1/\(a i).1<=5)->(fN (He a) m (List.replicate 6 0)).length=6/\∀k:Nat,k<6->(fN (He a) m (List.replicate 6 0)).getD k 0=Hd a k m
 | 0,_=>⟨by simp[fN],fun k b=>by
   have:∀k:Fin 6,(List.replicate 6 (0:Int)).getD k.val 0=0:=by decide
   exact this ⟨k,b⟩⟩
 | m+1,h=>by
   obtain⟨c,d⟩:=VA a m (fun i hi=>h i (by omega))
   grind[fN,He,Hd]
def BR(v:List Int)(x:Int):List Int:=v.set x.toNat (v.getD x.toNat 0+1)
def Aj(v:List Int)(n b:Nat):Prop:=v.length=n/\∀k:Nat,0<=v.getD k 0/\v.getD k 0<=(b:Int)
theorem Qx(n b:Nat):Aj (List.replicate n 0) n b:=by
 refine⟨List.length_replicate,fun k=>?_⟩;rw[gq,List.getElem?_replicate];split <;> (show(0:Int)<=0/\(0:Int)<=b; omega)
theorem Jf{v:List Int}{n b:Nat}(h:Aj v n b)(x:Int):Aj (BR v x) n (b+1):=by
 refine⟨by unfold BR; rw[List.length_set]; exact h.1,fun k=>?_⟩;have a:=h.2 x.toNat;have c:=h.2 k;unfold BR;rw[gq,List.getElem?_set];by_cases e:x.toNat=k
 ·rw[if_pos e];split
  ·rw[Option.getD_some]; omega
  ·show(0:Int)<=0/\(0:Int)<=_; omega
 ·rw[if_neg e,<- gq]; omega
theorem VB{v:List Int}{n b a:Nat}(h:Aj v n b)(c:b<=a):Aj v n a:=⟨h.1,fun k=>by have:=h.2 k; omega⟩
theorem y0N{v:List Int}{n b:Nat}(h:Aj v n b){x:Int}(a:m0 x 0 ((n:Int)-1)=true):ix x v.length/\x.toNat<v.length:=by
 rw[A4] at a;rw[ix,h.1];omega
def CF(n:Nat)(ok:Nat->Bool)(nm:Nat->ByteArray):Bool:=!((List.range n).any fun i=>!ok i||P3 nm i)&&decide (n<=8)
theorem I0m{n:Nat}{ok:Nat->Bool}{nm:Nat->ByteArray}(h:∀i,i<n->ok i=true->J0 (nm i)=true):(if((List.range n).any fun i=>!ok i)=true then false else decide (n<=8)&&D1 n nm)=CF n ok nm:=by
 unfold CF D1;have e:((List.range n).any fun i=>!ok i||P3 nm i)=(((List.range n).any fun i=>!ok i)||(List.range n).any fun i=>P3 nm i):=Qy _ _;rw[e];cases ha:(List.range n).any fun i=>!ok i with
 | true=>rfl
 | false =>
   have a:=(BS (n:=n) (c:=fun i=>!ok i)).1 (by rw[ha]; rfl);have:((List.range n).any fun i=>!J0 (nm i)||P3 nm i)=(List.range n).any fun i=>P3 nm i:=MD fun i hi=>by
    have:=a i hi;rw[Bool.not_eq_false'] at this;rw[h i hi this]; rfl
   rw[this,if_neg (by simp),Bool.false_or,Bool.and_comm]
def R9(nc:Nat)(pins:Int->Nat)(nn:Nat)(x:F1):Bool:=m0 x.2.1 0 ((nc:Int)-1)&&(x.2.2.length:Int)==(pins x.2.1:Int)&&x.2.2.all fun y=>m0 y 0 ((nn:Int)-1)
def S0(nn:Nat)(x:O1):Bool:=m0 x.2.1 1 2&&m0 x.2.2 0 ((nn:Int)-1)
def V2(x:Nat->F1)(i:Nat)(v:List Int):List Int:=BR v ((x i).2.2.getD ((x i).2.2.length-1) 0)
def M9(x:Nat->O1)(i:Nat)(v:List Int):List Int:=if(x i).2.1=1 then BR v (x i).2.2 else v
def FB(ni np nn:Nat)(x:Nat->F1)(y:Nat->O1):List Int:=fN (M9 y) np (fN (V2 x) ni (List.replicate nn 0))
theorem VC(x:Nat->F1)(a:Nat):∀i,Aj (fN (V2 x) i (List.replicate a 0)) a i
 | 0=>Qx a 0
 | i+1=>Jf (VC x a i) _
def CG(lib:Bool)(nc:Nat)(pins:Int->Nat)(ni np nn:Nat)(x:Nat->F1)(y:Nat->O1)(nets:Nat->ByteArray):Bool :=
 lib&&decide (ni<=14)&&decide (nn<=30)&&decide (np<=8)&&D1 ni (fun i=>(x i).1)&&D1 nn nets&&D1 np (fun i=>(y i).1) &&
  !((List.range ni).any fun i=>!R9 nc pins nn (x i))&&!((List.range np).any fun i=>!S0 nn (y i))&&(FB ni np nn x y).all (·==1)
def Ak(w:Vy)(n:Int):Bool :=
 decide (1<=w.1.length)&&decide (w.1.length<=8)&&decide (w.2.1.length=w.1.length)&&decide (w.2.2.1.length=w.1.length)&&(w.2.2.2.length:Int)==n &&
  w.2.1.all (m0 · 0 1000)&&w.2.2.1.all (m0 · 0 500)&&w.2.2.2.all (m0 · 0 ((w.1.length:Int)-1)) &&
  !(List.range w.1.length).any fun i=>(i==0&&(w.1.getD i 0 != -1||w.2.1.getD 0 0 != 0))||(decide (0<i)&&!m0 (w.1.getD i 0) 0 ((i:Int)-1))
abbrev B5:=Int×Int×Int×Bool
def V3(x:F1)(i:Int)(k:Nat)(s:List B5):List B5:=s++[(i,(k:Int),x.2.2.getD k 0,(k:Int)==(x.2.2.length:Int)-1)]
def Q7(y:Nat->O1)(i:Nat)(s:List B5):List B5:=s++[(-1,(i:Int),(y i).2.2,(y i).2.1==1)]
def P4(x:Nat->F1)(i:Nat)(s:List B5):List B5:=fN (V3 (x i) i) (x i).2.2.length s
def M4(ni np:Nat)(x:Nat->F1)(y:Nat->O1):List B5:=fN (Q7 y) np (fN (P4 x) ni [])
theorem Hf(x:F1)(i:Int)(s:List B5):∀k,(fN (V3 x i) k s).length=s.length+k
 | 0=>rfl
 | k+1=>by
   rw[fN,V3,List.length_append,Hf x i s k]; rfl
theorem MF(y:Nat->O1)(s:List B5):∀k,(fN (Q7 y) k s).length=s.length+k
 | 0=>rfl
 | k+1=>by
   rw[fN,Q7,List.length_append,MF y s k]; rfl
def Dy(pl:Nat->B5)(i:Nat)(v:List Int):List Int:=if(pl i).2.2.2=false then BR v (pl i).2.2.1 else v
def V4(pl:Nat->B5)(t:Int)(m:Nat):Int:=fN (fun i s=>if((pl i).2.2.1==t&&!(pl i).2.2.2)=true then s+1 else s) m 0
theorem w0p(pl:Nat->B5)(t:Int):∀m,0<=V4 pl t m/\V4 pl t m<=m
 | 0=>⟨Int.le_refl _,Int.le_refl _⟩
 | m+1=>by
   have:=w0p pl t m;unfold V4 at *
   rw[fN];split <;> omega
theorem m0z(pl:Nat->B5)(n:Nat):∀m,(∀i,i<m->m0 (pl i).2.2.1 0 ((n:Int)-1)=true)->(fN (Dy pl) m (List.replicate n 0)).length=n/\∀k:Nat,k<n->(fN (Dy pl) m (List.replicate n 0)).getD k 0=V4 pl k m
 | 0,_=>⟨by simp[fN],fun k b=>by
   show(List.replicate n (0:Int)).getD k 0=0;rw[gq,List.getElem?_replicate,if_pos b]; rfl⟩
 | m+1,h=>by
   obtain⟨d,c⟩:=m0z pl n m (fun i hi=>h i (by omega));have f:=A4.1 (h m (by omega));rw[fN];generalize fN (Dy pl) m (List.replicate n 0)=v at *
   unfold Dy;have e:∀k:Nat,V4 pl k (m+1)=if((pl m).2.2.1==(k:Int)&&!(pl m).2.2.2)=true then V4 pl k m+1 else V4 pl k m:=fun k=>by unfold V4; rw[fN]
   cases hd:(pl m).2.2.2 with
   | true =>
     refine⟨by rw[if_neg (by simp)]; exact d,fun k b=>?_⟩;rw[if_neg (by simp),c k b,e,hd,if_neg (by simp)]
   | false =>
     rw[if_pos rfl];unfold BR;refine⟨by rw[List.length_set]; exact d,fun k b=>?_⟩;rw[e,hd,gq,List.getElem?_set];by_cases a:(pl m).2.2.1.toNat=k
     ·rw[if_pos a,if_pos (by rw[d]; omega),if_pos (by simp; omega),Option.getD_some,a,c k b]
     ·rw[if_neg a,if_neg (by simp; omega),<- gq,c k b]
def O2(pl:Nat->B5)(t:Int)(i:Nat)(s:List Int):List Int:=if((pl i).2.2.1==t&&!(pl i).2.2.2)=true then s++[(i:Int)] else s
theorem MG(pl:Nat->B5)(t:Int):∀m,((fN (O2 pl t) m []).length:Int)=V4 pl t m
 | 0=>rfl
 | m+1=>by
   have:=MG pl t m;rw[fN];unfold V4 at *
   rw[fN];unfold O2 at *
   split
   ·rw[List.length_append];show((_+1:Nat):Int)=_;omega
   ·exact this
def Jg(n:Nat)(s:List B5):Prop:=∀p∈s,m0 p.2.2.1 0 ((n:Int)-1)=true
theorem q0L{n:Nat}{x:F1}{i:Int}(a:∀k,k<x.2.2.length->m0 (x.2.2.getD k 0) 0 ((n:Int)-1)=true){s:List B5}(b:Jg n s):∀k,k<=x.2.2.length->Jg n (fN (V3 x i) k s)
 | 0,_=>b
 | k+1,hk=>by
   rw[fN,V3];intro p c;rcases List.mem_append.1 c with h | h
   ·exact q0L a b k (by omega) p h
   ·cases List.mem_singleton.1 h;exact a k (by omega)
theorem k0f{n:Nat}{x:Nat->F1}{ni:Nat}(a:∀i,i<ni->∀k,k < (x i).2.2.length->m0 ((x i).2.2.getD k 0) 0 ((n:Int)-1)=true):∀i,i<=ni->Jg n (fN (P4 x) i [])
 | 0,_=>fun p b=>by cases b
 | i+1,hi=>by
   rw[fN,P4];exact q0L (a i (by omega)) (k0f a i (by omega)) _ (Nat.le_refl _)
theorem q0j{n:Nat}{y:Nat->O1}{np:Nat}(a:∀i,i<np->m0 (y i).2.2 0 ((n:Int)-1)=true){s:List B5}(b:Jg n s):∀k,k<=np->Jg n (fN (Q7 y) k s)
 | 0,_=>b
 | k+1,hk=>by
   rw[fN,Q7];intro p c;rcases List.mem_append.1 c with h | h
   ·exact q0j a b k (by omega) p h
   ·cases List.mem_singleton.1 h;exact a k (by omega)
theorem Qz{x:Nat->F1}{ni:Nat}(a:∀i,i<ni->(x i).2.2.length<=5):∀i,i<=ni->(fN (P4 x) i []).length<=5*i
 | 0,_=>Nat.le_refl _
 | i+1,hi=>by
   rw[fN,P4,Hf];have:=Qz a i (by omega);have:=a i (by omega);omega
theorem H8{a:Type}{l:List a}{i:Nat}{d:a}(h:i<l.length):l.getD i d∈l:=by
 rw[gq,List.getElem?_eq_getElem h];exact List.getElem_mem h
theorem Jh{l:List Int}{p:Int->Bool}(h:l.all p=true){i:Nat}(hi:i<l.length):p (l.getD i 0)=true:=List.all_eq_true.1 h _ (H8 hi)
structure DesignFacts(nc:Nat)(pins:Int->Nat)(ni np nn:Nat)(x:Nat->F1)(y:Nat->O1):Prop where
 ni14:ni<=14
 np8:np<=8
 nn30:nn<=30
 inst:∀i,i<ni->R9 nc pins nn (x i)=true
 port:∀i,i<np->S0 nn (y i)=true
theorem n0B{a:Bool}{c:Nat}{pins:Int->Nat}{ni np d:Nat}{x:Nat->F1}{y:Nat->O1}{b:Nat->ByteArray}(h:CG a c pins ni np d x y b=true):a=true/\DesignFacts c pins ni np d x y:=by
 unfold CG at h;simp only[ba,dq] at h;obtain⟨⟨⟨⟨⟨⟨⟨⟨⟨e,k⟩,f⟩,j⟩,_⟩,_⟩,_⟩,g⟩,l⟩,_⟩:=h;refine⟨e,k,j,f,fun i hi=>?_,fun i hi=>?_⟩
 ·have:=BS.1 g i hi
  rwa [Bool.not_eq_false'] at this
 ·have:=BS.1 l i hi
  rwa [Bool.not_eq_false'] at this
theorem DesignFacts.net{b:Nat}{pins:Int->Nat}{ni np a:Nat}{x:Nat->F1}{y:Nat->O1}(h:DesignFacts b pins ni np a x y):(∀i,i<ni->∀k,k < (x i).2.2.length->m0 ((x i).2.2.getD k 0) 0 ((a:Int)-1)=true)/\∀i,i<np->m0 (y i).2.2 0 ((a:Int)-1)=true:=by
 refine⟨fun i hi k c=>?_,fun i hi=>?_⟩
 ·have:=h.inst i hi;unfold R9 at this;rw[ba] at this;exact Jh (p:=fun y=>m0 y 0 ((a:Int)-1)) this.2 c
 ·have:=h.port i hi;unfold S0 at this;rw[ba] at this;exact this.2
end Go.Proofs.Xd
end
section
namespace Go.Proofs.Xd
open Go Go.Proofs Go.Proofs.Xl
def FC(v:List Int)(i:Nat)(x:Int):List Int:=v.set i (v.getD i 0+x)
theorem n0T{v:List Int}{i:Nat}{x:Int}:(FC v i x).length=v.length:=by grind[FC]
theorem QA{v:List Int}{i j:Nat}{x:Int}(hi:i<v.length):(FC v i x).getD j 0=if j=i then v.getD i 0+x else v.getD j 0:=by
 grind[FC]
def Al(v:List Int)(k:Nat):Int:=fN (fun i s=>s+v.getD i 0) k 0
theorem Ji(v:List Int)(k:Nat):Al v (k+1)=Al v k+v.getD k 0:=rfl
theorem VD{v:List Int}{i:Nat}{x:Int}(hi:i<v.length):∀k,Al (FC v i x) k=Al v k+if i<k then x else 0
 | 0=>by simp[Al,fN]
 | k+1=>by
   rw[Ji,Ji,VD hi k,QA hi];by_cases h:k=i
   ·subst h; simp; omega
   ·rw[if_neg h];by_cases a:i<k
    ·rw[if_pos a,if_pos (by omega)]; omega
    ·rw[if_neg a,if_neg (by omega)]; omega
theorem m0r{v:List Int}(a:∀j,0<=v.getD j 0):∀k,0<=Al v k
 | 0=>by simp[Al,fN]
 | k+1=>by have:=m0r a k; grind[Ji]
theorem VE{v:List Int}(a:∀j,0<=v.getD j 0):∀{k j:Nat},j<k->v.getD j 0<=Al v k
 | k+1,j,h=>by
   rw[Ji];have b:=m0r a k;have c:=a k;by_cases e:j=k
   ·grind
   ·have:=VE a (k:=k) (j:=j) (by omega); omega
structure Low(v:List Int)(n:Nat)(S:Int):Prop where
 len:v.length=n
 pos:∀j,0<=v.getD j 0
 sum:Al v n<=S
theorem p0Q{v:List Int}{c:Int}(a:∀j,v.getD j 0<=c):∀k:Nat,Al v k<=c*(k:Int)
 | 0=>by simp[Al,fN]
 | k+1=>by
   have:=p0Q a k
   grind[Ji,Int.natCast_add,Int.mul_add]
theorem D0Y{v:List Int}{n:Nat}(b:v.length=n)(h:v.all (m0 · 0 500)=true):Low v n (500*(n:Int)):=by
 have a:∀j,0<=v.getD j 0/\v.getD j 0<=500:=fun j=>by
  grind[Nat.lt_or_ge,A4,Jh,m0,List.getElem?_eq_none]
 exact⟨b,fun j=>(a j).1,p0Q (fun j=>(a j).2) n⟩
theorem Low.bd{v:List Int}{n:Nat}{S:Int}(h:Low v n S)(b:0<=S)(j:Nat):0<=v.getD j 0/\v.getD j 0<=S:=by
 refine⟨h.pos j,?_⟩;rcases Nat.lt_or_ge j n with a | a
 ·exact Int.le_trans (VE h.pos a) h.sum
 ·rw[gq,List.getElem?_eq_none (by rw[h.len]; exact a)]; exact b
theorem Low.add{v:List Int}{n:Nat}{S:Int}(h:Low v n S){i:Nat}(hi:i<n){x:Int}(b:0<=x):Low (FC v i x) n (S+x):=by
 have a:i<v.length:=by rw[h.len]; exact hi
 refine⟨by rw[n0T]; exact h.len,fun j=>?_,?_⟩
 ·rw[QA a];have:=h.pos i;have:=h.pos j;omega
 ·rw[VD a,if_pos hi]; have:=h.sum; omega
def BT(s c:Nat->Int)(i:Nat)(v:List Int):List Int:=FC v (s i).toNat (c i)
theorem r0h{s c:Nat->Int}{v:List Int}{n:Nat}{S:Int}(h:Low v n S):∀m,(∀i,i<m->0<=s i/\(s i).toNat<n/\0<=c i/\c i<=500)->Low (fN (BT s c) m v) n (S+500*(m:Int))
 | 0,_=>⟨h.len,h.pos,by have:=h.sum; show Al v n<=_; omega⟩
 | m+1,hm=>by
   have b:=r0h h m (fun i hi=>hm i (by omega));obtain⟨f,a,d,e⟩:=hm m (by omega);have:=b.add a d;refine⟨this.len,this.pos,?_⟩;have:=this.sum;rw[Int.natCast_add,Int.mul_add];refine Int.le_trans this ?_;omega
def X1(P:Nat->Int)(n k:Nat)(v:List Int):List Int:=FC v (P (n-1-k)).toNat (v.getD (n-1-k) 0)
structure Jj(v:List Int)(n k:Nat)(S:Int):Prop where
 len:v.length=n
 pos:∀j,0<=v.getD j 0
 bd:∀j,v.getD j 0<=S
 sum:Al v (n-k)<=S
theorem VF{P:Nat->Int}{v:List Int}{n k:Nat}{S:Int}(h:Jj v n k S)(_:k<n-1)(f:0<=P (n-1-k)/\(P (n-1-k)).toNat<n-1-k):Jj (X1 P n k v) n (k+1) S:=by
 have b:(P (n-1-k)).toNat<v.length:=by rw[h.len]; omega
 have a:∀j,0<=(X1 P n k v).getD j 0:=fun j=>by
  unfold X1;rw[QA b];have:=h.pos (P (n-1-k)).toNat;have:=h.pos (n-1-k);have:=h.pos j;omega
 have d:Al (X1 P n k v) (n-(k+1))<=S:=by
  unfold X1;have e:n-(k+1)=n-1-k:=by omega
  rw[VD b,e,if_pos f.2];have:=h.sum;rw[show n-k=(n-1-k)+1 by omega,Ji] at this;exact this
 refine⟨by unfold X1; rw[n0T]; exact h.len,a,fun j=>?_,d⟩;by_cases e:j=(P (n-1-k)).toNat
 ·have c:j<n-(k+1):=by omega
  exact Int.le_trans (VE a c) d
 ·unfold X1;rw[QA b,if_neg e];exact h.bd j
theorem m0I{P:Nat->Int}{v:List Int}{n:Nat}{S:Int}(h:Low v n S)(a:0<=S)(b:∀i,0<i->i<n->0<=P i/\(P i).toNat<i):∀k,k<=n-1->Jj (fN (X1 P n) k v) n k S
 | 0,_=>⟨h.len,h.pos,fun j=>(h.bd a j).2,h.sum⟩
 | k+1,hk=>VF (m0I h a b k (by omega)) (by omega) (b _ (by omega) (by omega))
def I0k(cap:List Int)(n m:Nat)(s c P:Nat->Int):List Int:=fN (X1 P n) (n-1) (fN (BT s c) m cap)
theorem Jk{a:Type}{l r:List a}{d:a}{i:Nat}(h:i<l.length):(l++r).getD i d=l.getD i d:=by
 grind
theorem VG{a:Type}{l r:List a}{d:a}{i:Nat}(h:l.length<=i):(l++r).getD i d=r.getD (i-l.length) d:=by
 grind
def S6(P R L:Nat->Int)(k:Nat)(s:List Int):List Int:=s++[s.getD (P (k+1)).toNat 0+R (k+1)*L (k+1)]
def E0B(n:Nat)(P R L:Nat->Int):List Int:=fN (S6 P R L) (n-1) [0]
theorem MH{a b A B:Int}(e:0<=a)(c:a<=A)(d:0<=b)(f:b<=B):0<=a*b/\a*b<=A*B :=
 ⟨Int.mul_nonneg e d,Int.mul_le_mul c f d (Int.le_trans e c)⟩
theorem w0j{P R L:Nat->Int}{n:Nat}{S:Int}(a:∀i,i<n->0<=R i/\R i<=1000)(b:∀i,i<n->0<=L i/\L i<=S)(c:0<=S):∀k,k<=n-1->(fN (S6 P R L) k [0]).length=k+1/\∀j,0<=(fN (S6 P R L) k [0]).getD j 0/\(fN (S6 P R L) k [0]).getD j 0<=1000*S*(k:Int)
 | 0,_=>⟨rfl,fun j=>by
   grind[fN]⟩
 | k+1,hk=>by
   obtain⟨g,f⟩:=w0j a b c k (by omega);have l:=MH (a (k+1) (by omega)).1 (a (k+1) (by omega)).2 (b (k+1) (by omega)).1 (b (k+1) (by omega)).2;have h:0<=1000*S*(k:Int):=Int.mul_nonneg (by omega) (by omega);have e:1000*S*((k+1:Nat):Int)=1000*S*(k:Int)+1000*S:=by rw[Int.natCast_add,Int.mul_add]; simp
   have d:fN (S6 P R L) (k+1) [0]=S6 P R L k (fN (S6 P R L) k [0]):=rfl;rw[d];generalize fN (S6 P R L) k [0]=s at g f
   grind[S6,List.length_append,Nat.lt_or_ge,Jk,VG,List.getD_cons_zero,List.getD_cons_succ,List.getD_nil]
theorem z0z{s:List Int}{k n:Nat}{x:Int}(a:s.length=k+1)(b:k+1<n):(s++List.replicate (n-1-k) 0).set (k+1) x=(s++[x])++List.replicate (n-1-(k+1)) 0:=by
 have e:n-1-k=(n-1-(k+1))+1:=by omega
 rw[e,List.replicate_succ,List.set_append_right _ _ (by omega),a,Nat.sub_self,List.set_cons_zero,List.append_assoc];rfl
theorem z0A{s:List Int}{k n p:Nat}(b:s.length=k+1)(a:p<k+1):(s++List.replicate (n-1-k) 0).getD p 0=s.getD p 0:=Jk (by omega)
def Hg(D:List Int)(S:Nat->Int)(i:Nat)(s:List Int):List Int:=s++[D.getD (S i).toNat 0]
theorem VH(D:List Int)(S:Nat->Int):∀i,(fN (Hg D S) i []).length=i
 | 0=>rfl
 | i+1=>by
   have:=VH D S i
   grind[Hg,fN,List.length_append]
theorem w0b(D:List Int)(S:Nat->Int):∀n i,i<n->(fN (Hg D S) n []).getD i 0=D.getD (S i).toNat 0
 | n+1,i,h=>by
   have a:=VH D S n;have b:=w0b D S n i
   grind[Hg,fN]
def Jl(ni np:Nat)(x:Nat->F1)(p:B5):Prop:=(p.1 = -1/\0<=p.2.1/\p.2.1.toNat<np)∨(0<=p.1/\p.1.toNat<ni/\0<=p.2.1/\p.2.1.toNat < (x p.1.toNat).2.2.length)
theorem k0p{ni np:Nat}{x:Nat->F1}{i:Nat}(hi:i<ni){s:List B5}(b:∀p∈s,Jl ni np x p):∀k,k<=(x i).2.2.length->∀p∈fN (V3 (x i) i) k s,Jl ni np x p
 | 0,_=>b
 | k+1,hk=>fun p a=>by
   have a:p∈V3 (x i) i k (fN (V3 (x i) i) k s):=a;unfold V3 at a;rcases List.mem_append.1 a with a | a
   ·exact k0p hi b k (by omega) p a
   ·cases List.mem_singleton.1 a;exact .inr ⟨Int.natCast_nonneg _,by omega,Int.natCast_nonneg _,by grind⟩
theorem g0S{ni np:Nat}{x:Nat->F1}:∀i,i<=ni->∀p∈fN (P4 x) i [],Jl ni np x p
 | 0,_=>fun p a=>by cases a
 | i+1,hi=>k0p (by omega) (g0S i (by omega)) _ (Nat.le_refl _)
theorem k0e{ni np:Nat}{x:Nat->F1}{y:Nat->O1}{s:List B5}(b:∀p∈s,Jl ni np x p):∀k,k<=np->∀p∈fN (Q7 y) k s,Jl ni np x p
 | 0,_=>b
 | k+1,hk=>fun p a=>by
   have a:p∈Q7 y k (fN (Q7 y) k s):=a;unfold Q7 at a;rcases List.mem_append.1 a with a | a
   ·exact k0e b k (by omega) p a
   ·cases List.mem_singleton.1 a;exact .inl ⟨rfl,Int.natCast_nonneg _,by grind⟩
theorem o0B(ni np:Nat)(x:Nat->F1)(y:Nat->O1):∀p∈M4 ni np x y,Jl ni np x p:=k0e (g0S ni (Nat.le_refl _)) np (Nat.le_refl _)
theorem MI(pl:Nat->B5)(t:Int):∀m,∀x∈fN (O2 pl t) m [],∃j:Nat,x=(j:Int)/\j<m/\(pl j).2.2.1=t/\(pl j).2.2.2=false
 | 0,x,h=>by cases h
 | m+1,x,h=>by
   have a:=MI pl t m x;have h:x∈O2 pl t m (fN (O2 pl t) m []):=h;generalize fN (O2 pl t) m []=s at a h;unfold O2 at h;split at h
   ·rename_i d;rw[ba,beq_iff_eq,Bool.not_eq_true'] at d;rcases List.mem_append.1 h with h | h
    ·obtain⟨j,b,e,c⟩:=a h;exact⟨j,b,by omega,c⟩
    ·cases List.mem_singleton.1 h;exact⟨m,rfl,by omega,d⟩
   ·obtain⟨j,b,e,c⟩:=a h;exact⟨j,b,by omega,c⟩
structure n0V(w:Vy)(n:Int):Prop where
 n1:1<=w.1.length
 n8:w.1.length<=8
 res:w.2.1.length=w.1.length
 cap:w.2.2.1.length=w.1.length
 snk:(w.2.2.2.length:Int)=n
 resIn:∀i,i<w.1.length->0<=w.2.1.getD i 0/\w.2.1.getD i 0<=1000
 capOk:w.2.2.1.all (m0 · 0 500)=true
 snkIn:∀i,i<w.2.2.2.length->0<=w.2.2.2.getD i 0/\(w.2.2.2.getD i 0).toNat<w.1.length
 par:∀i,0<i->i<w.1.length->0<=w.1.getD i 0/\(w.1.getD i 0).toNat<i
theorem r0y{w:Vy}{n:Int}(h:Ak w n=true):n0V w n:=by
 unfold Ak at h;simp only[ba,dq,beq_iff_eq] at h;obtain⟨⟨⟨⟨⟨⟨⟨⟨b,j⟩,d⟩,g⟩,e⟩,k⟩,c⟩,f⟩,l⟩:=h;refine⟨b,j,d,g,e,fun i hi=>?_,c,fun i hi=>?_,fun i m hi=>?_⟩
 ·exact A4.1 (Jh (p:=fun x=>m0 x 0 1000) k (by omega))
 ·have:=A4.1 (Jh (p:=fun x=>m0 x 0 ((w.1.length:Int)-1)) f hi);omega
 ·have:=BS.1 l i hi;rw[Bool.or_eq_false_iff] at this;have a:=this.2;rw[Bool.and_eq_false_iff,decide_eq_false_iff_not,Bool.not_eq_false',A4] at a;rcases a with h | h
  ·omega
  ·omega
abbrev x6:=Int×Int×Int×Int
def J4(k s:Int):List (Int×Int):=if(k==2)=true then [(0,0),(0,1)] else if(k==3)=true then [(1,0),(1,1)] else if(k != 1)=true then [] else if(s==1)=true then [(0,0),(1,1)] else if(s==2)=true then [(0,1),(1,0)] else [(0,0),(0,1),(1,0),(1,1)]
theorem QB(k s:Int):(J4 k s).length<=4/\∀t∈J4 k s,0<=t.1/\t.1<=1/\0<=t.2/\t.2<=1:=by
 unfold J4;split
 ·grind
 split
 ·grind
 split
 ·grind
 grind
def Am(f a b x:Int)(tr:List (Int×Int))(k:Nat)(s:List x6):List x6:=s++[(2*(f+a)+(tr.getD k (0,0)).1,2*(f+b)+(tr.getD k (0,0)).2,1,x)]
theorem k0C(f a b x:Int)(tr:List (Int×Int))(s:List x6):∀k,(fN (Am f a b x tr) k s).length=s.length+k
 | 0=>rfl
 | k+1=>by
   have:=k0C f a b x tr s k
   grind[Am,fN,List.length_append]
def S7(f:Int)(arcs:Nat->F0)(j:Nat)(s:List x6):List x6:=fN (Am f (arcs j).2.1 (arcs j).2.2.1 (j:Int) (J4 (arcs j).1 (arcs j).2.2.2.1)) (J4 (arcs j).1 (arcs j).2.2.2.1).length s
theorem VI(f:Int)(a:Nat->F0)(j:Nat)(s:List x6):(S7 f a j s).length<=s.length+4:=by
 grind[S7,k0C,QB]
def AH(f:Int)(arcs:Nat->F0)(m:Nat):List x6:=fN (S7 f arcs) m []
theorem MJ(f:Int)(a:Nat->F0):∀m,(AH f a m).length<=4*m
 | 0=>Nat.le_refl _
 | m+1=>by
   have b:=MJ f a m;have c:=VI f a m (AH f a m);show(S7 f a m (AH f a m)).length<=_;omega
def X2(nets:Nat->Nat)(arcs:Nat->Nat->F0)(ms:Nat->Nat)(i:Nat)(s:Int×List x6):Int×List x6:=(s.1+(nets i:Int),s.2++AH s.1 (arcs i) (ms i))
theorem n0k{a:Nat->Nat}{b:Nat->Nat->F0}{c:Nat->Nat}{n:Nat}(h:∀i,i<n->a i<=5/\c i<=8):∀m,m<=n->0<=(fN (X2 a b c) m (0,[])).1/\(fN (X2 a b c) m (0,[])).1<=5*(m:Int)/\(fN (X2 a b c) m (0,[])).2.length<=32*m
 | 0,_=>⟨Int.le_refl _,Int.le_refl _,Nat.le_refl _⟩
 | m+1,hm=>by
   obtain⟨e,d,f⟩:=n0k h m (by omega);obtain⟨g,j⟩:=h m (by omega);show 0<=(X2 a b c m (fN (X2 a b c) m (0,[]))).1/\(X2 a b c m (fN (X2 a b c) m (0,[]))).1<=_/\(X2 a b c m (fN (X2 a b c) m (0,[]))).2.length<=_;generalize fN (X2 a b c) m (0,[])=z at e d f
   grind[X2,MJ,AH,List.length_append]
def Z1(pl:Nat->B5)(i:Nat)(s:List (List Int)×List Int):List (List Int)×List Int:=if(pl i).2.2.2=true then(s.1,s.2.set (pl i).2.2.1.toNat (i:Int)) else(s.1.set (pl i).2.2.1.toNat (s.1.getD (pl i).2.2.1.toNat []++[(i:Int)]),s.2)
def V5(pl:Nat->B5)(t:Int)(m:Nat):Int:=fN (fun i s=>if((pl i).2.2.1==t&&(pl i).2.2.2)=true then(i:Int) else s) m 0
theorem VJ(pl:Nat->B5)(t:Int):∀m,0<=V5 pl t m/\V5 pl t m<=m
 | 0=>⟨Int.le_refl _,Int.le_refl _⟩
 | m+1=>by
   have:=VJ pl t m;have e:V5 pl t (m+1)=if((pl m).2.2.1==t&&(pl m).2.2.2)=true then(m:Int) else V5 pl t m:=rfl
   omega
theorem k0b(pl:Nat->B5)(t:Int)(m:Nat):fN (O2 pl t) (m+1) []=if((pl m).2.2.1==t&&!(pl m).2.2.2)=true then fN (O2 pl t) m []++[(m:Int)] else fN (O2 pl t) m []:=rfl
theorem VK{a:Type}{l:List a}{i j:Nat}{x d:a}(hi:i<l.length):(l.set i x).getD j d=if j=i then x else l.getD j d:=by
 grind
theorem n0n(pl:Nat->B5)(n:Nat):∀m,(∀i,i<m->m0 (pl i).2.2.1 0 ((n:Int)-1)=true)->(fN (Z1 pl) m (List.replicate n [],List.replicate n 0)).1.length=n/\(fN (Z1 pl) m (List.replicate n [],List.replicate n 0)).2.length=n /\
  ∀k:Nat,k<n->(fN (Z1 pl) m (List.replicate n [],List.replicate n 0)).1.getD k []=fN (O2 pl k) m []/\(fN (Z1 pl) m (List.replicate n [],List.replicate n 0)).2.getD k 0=V5 pl k m
 | 0,_=>⟨List.length_replicate,List.length_replicate,fun k c=>by
   constructor
   ·show(List.replicate n ([]:List Int)).getD k []=[]
    grind
   ·show(List.replicate n (0:Int)).getD k 0=0
    grind⟩
 | m+1,h=>by
   obtain⟨d,b,j⟩:=n0n pl n m (fun i hi=>h i (by omega));have l:=A4.1 (h m (by omega));have e:fN (Z1 pl) (m+1) (List.replicate n [],List.replicate n 0)=Z1 pl m (fN (Z1 pl) m (List.replicate n [],List.replicate n 0)):=rfl;rw[e];generalize fN (Z1 pl) m (List.replicate n [],List.replicate n 0)=z at d b j;have g:(pl m).2.2.1.toNat<n:=by omega
   have a:∀k:Nat,V5 pl k (m+1)=if((pl m).2.2.1==(k:Int)&&(pl m).2.2.2)=true then(m:Int) else V5 pl k m:=fun _=>rfl
   have f:∀k:Nat,((pl m).2.2.1==(k:Int))=decide (k=(pl m).2.2.1.toNat):=fun k=>by
    grind
   unfold Z1;cases hd:(pl m).2.2.2 with
   | true =>
     rw[if_pos rfl];refine⟨d,by grind,fun k c=>?_⟩;rw[k0b,a k,f,hd]
     grind
   | false =>
     rw[if_neg (by simp)];refine⟨by grind,b,fun k c=>?_⟩;rw[k0b,a k,f,hd]
     grind
def VM(d s x:Int)(t:Nat)(z:List x6):List x6:=z++[(2*d+(t:Int),2*s+(t:Int),2,x)]
def BU(d:Int)(sn:List Int)(k:Nat)(z:List x6):List x6:=fN (VM d (sn.getD k 0) (k:Int)) 2 z
theorem VN(d:Int)(a:List Int)(k:Nat)(z:List x6):(BU d a k z).length=z.length+2:=by
 show((z++_)++_).length=_
 grind
def Bo(d:Nat->Int)(sn:Nat->List Int)(i:Nat)(z:List x6):List x6:=fN (BU (d i) (sn i)) (sn i).length z
theorem QC(d:Int)(a:List Int)(z:List x6):∀k,(fN (BU d a) k z).length=z.length+2*k
 | 0=>rfl
 | k+1=>by
   have:=QC d a z k
   grind[BU,fN,VN]
theorem q0B(d:Nat->Int)(a:Nat->List Int)(z:List x6){n c:Nat}(h:∀i,i<n->(a i).length<=c):∀m,m<=n->(fN (Bo d a) m z).length<=z.length+2*(c*m)
 | 0,_=>by simp[fN]
 | m+1,hm=>by
   have b:=q0B d a z h m (by omega)
   grind[fN,BU,Bo,QC,Nat.mul_add]
def AI{α:Type}(f:Nat->α)(i:Nat)(s:List α):List α:=s++[f i]
theorem FD{a:Type}(f:Nat->a):∀n,(fN (AI f) n []).length=n
 | 0=>rfl
 | n+1=>by
   have:=FD f n
   grind[AI,fN,List.length_append]
theorem MK{a:Type}(f:Nat->a)(d:a):∀n i,i<n->(fN (AI f) n []).getD i d=f i
 | n+1,i,h=>by
   have b:=FD f n;have c:=MK f d n i
   grind[AI,fN]
end Go.Proofs.Xd
end
section
namespace Go.Proofs.YtdjgagoledoaaaaGreatDoor
open Go Go.Proofs Go.Proofs.Xv Go.Proofs.Xl Go.Proofs.Xd
theorem Z2(a b c:Int):B4 a b c=some (m0 a b c):=rfl
theorem S8(a b c:Int):w7 a b c=some (m0 a b c):=rfl
theorem N0Q(a b c:Int):Lo a b c=some (!m0 a b c):=by
 unfold Lo;rw[Z2,gP ⟨rfl,trivial⟩,vS]
theorem y0u(xs:List Int)(b c:Int)(h:xs.length<=9223372036854775807):Pl xs (b,c)=some (xs.any fun x=>!m0 x b c):=by
 have a:Pk xs (b,c)=_:=CH h (fun i=>!m0 (xs.getD i 0) b c) (fun g i hi=>Hh hi h (N0Q _ _ _)) (fun g=>aE);have:=Hi a;rw[U9 xs 0 (fun x=>!m0 x b c)] at this;exact this
theorem Hj(xs:List Int)(b c:Int)(h:xs.length<=9223372036854775807):I9 xs b c=some (xs.all (m0 · b c)):=by
 unfold I9;rw[y0u _ _ _ h,gP ⟨rfl,trivial⟩,vS,Bm]
theorem VP(xs:List Int)(h:xs.length<=9223372036854775807)(b:1<=xs.length):Cz xs=some (Dw xs):=by
 have a:=D0X h (fun i=>decide (xs.getD i 0<=xs.getD (i-1) 0)) (some false) (e:=some true) (F:=B0r xs) 1 b (fun g i c hi=>by
  have e:((i:Int)-1).toNat=i-1:=by omega
  refine(BV hi h ⟨oo,oo,oo,trivial⟩).trans ?_;rw[e]; rfl) (fun g=>aE)
 refine a.trans ?_;unfold Dw;have:((List.range xs.length).any fun i=>decide (1<=i)&&decide (xs.getD i 0<=xs.getD (i-1) 0))=(List.range xs.length).any fun i=>decide (0<i)&&decide (xs.getD i 0<=xs.getD (i-1) 0):=rfl;rw[this];cases(List.range xs.length).any fun i=>decide (0<i)&&decide (xs.getD i 0<=xs.getD (i-1) 0) <;> rfl
theorem L0Z(xs:List Int)(h:xs.length<=9223372036854775807):Bi xs=some (G6 xs):=by
 unfold Bi;have e:D8 xs=some (xs.length:Int):=rfl;have d:∀a:Bool,(a=true->1<=xs.length)->(a=true/\True->(Cz xs).isSome=true):=fun a i b=>by rw[VP xs h (i b.1)]; rfl
 rw[e,vS,Z2,vS,Hj xs 0 100000 h,vS,gP ⟨rfl,rfl,fun _=>rfl,d _ (fun b=>by
  simp only[m0,ba,dq] at b; omega),trivial⟩]
 congr 1;unfold G6;by_cases c:1<=xs.length
 ·rw[VP xs h c,vS];congr 2;rw[Bool.eq_iff_iff];simp only[m0,ba,dq];omega
 ·have f:decide (1<=xs.length)=false:=by simpa using c
  have g:m0 (xs.length:Int) 1 4=false:=by
   rw[<- Bool.not_eq_true,A4]; omega
  rw[f,g]; rfl
theorem M0k(xs:List Int)(h:xs.length<=9223372036854775807):Dm xs=some (G6 xs):=by
 have c:=H9 (n:=xs.length) h (fun i=>!m0 (xs.getD i 0) 0 100000||decide (0<i)&&decide (xs.getD i 0<=xs.getD (i-1) 0)) (some false) (e:=OV xs ()) (F:=B0A xs) (fun g i hi=>by
  have e:((i:Int)-1).toNat=i-1:=by omega
  have j:decide ((0:Int) < (i:Int))=decide (0<i):=by rw[decide_eq_decide]; omega
  refine(BV hi h ⟨oo,rfl,fun d=>oo,fun d=>⟨by have:=d.1; simp at this; omega,by omega⟩,fun d=>oo,trivial⟩).trans ?_;rw[e,S8,vS,j]; rfl) (fun g=>aE)
 refine c.trans ?_;unfold G6 OV;have k:((List.range xs.length).any fun i=>!m0 (xs.getD i 0) 0 100000||decide (0<i)&&decide (xs.getD i 0<=xs.getD (i-1) 0))=!(xs.all (m0 · 0 100000)&&Dw xs):=by
  rw[<- Bm,<- U9 xs 0 (fun x=>!m0 x 0 100000),Dw,<- Bool.not_or,Bool.not_not];rw[Bool.eq_iff_iff,Bool.or_eq_true,List.any_eq_true,List.any_eq_true,List.any_eq_true];constructor
  ·rintro⟨i,a,b⟩;rcases Bool.or_eq_true _ _ ▸ b with f | f
   ·exact .inl ⟨i,a,f⟩
   ·exact .inr ⟨i,a,f⟩
  ·rintro(⟨i,a,b⟩ | ⟨i,a,b⟩)
   ·exact⟨i,a,by rw[b]; rfl⟩
   ·exact⟨i,a,by rw[b,Bool.or_true]⟩
 rw[k];cases hA:(xs.all (m0 · 0 100000)&&Dw xs) with
 | false=>rw[if_pos (by rfl),Bool.and_assoc,hA,Bool.and_false]
 | true =>
   rw[if_neg (by simp),Bool.and_assoc,hA,Bool.and_true];refine congrArg some ?_;rw[Bool.eq_iff_iff];simp only[ba,dq];omega
theorem N0w(t:w8)(g:wf y70 t):ID t=some (C8 t):=by
 obtain⟨⟨f,_⟩,⟨c,_⟩,i,_⟩:=g;unfold ID;have b:(G6 t.1&&G6 t.2.1)=true/\True->j0 ((t.1.length:Int)*(t.2.1.length:Int)):=fun a=>by
  have a:=a.1;rw[ba] at a;obtain⟨k,j⟩:=CE a.1;obtain⟨m,d⟩:=CE a.2;have l:t.1.length*t.2.1.length<=4*4:=Nat.mul_le_mul j d;have e:(t.1.length:Int)*(t.2.1.length:Int)=((t.1.length*t.2.1.length:Nat):Int):=by simp
  rw[e];exact oo
 rw[L0Z _ f,L0Z _ c,Hj _ _ _ i,vS,vS,vS,gP ⟨rfl,fun _=>rfl,b,fun _=>rfl,trivial⟩];congr 1;unfold C8;congr 2;rw[Bool.eq_iff_iff];simp only[beq_iff_eq,dq];constructor
 ·intro h; exact_mod_cast h
 ·intro h; exact_mod_cast h
theorem r45(t:w8)(m:wf y70 t):KK t=some (C8 t):=by
 obtain⟨⟨l,_⟩,⟨f,_⟩,c,_⟩:=m;unfold KK;have d:(!G6 t.1||!G6 t.2.1)=false/\True->j0 ((t.1.length:Int)*(t.2.1.length:Int)):=fun a=>by
  have a:=a.1;simp only[Bool.or_eq_false_iff,Bool.not_eq_false'] at a;obtain⟨q,o⟩:=CE a.1;obtain⟨s,j⟩:=CE a.2;have r:t.1.length*t.2.1.length<=4*4:=Nat.mul_le_mul o j;have e:(t.1.length:Int)*(t.2.1.length:Int)=((t.1.length*t.2.1.length:Nat):Int):=by simp
  rw[e];exact oo
 rw[M0k _ l,M0k _ f,vS,vS,gP ⟨rfl,fun _=>rfl,d,trivial⟩];have b:=H9 (n:=t.2.2.length) c (fun i=>!m0 (t.2.2.getD i 0) (-1000000) 1000000) (some false) (e:=some true) (F:=G0x t) (fun g i hi=>BV hi c ⟨oo,rfl,trivial⟩) (fun g=>aE);rw[b,U9 t.2.2 0 (fun x=>!m0 x (-1000000) 1000000)];have e:((t.2.2.length:Int) != (t.1.length:Int)*(t.2.1.length:Int))=!decide (t.2.2.length=t.1.length*t.2.1.length):=by
  rw[Bool.eq_iff_iff];simp only[bne_iff_ne,Bool.not_eq_true',decide_eq_false_iff_not,ne_eq];constructor
  ·intro h k; exact h (by exact_mod_cast k)
  ·intro h k; exact h (by exact_mod_cast k)
 rw[e];unfold C8;rw[<- Bm];cases G6 t.1 <;> cases G6 t.2.1 <;> cases decide (t.2.2.length=t.1.length*t.2.1.length) <;> cases(t.2.2.any fun x=>!m0 x (-1000000) 1000000) <;> rfl
end Go.Proofs.YtdjgagoledoaaaaGreatDoor
end
section
namespace Go.Proofs.YtdjgagoledoaaaaGreatDoor
open Go Go.Proofs Go.Proofs.Sv Go.Proofs.Xv Go.Proofs.Xl Go.Proofs.Xd
theorem QD(s:ByteArray)(h:s.size<=9223372036854775807):Ah s=some (J0 s):=by
 have a:=H9 (n:=s.size) h (fun i=>!Fy (F5 s i) i) (some false) (e:=OR s ()) (F:=ZT s) (fun g i hi=>by
  refine(E0T hi h ⟨oo,fun _=>oo,trivial⟩ ⟨oo,fun _=>oo,trivial⟩).trans ?_;have b:decide ((0:Int) < (i:Int))=decide (0<i):=by rw[decide_eq_decide]; omega
  have c:((i:Int)).toNat=i:=rfl;rw[b,c];unfold Fy Bk Ja;rw[Bool.not_or]) (fun g=>aE)
 refine a.trans ?_;unfold J0 OR;rw[q0z];cases(List.range s.size).any fun i=>!Fy (F5 s i) i
 ·rfl
 ·rfl
theorem VQ(s:ByteArray)(h:s.size<=9223372036854775807):R7 s=some (J0 s):=by
 unfold R7;have g:Fp s ⟨#[97,98,99,100,101,102,103,104,105,106,107,108,109,110,111,112,113,114,115,116,117,118,119,120,121,122,48,49,50,51,52,53,54,55,56,57]⟩=some ⟨(Lib.trimS s.data.toList low36).toArray⟩:=if_pos ⟨by decide,by decide⟩;have f:∀c,Pq ⟨#[97,98,99,100,101,102,103,104,105,106,107,108,109,110,111,112,113,114,115,116,117,118,119,120,121,122]⟩ c=some (Lib.indexByte low26 c.toNat.toUInt8):=fun _=>rfl;rw[g,f,Z2,vS,vS,vS,gP ⟨rfl,fun _=>rfl,fun d=>⟨by decide,by
  have:=d.1;rw[ba,A4] at this;omega⟩,fun _=>rfl,trivial⟩,lE]
 refine congrArg some ?_;show(m0 (s.size:Int) 1 8&&decide ((⟨(Lib.trimS s.data.toList low36).toArray⟩:ByteArray)=⟨#[]⟩)&&decide (0<=Lib.indexByte low26 (F5 s (Int.toNat 0)).toNat.toUInt8))=J0 s;by_cases e:1<=s.size/\s.size<=8
 ·rw[y0J s e.1 e.2];have b:m0 (s.size:Int) 1 8=true:=by rw[A4]; omega
  have a:decide ((⟨(Lib.trimS s.data.toList low36).toArray⟩:ByteArray)=⟨#[]⟩)=(Lib.trimS s.data.toList low36==[]):=by
   rw[Bool.eq_iff_iff,dq,beq_iff_eq];constructor
   ·intro h;injection h with h;have:=congrArg Array.toList h;simpa using this
   ·intro h; rw[h]
  rw[b,a,Bool.true_and];rfl
 ·have b:m0 (s.size:Int) 1 8=false:=by rw[<- Bool.not_eq_true,A4]; omega
  have a:J0 s=false:=by
   rw[<- Bool.not_eq_true];intro d;simp only[J0,ba,dq] at d;omega
  rw[b,a]; rfl
theorem N0H(xs:List ByteArray)(x:ByteArray)(h:xs.length<=9223372036854775807):Pp xs x=some (xs.any fun y=>decide (x=y)):=by
 have a:Po xs x=_:=CH h (fun i=>decide (x=xs.getD i (a6 .str))) (fun g i hi=>by
  refine(if_pos (by simpa using hi)).trans ?_;rw[gP ⟨oo,trivial⟩,gP ⟨oo,trivial⟩];rfl) (fun g=>aE)
 have:=Hi a;rw[U9 xs (a6 .str) (fun y=>decide (x=y))] at this;exact this
theorem ML(xs:List ByteArray)(c:wf (.sl .str) xs):Y9 xs=some (D1 xs.length fun i=>xs.getD i (a6 .str)):=by
 have h:=c.1;have a:=H9 (n:=xs.length) h (fun i=>!J0 (xs.getD i (a6 .str))||P3 (fun i=>xs.getD i (a6 .str)) i) (some false) (e:=some true) (F:=A0H xs) (fun g i hi=>by
  have j:=Z3 (d:=a6 .str) hi c;have f:(xs.take i).length<=9223372036854775807:=by rw[List.length_take]; omega
  have l:=VQ _ j;have b:=N0H (xs.take i) (xs.getD i (a6 .str)) f;rw[x0M xs (a6 .str) i hi] at b;have k:((i:Int)).toNat=i:=rfl;refine(if_pos (by simpa using hi)).trans ?_;rw[k,l,b,vS,vS,gP ⟨oo,trivial⟩,gP ⟨rfl,fun _=>⟨by omega,by omega,by omega⟩,fun _=>rfl,trivial⟩,gP ⟨oo,trivial⟩]) (fun g=>aE)
 refine a.trans ?_;unfold D1;cases(List.range xs.length).any fun i=>!J0 (xs.getD i (a6 .str))||P3 (fun i=>xs.getD i (a6 .str)) i <;> rfl
theorem VR(xs:List ByteArray)(c:wf (.sl .str) xs):BJ xs=some (D1 xs.length fun i=>xs.getD i (a6 .str)):=by
 have h:=c.1;have b:=H9 (n:=xs.length) h (fun i=>!J0 (xs.getD i (a6 .str))||P3 (fun i=>xs.getD i (a6 .str)) i) (some false) (e:=some true) (F:=ZW xs) (fun g i hi=>by
  have f:=Z3 (d:=a6 .str) hi c;have l:=QD _ f;have j:((i:Int)).toNat=i:=rfl;have a:=H9 (n:=i) (by omega) (fun k=>decide (xs.getD k (a6 .str)=xs.getD i (a6 .str))) (some false) (e:=g ((i:Int)+1)) (F:=ZV xs (i:Int) g) (fun o k m=>by
   refine(BV m (by omega) ⟨oo,oo,trivial⟩).trans ?_;rfl) (fun o=>by
   refine aE.trans ?_;unfold TB;exact gP ⟨oo,trivial⟩)
  refine(if_pos (by simpa using hi)).trans ?_;rw[j,l,vS,gP ⟨oo,rfl,trivial⟩,a];unfold P3;cases J0 (xs.getD i (a6 .str)) <;> cases(List.range i).any fun k=>decide (xs.getD k (a6 .str)=xs.getD i (a6 .str)) <;> rfl) (fun g=>aE)
 refine b.trans ?_;unfold D1;cases(List.range xs.length).any fun i=>!J0 (xs.getD i (a6 .str))||P3 (fun i=>xs.getD i (a6 .str)) i <;> rfl
theorem M0a(xs:List Int)(h:xs.length<=9223372036854775807)(b:1<=xs.length):IC xs=some (AF xs):=by
 unfold IC;rw[if_neg (by simp; omega)];unfold Uh;rw[gP ⟨oo,trivial⟩];have a:=lF (n:=xs.length-1) (by omega) (fun i (m:Int)=>(m,((i+1:Nat):Int))) (fun i m=>min m (xs.getD (i+1) 0)) (fun _ _=>True) (J:=fun m=>some m) (F:=Ug xs) (fun g i s hi _=>by
  refine(if_pos (by simp; omega)).trans ?_;rw[gP ⟨oo,trivial⟩,gP ⟨oo,trivial⟩];rfl) (fun _ _ _ _=>trivial) (fun g s _=>by
  have e:xs.length-1+1=xs.length:=by omega
  show Ug xs g (s,((xs.length-1+1:Nat):Int))=some s;rw[e];exact aE) (xs.getD 0 0) trivial
 exact a
theorem N0x(t:w8)(p:Bool)(a:wf y70 t):Lw t p=some (!C8 t||p&&decide (AF t.2.2<0)):=by
 unfold Lw;have b:p=true/\(!C8 t)=false/\True->(IC t.2.2).isSome=true:=fun d=>by
  have c:C8 t=true:=by simpa using d.2.1
  rw[M0a _ a.2.2.1 (Fz c).2.2.2.2.2.1]; rfl
 rw[N0w t a,vS,gP ⟨rfl,b,trivial⟩,lE];refine congrArg some ?_;cases hT:C8 t with
 | false=>rfl
 | true=>rw[M0a _ a.2.2.1 (Fz hT).2.2.2.2.2.1,vS]
theorem VT(l:List w8)(p:Bool)(b:wf (.sl y70) l):W9 l p=some (F2 l p):=by
 have h:=b.1;have c:Pw l p=_:=CH h (fun i=>!C8 (l.getD i (a6 y70))||p&&decide (AF (l.getD i (a6 y70)).2.2<0)) (fun g i hi=>Hh hi h (N0x _ _ (Z3 hi b))) (fun g=>aE);have a:Px l p=_:=Hi c;rw[U9 l (a6 y70) (fun t=>!C8 t||p&&decide (AF t.2.2<0))] at a;unfold W9;rw[a,vS,gP ⟨fun _=>rfl,trivial⟩];refine congrArg some ?_;unfold F2;have e:((l.length:Int)==2)=decide (l.length=2):=by
  rw[Bool.eq_iff_iff,beq_iff_eq,dq]; omega
 rw[e,<- Bm];congr 3;funext t;rw[Bool.not_and,Bool.not_not]
theorem q0N(xs:List Int):∀n,(fN (fun i (s:Int×Int)=>(min s.1 (xs.getD (i+1) 0),max s.2 (xs.getD (i+1) 0))) n (xs.getD 0 0,xs.getD 0 0)).1=fN (fun i m=>min m (xs.getD (i+1) 0)) n (xs.getD 0 0)
 | 0=>rfl
 | n+1=>by rw[fN,fN,q0N xs n]
theorem N0y(t:w8)(b:wf y70 t):∃l,KL t=some (if C8 t=true then((AF t.2.2,l),0) else((0,0),1)):=by
 unfold KL;rw[r45 t b,vS,gP ⟨rfl,trivial⟩];cases hT:C8 t with
 | false=>exact⟨0,rfl⟩
 | true =>
   have c:=(Fz hT).2.2.2.2.2.1;have h:=b.2.2.1;have a:=lF (n:=t.2.2.length-1) (by omega) (fun i (s:Int×Int)=>(((i+1:Nat):Int),s.1,s.2)) (fun i s=>(min s.1 (t.2.2.getD (i+1) 0),max s.2 (t.2.2.getD (i+1) 0))) (fun _ _=>True) (J:=fun s=>some ((s.1,s.2),(0:Int))) (F:=TC t) (fun g i s hi _=>by
    refine(if_pos (by simp; omega)).trans ?_;rw[gP ⟨oo,trivial⟩,gP ⟨oo,trivial⟩,gP ⟨oo,trivial⟩];rfl) (fun _ _ _ _=>trivial) (fun g s _=>by
    have e:t.2.2.length-1+1=t.2.2.length:=by omega
    show TC t g (((t.2.2.length-1+1:Nat):Int),s.1,s.2)=_;rw[e];exact aE) (t.2.2.getD 0 0,t.2.2.getD 0 0) trivial
   rw[if_neg (by simp),gP ⟨oo,oo,trivial⟩];rw[q0N] at a;exact⟨_,a⟩
theorem MM(l:List w8)(p:Bool)(h:wf (.sl y70) l):Y8 l p=some (F2 l p):=by
 unfold Y8;have e:((l.length:Int) != 2)=!decide (l.length=2):=by
  rw[Bool.eq_iff_iff]; simp; omega
 rw[e];unfold F2;by_cases a:l.length=2
 ·have b:=H9 (n:=2) (by decide) (fun i=>!C8 (l.getD i (a6 y70))||p&&decide (AF (l.getD i (a6 y70)).2.2<0)) (some false) (e:=some true) (F:=TD p l) (fun g i hi=>by
   obtain⟨m,f⟩:=N0y (l.getD i (a6 y70)) (Z3 (by omega) h);have d:((i:Int)).toNat=i:=rfl;refine(if_pos (by simp; omega)).trans ?_;rw[d,f,vS,gP ⟨oo,rfl,trivial⟩,lE,gP ⟨oo,trivial⟩];cases C8 (l.getD i (a6 y70)) <;> rfl) (fun g=>by
   unfold TD;exact if_neg (by decide))
  rw[decide_eq_true a,if_neg (by simp)];refine b.trans ?_;have:=U9 l (a6 y70) (fun t=>!C8 t||p&&decide (AF t.2.2<0));rw[a] at this;rw[this,<- Bm,Bool.true_and];have c:(fun t:w8=>!(C8 t&&!(p&&decide (AF t.2.2<0))))=fun t=>!C8 t||p&&decide (AF t.2.2<0):=by
   funext t; rw[Bool.not_and,Bool.not_not]
  rw[c];cases l.any fun t=>!C8 t||p&&decide (AF t.2.2<0) <;> rfl
 ·rw[decide_eq_false a]; rfl
abbrev r6(c:m5)(i:Nat):I8:=c.2.2.1.getD i (a6 y233)
abbrev m9(c:m5)(i:Nat):B3:=c.2.2.2.1.getD i (a6 y67)
theorem VU(c:m5)(a:wf y64 c):W7 c=some ((c.2.2.1.length:Int)-1):=by
 have h:=a.2.2.1.1;have e:Cy c.2.2.1=some (c.2.2.1.length:Int):=rfl;unfold W7;rw[e,vS,gP ⟨rfl,oo,trivial⟩,lE]
theorem M0b(c:m5)(a:wf y64 c)(x:Int):GJ c x=some (m0 x 0 ((c.2.2.1.length:Int)-1-1)):=by
 have h:=a.2.2.1.1;unfold GJ;rw[VU c a,vS,Z2,vS,gP ⟨rfl,oo,rfl,trivial⟩]
theorem N0z(c:m5)(b:wf y64 c):IE c=some (FA c.2.2.1.length (r6 c)):=by
 have h:=b.2.2.1.1;have a:Py c.2.2.1=_:=CH h (fun i=>(r6 c i).2.2.2) (fun g i hi=>Hh hi h rfl) (fun g=>aE);unfold IE;rw[a,vS,gP ⟨rfl,trivial⟩,lE];rfl
theorem VV(c:m5)(d:wf y64 c)(k:Int):P1 c k=some (D2 c.2.2.2.1.length (m9 c) k):=by
 have h:=d.2.2.2.1.1;have a:Ps c.2.2.2.1 k=_:=CH h (fun i=>(m9 c i).1==k) (fun g i hi=>Hh hi h rfl) (fun g=>aE);have b:Pt c.2.2.2.1 k=_:=Hi a;unfold P1;rw[b,vS,gP ⟨rfl,trivial⟩];rfl
theorem N0C(c:m5)(a:B3)(i:wf y64 c)(w:wf y67 a):GK c a=some (Dx c.2.2.1.length (r6 c) a):=by
 obtain⟨_,_,_,_,t,u⟩:=w;have v:Pz a.1=some (a.1==4||a.1==5):=rfl;have o:m0 a.2.1 0 ((c.2.2.1.length:Int)-1-1)=true->ix a.2.1 c.2.2.1.length:=fun h=>by
  rw[A4] at h; exact oo
 unfold GK;rw[v,VT _ _ t,VT _ _ t,VT _ _ u,N0z c i,M0b c i,M0b c i,VU c i]
 repeat rw[vS]
 rw[gP ⟨rfl,trivial⟩];unfold Dx;by_cases Cv:a.1=4∨a.1=5
 ·have m:(a.1==4||a.1==5)=true:=by simpa using Cv
  rw[if_pos m,if_pos Cv,gP ⟨fun _=>rfl,fun _=>rfl,fun _=>rfl,trivial⟩,lE]
 ·have m:(a.1==4||a.1==5)=false:=by
   rw[<- Bool.not_eq_true]; simpa using Cv
  rw[m,if_neg (by simp),if_neg Cv,gP ⟨rfl,fun _=>rfl,fun _=>rfl,fun _=>rfl,trivial⟩,lE];by_cases d:F2 a.2.2.2.2.1 true=true/\F2 a.2.2.2.2.2 true=true/\a.2.2.1=(c.2.2.1.length:Int)-1/\m0 a.2.1 0 ((c.2.2.1.length:Int)-1-1)=true
  ·obtain⟨q,r,s,g⟩:=d;have n:(F2 a.2.2.2.2.1 true&&F2 a.2.2.2.2.2 true&&a.2.2.1==(c.2.2.1.length:Int)-1&&m0 a.2.1 0 ((c.2.2.1.length:Int)-1-1))=true:=by
    rw[q,r,g,s]; simp
   have k:(!F2 a.2.2.2.2.1 true||!F2 a.2.2.2.2.2 true||a.2.2.1 != (c.2.2.1.length:Int)-1||!m0 a.2.1 0 ((c.2.2.1.length:Int)-1-1))=false:=by
    rw[q,r,g,s]; simp
   rw[n,Bool.true_and];refine(if_neg (by rw[k]; simp)).trans ?_;by_cases e:a.1=1
   ·rw[if_pos (beq_iff_eq.2 e),if_pos e,Z2,gP ⟨o g,fun _=>rfl,trivial⟩];rfl
   ·rw[if_neg (by simpa using e),if_neg e];have j:∀b,Lx c a b=some (if b=true then(r6 c a.2.1.toNat).2.2.2&&a.2.2.2.1==0 else false):=fun b=>by
     unfold Lx;cases b with
     | false=>rfl
     | true=>rw[if_pos rfl,if_pos rfl,gP ⟨o g,trivial⟩]
    by_cases f:a.1=2
    ·rw[if_pos (beq_iff_eq.2 f),if_pos (.inl f),j,beq_iff_eq.2 f]; rfl
    ·rw[if_neg (by simpa using f),j];by_cases l:a.1=3
     ·rw[beq_iff_eq.2 l,if_pos rfl,if_pos (.inr l)]
     ·rw[beq_eq_false_iff_ne.2 l,if_neg (by simp),if_neg (by omega)]
  ·have k:(!F2 a.2.2.2.2.1 true||!F2 a.2.2.2.2.2 true||a.2.2.1 != (c.2.2.1.length:Int)-1||!m0 a.2.1 0 ((c.2.2.1.length:Int)-1-1))=true:=by
    rw[<- Bool.not_eq_false];intro h;simp only[Bool.or_eq_false_iff,Bool.not_eq_false',bne_eq_false_iff_eq] at h;exact d ⟨h.1.1.1,h.1.1.2,h.1.2,h.2⟩
   have n:(F2 a.2.2.2.2.1 true&&F2 a.2.2.2.2.2 true&&a.2.2.1==(c.2.2.1.length:Int)-1&&m0 a.2.1 0 ((c.2.2.1.length:Int)-1-1))=false:=by
    rw[<- Bool.not_eq_true];intro h;simp only[ba,beq_iff_eq] at h;exact d ⟨h.1.1.1,h.1.1.2,h.1.2,h.2⟩
   rw[n,Bool.false_and];exact if_pos k
theorem N0F(c:m5)(a:B3)(s:wf y64 c)(t:wf y67 a):KN c a=some (F7 c.2.2.1.length (r6 c) a):=by
 obtain⟨_,_,_,_,j,l⟩:=t;have h:=s.2.2.1.1;unfold KN;rw[gP ⟨oo,trivial⟩,S8,S8]
 repeat rw[vS]
 rw[gP ⟨oo,rfl,fun _=>rfl,trivial⟩];unfold F7;by_cases d:m0 a.2.1 0 ((c.2.2.1.length:Int)-1-1)=true/\m0 a.2.2.1 0 ((c.2.2.1.length:Int)-1)=true
 ·obtain⟨m,n⟩:=d;have v:=A4.1 m;have u:=A4.1 n;rw[m,n,if_neg (by simp),gP ⟨oo,trivial⟩,lE,Bool.true_and,Bool.true_and];by_cases e:a.1=1
  ·rw[if_pos (beq_iff_eq.2 e),if_pos e,S8,MM _ _ j,MM _ _ l,gP ⟨fun _=>rfl,fun _=>rfl,fun _=>rfl,trivial⟩];rfl
  ·rw[if_neg (by simpa using e),if_neg e];have k:∀b,GC (r6 c a.2.1.toNat) a c b=some (if b=true then(r6 c a.2.1.toNat).2.2.2&&decide (a.2.2.1 < (c.2.2.1.length:Int)-1)&&!(r6 c a.2.2.1.toNat).2.2.2&&a.2.2.2.1==0&&F2 a.2.2.2.2.1 false&&(a.2.2.2.2.2.length:Int)==0 else false):=fun b=>by
    unfold GC;cases b with
    | false=>rfl
    | true =>
      rw[if_pos rfl,if_pos rfl,MM _ _ j,gP ⟨fun _=>oo,fun _=>rfl,trivial⟩];rfl
   have o:∀b,KM (r6 c a.2.1.toNat) a c b=some (if b=true then(r6 c a.2.1.toNat).2.2.2&&a.2.2.1==(c.2.2.1.length:Int)-1&&a.2.2.2.1==0&&F2 a.2.2.2.2.1 true&&F2 a.2.2.2.2.2 true else if a.1=4∨a.1=5 then(r6 c a.2.1.toNat).2.2.2&&decide (a.2.2.1 < (c.2.2.1.length:Int)-1)&&!(r6 c a.2.2.1.toNat).2.2.2&&a.2.2.2.1==0&&F2 a.2.2.2.2.1 false&&(a.2.2.2.2.2.length:Int)==0 else false):=fun b=>by
    unfold KM;cases b with
    | true =>
      rw[if_pos rfl,if_pos rfl,MM _ _ j,MM _ _ l,gP ⟨fun _=>rfl,fun _=>rfl,trivial⟩];rfl
    | false =>
      show(if(a.1==4)=true then GC (r6 c a.2.1.toNat) a c (a.1==4) else GC (r6 c a.2.1.toNat) a c (a.1==5))=some (if a.1=4∨a.1=5 then _ else false);by_cases k4:a.1=4
      ·rw[if_pos (beq_iff_eq.2 k4),k,beq_iff_eq.2 k4,if_pos rfl,if_pos (.inl k4)]
      ·rw[if_neg (by simpa using k4),k];by_cases i:a.1=5
       ·rw[beq_iff_eq.2 i,if_pos rfl,if_pos (.inr i)]
       ·rw[beq_eq_false_iff_ne.2 i,if_neg (by simp),if_neg (by omega)]
   by_cases f:a.1=2
   ·rw[if_pos (beq_iff_eq.2 f),if_pos (.inl f)];refine(o _).trans ?_;rw[beq_iff_eq.2 f]; rfl
   ·rw[if_neg (by simpa using f)];refine(o _).trans ?_;by_cases g:a.1=3
    ·rw[beq_iff_eq.2 g,if_pos rfl,if_pos (.inr g)]
    ·rw[beq_eq_false_iff_ne.2 g,if_neg (by simp),if_neg (by omega:¬(a.1=2∨a.1=3))]
 ·have q:(!m0 a.2.1 0 ((c.2.2.1.length:Int)-1-1)||!m0 a.2.2.1 0 ((c.2.2.1.length:Int)-1))=true:=by
   rw[<- Bool.not_eq_false];intro h;simp only[Bool.or_eq_false_iff,Bool.not_eq_false'] at h;exact d h
  have r:(m0 a.2.1 0 ((c.2.2.1.length:Int)-1-1)&&m0 a.2.2.1 0 ((c.2.2.1.length:Int)-1))=false:=by
   rw[<- Bool.not_eq_true];intro h;rw[ba] at h;exact d h
  rw[r,Bool.false_and];exact if_pos q
theorem VW{c:m5}(a:wf y64 c):wf (.sl y233) c.2.2.1:=a.2.2.1
theorem VY{c:m5}(a:wf y64 c):wf (.sl y67) c.2.2.2.1:=a.2.2.2.1
theorem Jm{a:Type}(l:List a)(f:a->ByteArray)(d:a)(e:ByteArray):D1 (l.map f).length (fun i=>(l.map f).getD i e)=D1 l.length fun i=>f (l.getD i d):=by
 rw[List.length_map];exact m0W fun i hi=>v0T f l i d e hi
theorem Jn{a:Type}{l:List a}{f:a->ByteArray}(h:l.length<=9223372036854775807)(c:∀x∈l,(f x).size<=9223372036854775807):wf (.sl .str) (l.map f):=by
 refine⟨by rw[List.length_map]; exact h,fun x b=>?_⟩;obtain⟨y,d,rfl⟩:=List.mem_map.1 b;exact c y d
def Z4(f:Nat->ByteArray)(i:Nat)(s:List ByteArray):List ByteArray:=s++[f i]
theorem v0V(f:Nat->ByteArray):∀n,fN (Z4 f) n []=(List.range n).map f
 | 0=>rfl
 | n+1=>by
   rw[fN,v0V f n,List.range_succ,List.map_append]; rfl
theorem Jo{a:Type}(l:List a)(d:a)(f:a->ByteArray):fN (Z4 fun i=>f (l.getD i d)) l.length []=l.map f:=by
 rw[v0V,u0Y]
theorem QE{n i b:Nat}(h:i<n)(c:n<=1048576)(a:b<=4096):i+1<=9223372036854775807/\(i+1)*b<=140737488355328:=by
 have:(i+1)*b<=1048576*4096:=Nat.mul_le_mul (by omega) a;exact oo
theorem N0K(l:List I8)(e:wf (.sl y233) l)(t:l.length<=1048576):Fq l=some (AG l.length fun i=>l.getD i (a6 y233)):=by
 have h:=e.1;have c:=MN (n:=l.length) h (fun i (s:List ByteArray)=>(s,(i:Int))) (Z4 fun i=>(l.getD i (a6 y233)).1) (fun i=>!Bn l.length (l.getD i (a6 y233)) i) (some false) (fun i s=>s.length=i) (J:=Lz l) (F:=A0v l) (fun g i s hi f=>by
  refine(if_pos (by simpa using hi)).trans ?_;have H:((i:Int)).toNat=i:=rfl;have T:(s++[(l.getD i (a6 y233)).1]).length<=9223372036854775807:=by rw[List.length_append]; show s.length+1<=_; omega
  have Q:=QE (b:=16) hi t (by decide);have y:∀d,PC (i:Int) g d=g (d,((i+1:Nat):Int)):=fun d=>gP ⟨oo,trivial⟩;rw[H,gP ⟨oo,trivial⟩,lE,gP ⟨⟨by show s.length+1<=_; omega,by show(s.length+1)*16<=_; omega⟩,trivial⟩,gP ⟨oo,trivial⟩,y,Z2,gP ⟨fun _=>rfl,trivial⟩,vS];unfold Bn Z4;dsimp only;by_cases j:i+1=l.length
  ·have a:((i:Int)==(l.length:Int)-1)=true:=by rw[beq_iff_eq]; omega
   rw[if_pos a,if_pos j];generalize l.getD i (a6 y233)=q;have w:(q.2.1 != 2)=!(q.2.1==2):=rfl;have o:(q.2.2.1 != 0)=!(q.2.2.1==0):=rfl;rw[w,o];cases c2:q.2.2.1==0 with
   | true =>
     have z:m0 q.2.2.1 0 500=true:=by rw[beq_iff_eq.1 c2]; rfl
     rw[z];cases q.2.1==2 <;> cases q.2.2.2 <;> rfl
   | false=>cases m0 q.2.2.1 0 500 <;> cases q.2.1==2 <;> cases q.2.2.2 <;> rfl
  ·have a:¬((i:Int)==(l.length:Int)-1)=true:=by rw[beq_iff_eq]; omega
   rw[if_neg a,if_neg j];generalize l.getD i (a6 y233)=q;have k:(q.2.1 != 1||!m0 q.2.2.1 0 500)=!(m0 q.2.2.1 0 500&&q.2.1==1):=by
    rw[Bool.not_and,Bool.or_comm]; rfl
   rw[k]) (fun i s hi f _=>by unfold Z4; rw[List.length_append,f]; rfl) (fun g s _=>aE) [] rfl
 refine c.trans ?_;rw[Jo];have m:wf (.sl .str) (l.map fun q:I8=>q.1):=Jn h fun x P=>(e.2 x P).1;have G:Cy l=some (l.length:Int):=rfl;have r:∀v:List ByteArray,wf (.sl .str) v->Lz l v=some (m0 (l.length:Int) 2 5&&D1 v.length fun i=>v.getD i (a6 .str)):=fun v u=>by
  rw[Lz];rw[G,ML _ u]
  repeat rw[vS]
  rw[Z2,vS,gP ⟨rfl,rfl,fun _=>rfl,trivial⟩]
 rw[r _ m,Jm l (fun q:I8=>q.1) (a6 y233)];unfold AG;have E:m0 (l.length:Int) 2 5=(decide (2<=l.length)&&decide (l.length<=5)):=by
  rw[Bool.eq_iff_iff,A4]; simp; omega
 rw[E];cases(List.range l.length).any fun i=>!Bn l.length (l.getD i (a6 y233)) i
 ·simp
 ·simp
theorem N0G(c:m5)(w:wf y64 c):KO c=some (if AG c.2.2.1.length (r6 c)=true then(J1 c.2.2.1.length (r6 c),true) else(0,false)):=by
 have r:=VW w;have h:=r.1;unfold KO;by_cases f:2<=c.2.2.1.length/\c.2.2.1.length<=5
 ·have j:(decide ((c.2.2.1.length:Int)<2)||decide (5 < (c.2.2.1.length:Int)))=false:=by
   rw[<- Bool.not_eq_true]; simp; omega
  rw[j,if_neg (by simp)];have l:=MN (n:=c.2.2.1.length) h (fun i (s:Int)=>(s,(i:Int))) (fun i s=>if(r6 c i).2.2.2=true then s+1 else s) (fun i=>(!J0 (r6 c i).1||P3 (fun i=>(r6 c i).1) i)||!Bn c.2.2.1.length (r6 c i) i) (some ((0:Int),false)) (fun i s=>0<=s/\s<=i) (J:=TE) (F:=A0s c) (fun g i s hi o=>by
   refine(if_pos (by simpa using hi)).trans ?_;have W:((i:Int)).toNat=i:=rfl;have X:(r6 c i).1.size<=9223372036854775807:=(Z3 (d:=a6 y233) hi r).1;rw[W,gP ⟨oo,trivial⟩,lE];have a:=H9 (n:=i) (by omega) (fun k=>decide ((r6 c k).1=(r6 c i).1)) (some ((0:Int),false)) (e:=OX (i:Int) s (r6 c i) c g ()) (F:=A0r c (r6 c i) (i:Int) s g) (fun x k G=>BV G (by omega) ⟨oo,trivial⟩) (fun x=>aE);refine a.trans ?_;have z:OX (i:Int) s (r6 c i) c g ()=if(!J0 (r6 c i).1||!Bn c.2.2.1.length (r6 c i) i)=true then some ((0:Int),false) else g (if(r6 c i).2.2.2=true then s+1 else s,((i+1:Nat):Int)):=by
    have t:∀m,OW (i:Int) g m=g (m,((i+1:Nat):Int)):=fun m=>gP ⟨oo,trivial⟩;show gd _ (if(!vl (Ah (r6 c i).1)||!vl (w7 (r6 c i).2.2.1 0 500))=true then _ else gd _ (if _=true then _ else if _=true then gd _ _ else _))=_;rw[QD _ X,S8,vS,vS,gP ⟨rfl,fun _=>rfl,trivial⟩,gP ⟨oo,fun _=>oo,trivial⟩,gP ⟨oo,trivial⟩,t,t];generalize r6 c i=q;have Y:((i:Int)==(c.2.2.1.length:Int)-1)=decide (i+1=c.2.2.1.length):=by
     rw[Bool.eq_iff_iff,beq_iff_eq,dq]; omega
    have V:decide ((i:Int) < (c.2.2.1.length:Int)-1)=!decide (i+1=c.2.2.1.length):=by
     rw[Bool.eq_iff_iff]; simp; omega
    rw[Y,V];have hz:Bn c.2.2.1.length q i=(m0 q.2.2.1 0 500&&(if decide (i+1=c.2.2.1.length)=true then q.2.1==2&&q.2.2.1==0&&!q.2.2.2 else q.2.1==1)):=by
     unfold Bn;by_cases b:i+1=c.2.2.1.length
     ·rw[if_pos b,decide_eq_true b,if_pos rfl]
     ·rw[if_neg b,decide_eq_false b,if_neg (by simp)]
    rw[hz];have H:(q.2.1 != 2)=!(q.2.1==2):=rfl;have v:(q.2.2.1 != 0)=!(q.2.2.1==0):=rfl;have n3:(q.2.1 != 1)=!(q.2.1==1):=rfl;rw[H,v,n3];cases J0 q.1 <;> cases m0 q.2.2.1 0 500 <;> cases decide (i+1=c.2.2.1.length) <;> cases q.2.1==2 <;> cases q.2.2.1==0 <;> cases q.2.1==1 <;> cases q.2.2.2 <;> rfl
   rw[z];have y:P3 (fun i=>(r6 c i).1) i=(List.range i).any fun k=>decide ((r6 c k).1=(r6 c i).1):=rfl;rw[y];cases J0 (r6 c i).1 <;> cases Bn c.2.2.1.length (r6 c i) i <;> cases(List.range i).any (fun k=>decide ((r6 c k).1=(r6 c i).1)) <;> rfl) (fun i s hi o _=>by
   have P:0<=s/\s<=(i:Int):=o;show 0<=(if(r6 c i).2.2.2=true then s+1 else s)/\(if(r6 c i).2.2.2=true then s+1 else s)<=((i+1:Nat):Int);split <;> omega) (fun g s _=>aE) 0 oo
  refine l.trans ?_;rw[Qy];unfold AG D1;rw[decide_eq_true f.1,decide_eq_true f.2];cases(List.range c.2.2.1.length).any (fun i=>!J0 (r6 c i).1||P3 (fun i=>(r6 c i).1) i) <;> cases(List.range c.2.2.1.length).any (fun i=>!Bn c.2.2.1.length (r6 c i) i) <;> rfl
 ·have j:(decide ((c.2.2.1.length:Int)<2)||decide (5 < (c.2.2.1.length:Int)))=true:=by
   simp; omega
  have E:¬AG c.2.2.1.length (r6 c)=true:=fun Q=>by
   obtain⟨T,u,_⟩:=Jc Q;exact f ⟨T,u⟩
  rw[if_pos j,if_neg E]
theorem N0J(c:m5)(k:wf y64 c):GL c=some (Hc (Dx c.2.2.1.length (r6 c)) c.2.2.2.1.length (m9 c)):=by
 have l:=VY k;have h:=l.1;have q:∀(a:List B3) (o:B3),a.length<=9223372036854775807->Ly a o=some (a.any fun x=>x.1==o.1&&x.2.1==o.2.1&&x.2.2.1==o.2.2.1):=fun a o j=>by
  have t:PA a o=_:=CH j (fun i=>(a.getD i (a6 y67)).1==o.1&&(a.getD i (a6 y67)).2.1==o.2.1&&(a.getD i (a6 y67)).2.2.1==o.2.2.1) (fun g i hi=>Hh hi j rfl) (fun g=>aE);have f:Ly a o=_:=Hi t;rw[U9 a (a6 y67) (fun x=>x.1==o.1&&x.2.1==o.2.1&&x.2.2.1==o.2.2.1)] at f;exact f
 have b:=H9 (n:=c.2.2.2.1.length) h (fun i=>!Dx c.2.2.1.length (r6 c) (m9 c i)||Jb (m9 c) i) (some false) (e:=PB c ()) (F:=A0u c) (fun g i hi=>by
  have r:((i:Int)).toNat=i:=rfl;have m:(c.2.2.2.1.take i).length<=9223372036854775807:=by rw[List.length_take]; omega
  have s:=N0C c (m9 c i) k (Z3 hi l);have d:=q (c.2.2.2.1.take i) (m9 c i) m;rw[u0r c.2.2.2.1 (a6 y67) _ i (by omega)] at d;refine(if_pos (by grind)).trans ?_;rw[r,gP ⟨oo,trivial⟩,lE,s,d,vS,vS,gP ⟨rfl,fun _=>⟨by omega,by omega,by omega⟩,fun _=>rfl,trivial⟩,gP ⟨oo,trivial⟩];rfl) (fun g=>aE)
 refine b.trans ?_;unfold Hc PB;have e:decide ((c.2.2.2.1.length:Int)<=8)=decide (c.2.2.2.1.length<=8):=by rw[decide_eq_decide]; omega
 rw[e];cases(List.range c.2.2.2.1.length).any fun i=>!Dx c.2.2.1.length (r6 c) (m9 c i)||Jb (m9 c) i
 ·simp
 ·simp
theorem MO{n:Nat}(h:1<=n):((n:Int)-1).toNat=n-1:=by omega
theorem N0I(c:m5)(a:wf y64 c)(v:2<=c.2.2.1.length)(u:c.2.2.1.length<=5):Pv c=some (Jd c.2.1 c.2.2.1.length (r6 c) c.2.2.2.1.length (m9 c) c.2.2.2.2.1):=by
 have o:=VW a;have h:=o.1;have q:=a.2.2.2.2.1.1;have f:=lF (n:=c.2.2.1.length) h (fun i (s:Int)=>(s,(i:Int))) (fun i s=>if(r6 c i).2.2.2=true then s+1 else s) (fun i s=>0<=s/\s<=i) (J:=IB c) (F:=A0t c) (fun g i s hi m=>by
  have k:∀j,Pu (i:Int) g j=g (j,((i+1:Nat):Int)):=fun j=>gP ⟨oo,trivial⟩;have r:((i:Int)).toNat=i:=rfl;refine(if_pos (by grind)).trans ?_;rw[r,gP ⟨oo,trivial⟩,lE,gP ⟨oo,trivial⟩,k,k]
  grind) (fun i s hi m=>by
  omega) (fun g s _=>aE) 0 oo
 refine f.trans ?_;show IB c (J1 c.2.2.1.length (r6 c))=_;have t:∀b:Int,IB c b=some (if c.2.1=1 then b==0&&(c.2.2.2.2.1.length:Int)==1*2 ^ (c.2.2.1.length-1)&&c.2.2.2.2.1.all (m0 · 0 1)
  else if c.2.1=2 then b==1&&(c.2.2.2.2.1.length:Int)==0&&!D2 c.2.2.2.1.length (m9 c) 1&&!(D2 c.2.2.2.1.length (m9 c) 2==D2 c.2.2.2.1.length (m9 c) 3)
  else if c.2.1=3 then b==1&&(c.2.2.2.2.1.length:Int)==0&&D2 c.2.2.2.1.length (m9 c) 1&&D2 c.2.2.2.1.length (m9 c) 2&&!D2 c.2.2.2.1.length (m9 c) 3
  else false):=fun b=>by
  rw[IB,VU c a,Hj _ _ _ q,VV c a,VV c a,VV c a]
  repeat rw[vS]
  rw[MO (by omega)];by_cases d:c.2.1=1
  ·rw[if_pos (beq_iff_eq.2 d),if_pos d,gP ⟨fun _=>rfl,fun _=>⟨by omega,B0J u⟩,fun _=>rfl,trivial⟩,lE,MO (by omega)]
  ·rw[if_neg (by grind),if_neg d];by_cases e:c.2.1=2
   ·rw[if_pos (beq_iff_eq.2 e),if_pos e,gP ⟨fun _=>rfl,fun _=>rfl,fun _=>rfl,trivial⟩]
   ·rw[if_neg (by grind),if_neg e];by_cases l:c.2.1=3
    ·rw[if_pos (beq_iff_eq.2 l),if_pos l,gP ⟨fun _=>rfl,fun _=>rfl,fun _=>rfl,trivial⟩]
    grind
 exact t (J1 c.2.2.1.length (r6 c))
abbrev Bp(q:Nat->(Nat->O0)->F0->Bool)(c:m5):Bool:=V0 q c.1 c.2.1 c.2.2.1.length (r6 c) c.2.2.2.1.length (m9 c) c.2.2.2.2.1 c.2.2.2.2.2.1 c.2.2.2.2.2.2
theorem N0P(c:m5)(b:wf y64 c)(f:c.2.2.1.length<=1048576):LA c=some (Bp F7 c):=by
 have d:=VW b;show _=some (V0 F7 _ _ _ _ _ _ _ _ _);rw[<- E0L];unfold LA V0;rw[VQ c.1 b.1,N0K _ d f,N0J c b,Z2,Z2]
 repeat rw[vS]
 cases hpo:AG c.2.2.1.length (r6 c) with
 | false =>
   rw[gP ⟨rfl,fun _=>rfl,fun a=>by simp at a,fun a=>by simp at a,fun a=>by simp at a,fun a=>by simp at a,trivial⟩];simp
 | true =>
   obtain⟨e,g,_⟩:=Jc hpo;rw[N0I c b e g,vS,gP ⟨rfl,fun _=>rfl,fun _=>rfl,fun _=>rfl,fun _=>rfl,fun _=>rfl,trivial⟩]
theorem N0E(c:m5)(t:wf y64 c)(y:c.2.2.2.1.length<=8)(k:∀i,i<c.2.2.2.1.length->1<=(m9 c i).1/\(m9 c i).1<=5):KJ c=some (fN (He (m9 c)) c.2.2.2.1.length (List.replicate 6 0)):=by
 have h:=(VY t).1;unfold KJ;rw[gP ⟨⟨by omega,rfl,by decide,by omega⟩,trivial⟩];have r:=lF (n:=c.2.2.2.1.length) h (fun i (v:List Int)=>((i:Int),v)) (He (m9 c)) (fun i v=>i<=c.2.2.2.1.length/\v=fN (He (m9 c)) i (List.replicate 6 0)) (J:=fun v=>some v) (F:=A0p c) (fun g i v hi e=>by
  obtain⟨u,m⟩:=VA (m9 c) i (fun j z=>k j (by omega));obtain⟨w,x⟩:=k i hi;have l:v.length=6:=by rw[e.2]; exact u
  have a:=m (m9 c i).1.toNat (by omega);have o:=ME (m9 c) ((m9 c i).1.toNat:Int) i;rw[<- e.2] at a;have q:((i:Int)).toNat=i:=rfl;refine(if_pos (by grind)).trans ?_;have f:j0 (v.getD (m9 c i).1.toNat 0+1):=by rw[a]; exact oo
  have d:ix (m9 c i).1 v.length:=oo;have b:(m9 c i).1.toNat<v.length:=by omega
  rw[q,gP ⟨oo,d,b,f,d,b,trivial⟩,lE,gP ⟨oo,trivial⟩];rfl) (fun i v hi e=>⟨by omega,by rw[e.2]; rfl⟩) (fun g s _=>aE) (List.replicate 6 0) ⟨by omega,rfl⟩
 grind
theorem N0O(c:m5)(f:wf y64 c):KQ c=some (Bp F7 c):=by
 have X:=VY f;have h:=X.1;show _=some (V0 F7 _ _ _ _ _ _ _ _ _);unfold KQ V0;rw[N0G c f,QD c.1 f.1,S8,S8]
 repeat rw[vS]
 rw[gP ⟨rfl,trivial⟩,lE,gP ⟨fun _=>rfl,fun _=>rfl,fun _=>rfl,trivial⟩];cases hpo:AG c.2.2.1.length (r6 c) with
 | false =>
   grind
 | true =>
   obtain⟨h2,h5,_⟩:=Jc hpo;have e9:(if true=true then(J1 c.2.2.1.length (r6 c),true) else((0:Int),false))=(J1 c.2.2.1.length (r6 c),true):=rfl;rw[e9];by_cases u:J0 c.1=true/\c.2.2.2.1.length<=8/\m0 c.2.2.2.2.2.1 0 100000=true/\m0 c.2.2.2.2.2.2 0 100000=true
   ·obtain⟨g1,g2,r,g4⟩:=u;have e0:decide (8 < (c.2.2.2.1.length:Int))=false:=decide_eq_false (by omega);rw[g1,e0,r,g4];refine(if_neg (by simp)).trans ?_;have G:=H9 (n:=c.2.2.2.1.length) h (fun i=>!F7 c.2.2.1.length (r6 c) (m9 c i)||Jb (m9 c) i) (some false) (e:=OY c (J1 c.2.2.1.length (r6 c),true) ()) (F:=A0D c (J1 c.2.2.1.length (r6 c),true)) (fun g i hi=>by
     have e3:((i:Int)).toNat=i:=rfl;have e1:=N0F c (m9 c i) f (Z3 hi X);have d:=H9 (n:=i) (by omega) (fun k=>(m9 c k).1==(m9 c i).1&&(m9 c k).2.1==(m9 c i).2.1&&(m9 c k).2.2.1==(m9 c i).2.2.1) (some false) (e:=g ((i:Int)+1)) (F:=A0C c (m9 c i) (i:Int) g) (fun r k hk=>BV hk (by omega) ⟨oo,fun _=>oo,fun _=>oo,trivial⟩) (fun r=>by
      refine aE.trans ?_;exact gP ⟨oo,trivial⟩)
     refine(if_pos (by grind)).trans ?_;rw[e3,gP ⟨oo,trivial⟩,lE,e1,vS,gP ⟨rfl,trivial⟩,d];unfold Jb
     grind) (fun g=>aE)
    refine G.trans ?_;unfold Hc;rw[decide_eq_true g2];cases hany:(List.range c.2.2.2.1.length).any fun i=>!F7 c.2.2.1.length (r6 c) (m9 c i)||Jb (m9 c) i with
    | true=>simp
    | false =>
      rw[if_neg (by simp)];have b:∀i,i<c.2.2.2.1.length->F7 c.2.2.1.length (r6 c) (m9 c i)=true:=fun i hi=>by
       grind
      have l:=N0E c f g2 (fun i hi=>n0O (b i hi));obtain⟨w,a⟩:=VA (m9 c) c.2.2.2.1.length (fun i hi=>n0O (b i hi));have H:=a 1 (by omega);have c2:=a 2 (by omega);have V:=a 3 (by omega);rw[OY,l,vS,gP ⟨rfl,trivial⟩,lE];generalize fN (He (m9 c)) c.2.2.2.1.length (List.replicate 6 0)=v at *
      have q1:((v.getD 1 0)==(0:Int))=!D2 c.2.2.2.1.length (m9 c) 1:=by
       rw[H,Je];have:=(ME (m9 c) 1 c.2.2.2.1.length).1;rw[Bool.eq_iff_iff]; simp; omega
      have z:decide (0<v.getD 1 0)=D2 c.2.2.2.1.length (m9 c) 1:=by rw[H,Je]; rfl
      have W:decide (0<v.getD 2 0)=D2 c.2.2.2.1.length (m9 c) 2:=by rw[c2,Je]; rfl
      have q3:decide (0<v.getD 3 0)=D2 c.2.2.2.1.length (m9 c) 3:=by rw[V,Je]; rfl
      have s:((v.getD 3 0)==(0:Int))=!D2 c.2.2.2.1.length (m9 c) 3:=by
       rw[V,Je];have:=(ME (m9 c) 3 c.2.2.2.1.length).1;rw[Bool.eq_iff_iff]; simp; omega
      have Q:ix (1:Int) v.length:=oo;have i2:ix (2:Int) v.length:=oo;have i3:ix (3:Int) v.length:=oo;have T:Int.toNat (1:Int)<v.length:=by rw[w]; decide
      have P:Int.toNat (2:Int)<v.length:=by rw[w]; decide
      have n3:Int.toNat (3:Int)<v.length:=by rw[w]; decide
      unfold Jd;by_cases m:c.2.1=1
      ·rw[if_pos (beq_iff_eq.2 m),if_pos m];have Y:=f.2.2.2.2.1.1;have j:=H9 (n:=c.2.2.2.2.1.length) Y (fun i=>!m0 (c.2.2.2.2.1.getD i 0) 0 1) (some false) (e:=KP (J1 c.2.2.1.length (r6 c),true) c ()) (F:=A0B c (J1 c.2.2.1.length (r6 c),true)) (fun g i hi=>BV hi Y ⟨oo,rfl,trivial⟩) (fun g=>aE);refine j.trans ?_;rw[U9 c.2.2.2.2.1 0 (fun x=>!m0 x 0 1),<- Bm];have e5:KP (J1 c.2.2.1.length (r6 c),true) c ()=some (J1 c.2.2.1.length (r6 c)==0&&(c.2.2.2.2.1.length:Int)==1*2 ^ (c.2.2.1.length-1)):=by
        rw[KP,MO (by omega),gP ⟨fun _=>oo,fun _=>oo,fun _=>⟨by omega,B0J h5⟩,trivial⟩]
       rw[e5];cases c.2.2.2.2.1.any fun x=>!m0 x 0 1 <;> simp
      ·rw[if_neg (by simpa using m),if_neg m];by_cases o:c.2.1=2
       ·rw[if_pos (beq_iff_eq.2 o),if_pos o,gP ⟨fun _=>Q,fun _=>T,fun _=>i2,fun _=>P,fun _=>i3,fun _=>n3,trivial⟩];have q:Int.toNat (1:Int)=1:=rfl;have E:Int.toNat (2:Int)=2:=rfl;have y:Int.toNat (3:Int)=3:=rfl;rw[q,E,y,q1,W,q3];cases J1 c.2.2.1.length (r6 c)==1 <;> cases(c.2.2.2.2.1.length:Int)==0 <;> cases D2 c.2.2.2.1.length (m9 c) 1 <;> cases D2 c.2.2.2.1.length (m9 c) 2 <;> cases D2 c.2.2.2.1.length (m9 c) 3 <;> rfl
       ·rw[if_neg (by simpa using o),if_neg o];by_cases t:c.2.1=3
        ·rw[if_pos (beq_iff_eq.2 t),if_pos t,gP ⟨fun _=>Q,fun _=>T,fun _=>i2,fun _=>P,fun _=>i3,fun _=>n3,trivial⟩];have q:Int.toNat (1:Int)=1:=rfl;have E:Int.toNat (2:Int)=2:=rfl;have y:Int.toNat (3:Int)=3:=rfl;rw[q,E,y,z,W,s];cases J1 c.2.2.1.length (r6 c)==1 <;> cases(c.2.2.2.2.1.length:Int)==0 <;> cases D2 c.2.2.2.1.length (m9 c) 1 <;> cases D2 c.2.2.2.1.length (m9 c) 2 <;> cases D2 c.2.2.2.1.length (m9 c) 3 <;> rfl
        ·rw[if_neg (by grind),if_neg t];rfl
   grind[J0,decide,m0,trans,Hc]
abbrev S9(l:List m5)(i:Nat):m5:=l.getD i (a6 y64)
abbrev Dz(l:List m5):Bool:=CF l.length (fun i=>Bp F7 (S9 l i)) (fun i=>(S9 l i).1)
theorem w0v{c:m5}(h:Bp F7 c=true):J0 c.1=true:=by
 have h:V0 F7 _ _ _ _ _ _ _ _ _=true:=h;unfold V0 at h;simp only[ba] at h;exact h.1.1.1.1.1
theorem O0c(l:List m5)(d:wf (.sl y64) l)(j:cnt (.sl y64) l<=1048576):LC l=some (Dz l):=by
 have h:=d.1;have k:=BW j;have e:=MN (n:=l.length) h (fun i (s:List ByteArray)=>(s,(i:Int))) (Z4 fun i=>(S9 l i).1) (fun i=>!Bp F7 (S9 l i)) (some false) (fun i s=>s.length=i) (J:=LB l) (F:=B0h l) (fun g i s hi f=>by
  have o:((i:Int)).toNat=i:=rfl;have a:cnt y64 (S9 l i)<=1048576:=I0E hi j;have m:(S9 l i).2.2.1.length<=1048576:=BW (cF (cS (cS a)));have q:=N0P (S9 l i) (Z3 hi d) m;have y:=QE (b:=16) hi k (by decide);refine(if_pos (by simpa using hi)).trans ?_;rw[o,gP ⟨oo,trivial⟩,lE,q,vS,gP ⟨rfl,trivial⟩,gP ⟨⟨by show s.length+1<=_; omega,by show(s.length+1)*16<=_; omega⟩,trivial⟩,gP ⟨oo,trivial⟩];rfl) (fun i s hi f _=>by unfold Z4; rw[List.length_append,f]; rfl) (fun g s _=>aE) [] rfl
 refine e.trans ?_;rw[Jo l (a6 y64) (fun c:m5=>c.1)];have r:wf (.sl .str) (l.map fun c:m5=>c.1):=Jn h fun x u=>(d.2 x u).1;have t:∀v:List ByteArray,wf (.sl .str) v->LB l v=some (decide (l.length<=8)&&D1 v.length fun i=>v.getD i (a6 .str)):=fun v w=>by
  have e8:decide ((l.length:Int)<=8)=decide (l.length<=8):=by rw[decide_eq_decide]; omega
  rw[LB,ML _ w,vS,gP ⟨fun _=>rfl,trivial⟩,e8]
 rw[t _ r,Jm l (fun c:m5=>c.1) (a6 y64)];show _=some (CF _ _ _);rw[<- I0m (fun i _ a=>w0v a)];split <;> rfl
theorem N0T(l:List m5)(c:wf (.sl y64) l):KS l=some (Dz l):=by
 have h:=c.1;have b:=H9 (n:=l.length) h (fun i=>!Bp F7 (S9 l i)||P3 (fun i=>(S9 l i).1) i) (some false) (e:=OZ l ()) (F:=A0Y l) (fun g i hi=>by
  have d:((i:Int)).toNat=i:=rfl;have f:=N0O (S9 l i) (Z3 hi c);have a:=H9 (n:=i) (by omega) (fun k=>decide ((S9 l k).1=(S9 l i).1)) (some false) (e:=g ((i:Int)+1)) (F:=A0X l (i:Int) g) (fun m k j=>BV j (by omega) ⟨oo,oo,trivial⟩) (fun m=>by
   refine aE.trans ?_;exact gP ⟨oo,trivial⟩)
  refine(if_pos (by simpa using hi)).trans ?_;rw[d,f,vS,gP ⟨oo,rfl,trivial⟩,a];unfold P3;cases Bp F7 (S9 l i) <;> cases(List.range i).any (fun k=>decide ((S9 l k).1=(S9 l i).1)) <;> rfl) (fun g=>aE)
 refine b.trans ?_;show _=some (CF _ _ _);unfold CF OZ;have e8:decide ((l.length:Int)<=8)=decide (l.length<=8):=by rw[decide_eq_decide]; omega
 rw[e8];cases(List.range l.length).any (fun i=>!Bp F7 (S9 l i)||P3 (fun i=>(S9 l i).1) i) <;> rfl
abbrev m7(d:r9)(i:Nat):o3:=d.1.getD i (a6 y139)
abbrev A9(d:r9)(i:Nat):u3:=d.2.2.getD i (a6 y202)
abbrev Z5(l:List m5)(x:Int):Nat:=(l.getD x.toNat (a6 y64)).2.2.1.length
abbrev Hk(l:List m5)(d:r9):Bool:=CG (Dz l) l.length (Z5 l) d.1.length d.2.2.length d.2.1.length (m7 d) (A9 d) (fun i=>d.2.1.getD i (a6 .str))
theorem M0h(d:r9)(a:wf y31 d)(x:Int):GI d x=some (m0 x 0 ((d.2.1.length:Int)-1)):=by
 have h:=a.2.1.1;have e:IA d.2.1=some (d.2.1.length:Int):=rfl;unfold GI;rw[e]
 repeat rw[vS]
 rw[Z2,vS,gP ⟨rfl,oo,rfl,trivial⟩]
theorem O0a(d:r9)(l:List m5)(x:o3)(n:wf y31 d)(c:wf (.sl y64) l)(j:wf y139 x):Ls d l x=some (R9 l.length (Z5 l) d.2.1.length x):=by
 have h:=c.1;have b:=j.2.2.1;have e:Fo l=some (l.length:Int):=rfl;have f:∀y,Lr y d=some (!m0 y 0 ((d.2.1.length:Int)-1)):=fun y=>by
  unfold Lr;rw[M0h d n,gP ⟨rfl,trivial⟩,vS]
 have m:Pm x.2.2 d=_:=CH b (fun i=>!m0 (x.2.2.getD i 0) 0 ((d.2.1.length:Int)-1)) (fun g i hi=>Hh hi b (f _)) (fun g=>aE);have a:Pn x.2.2 d=_:=Hi m;rw[U9 x.2.2 0 (fun y=>!m0 y 0 ((d.2.1.length:Int)-1))] at a;unfold Ls;rw[e,a]
 repeat rw[vS]
 rw[Z2,vS,gP ⟨rfl,oo,rfl,fun k=>by
  have:=A4.1 k.1;exact oo,fun _=>rfl,trivial⟩,Bm]
 rfl
theorem O0b(d:r9)(e:wf y31 d)(u:cnt y31 d<=1048576):Pr d=some (decide (d.1.length<=14)&&decide (d.2.1.length<=30)&&decide (d.2.2.length<=8)&&D1 d.1.length (fun i=>(m7 d i).1)&&D1 d.2.1.length (fun i=>d.2.1.getD i (a6 .str))&&D1 d.2.2.length (fun i=>(A9 d i).1)):=by
 have h:=e.1.1;have j:=e.2.2.1;have l:d.1.length<=1048576:=BW (cF u);have m:d.2.2.length<=1048576:=BW (cS (cS u));have r:=lF (n:=d.1.length) h (fun i (s:List ByteArray)=>(s,(i:Int))) (Z4 fun i=>(m7 d i).1) (fun i s=>s.length=i) (J:=Lu d) (F:=B0g d) (fun g i s hi f=>by
  have q:((i:Int)).toNat=i:=rfl;have Q:=QE (b:=16) hi l (by decide);refine(if_pos (by simpa using hi)).trans ?_;rw[q,gP ⟨oo,trivial⟩,lE,gP ⟨⟨by show s.length+1<=_; omega,by show(s.length+1)*16<=_; omega⟩,trivial⟩,gP ⟨oo,trivial⟩];rfl) (fun i s hi f=>by unfold Z4; rw[List.length_append,f]; rfl) (fun g s _=>aE) [] rfl
 refine r.trans ?_;rw[Jo d.1 (a6 y139) (fun c:o3=>c.1)];have k:wf (.sl .str) (d.1.map fun c:o3=>c.1):=Jn h fun x t=>(e.1.2 x t).1;have o:wf (.sl .str) (d.2.2.map fun c:u3=>c.1):=Jn j fun x t=>(e.2.2.2 x t).1;have G:∀v:List ByteArray,wf (.sl .str) v->v.length=d.1.length->Lu d v=some (decide (d.1.length<=14)&&decide (d.2.1.length<=30)&&decide (d.2.2.length<=8)&&(D1 v.length fun i=>v.getD i (a6 .str))&&D1 d.2.1.length (fun i=>d.2.1.getD i (a6 .str))&&D1 d.2.2.length (fun i=>(A9 d i).1)):=fun v H P=>by
  rw[Lu];have a:=lF (n:=d.2.2.length) j (fun i (s:List ByteArray)=>(s,(i:Int))) (Z4 fun i=>(A9 d i).1) (fun i s=>s.length=i) (J:=Lt v d) (F:=B0f d v) (fun g i s hi f=>by
   have q:((i:Int)).toNat=i:=rfl;have Q:=QE (b:=16) hi m (by decide);refine(if_pos (by simpa using hi)).trans ?_;rw[q,gP ⟨oo,trivial⟩,lE,gP ⟨⟨by show s.length+1<=_; omega,by show(s.length+1)*16<=_; omega⟩,trivial⟩,gP ⟨oo,trivial⟩];rfl) (fun i s hi f=>by unfold Z4; rw[List.length_append,f]; rfl) (fun g s _=>aE) [] rfl
  refine a.trans ?_;rw[Jo d.2.2 (a6 y202) (fun c:u3=>c.1)];have y:∀z:List ByteArray,wf (.sl .str) z->z.length=d.2.2.length->Lt v d z=some (decide (d.1.length<=14)&&decide (d.2.1.length<=30)&&decide (d.2.2.length<=8)&&(D1 v.length fun i=>v.getD i (a6 .str))&&D1 d.2.1.length (fun i=>d.2.1.getD i (a6 .str))&&D1 z.length (fun i=>z.getD i (a6 .str))):=fun z hz w=>by
   have T:decide ((v.length:Int)<=14)=decide (d.1.length<=14):=by rw[decide_eq_decide]; omega
   have V:decide ((d.2.1.length:Int)<=30)=decide (d.2.1.length<=30):=by rw[decide_eq_decide]; omega
   have E:decide ((z.length:Int)<=8)=decide (d.2.2.length<=8):=by rw[decide_eq_decide]; omega
   rw[Lt,ML _ H,ML _ hz,ML _ e.2.1,vS,vS,vS,gP ⟨fun _=>rfl,fun _=>rfl,fun _=>rfl,trivial⟩,T,V,E]
  rw[y _ o (List.length_map _),Jm d.2.2 (fun c:u3=>c.1) (a6 y202)]
 rw[G _ k (List.length_map _),Jm d.1 (fun c:o3=>c.1) (a6 y139)]
theorem QF{l:List m5}(h:Dz l=true){x:Int}(b:m0 x 0 ((l.length:Int)-1)=true):2<=Z5 l x/\Z5 l x<=5:=by
 have h:CF _ _ _=true:=h;unfold CF at h;rw[ba] at h;rw[A4] at b;have:=BS.1 h.1 x.toNat (by omega);rw[Bool.or_eq_false_iff,Bool.not_eq_false'] at this;have a:V0 F7 _ _ _ _ _ _ _ _ _=true:=this.1;unfold V0 at a;simp only[ba] at a;have:=Jc a.1.1.1.1.2
 grind
theorem VZ{a b:Nat}{pins:Int->Nat}{x:F1}(h:R9 a pins b x=true)(c:∀y,m0 y 0 ((a:Int)-1)=true->2<=pins y):1<=x.2.2.length/\m0 (x.2.2.getD (x.2.2.length-1) 0) 0 ((b:Int)-1)=true:=by
 grind[R9]
theorem N0S(l:List m5)(d:r9)(q:wf (.sl y64) l)(c:wf y31 d):OU l d=some (!((List.range d.1.length).any fun i=>!R9 l.length (Z5 l) d.2.1.length (m7 d i))&&!((List.range d.2.2.length).any fun i=>!S0 d.2.1.length (A9 d i))):=by
 have h:=q.1;have j:=c.1.1;have m:=c.2.2.1;have r:=c.2.1.1;have w:OT d ()=some (!((List.range d.2.2.length).any fun i=>!S0 d.2.1.length (A9 d i))):=by
  have b:=H9 (n:=d.2.2.length) m (fun i=>!S0 d.2.1.length (A9 d i)) (some false) (e:=some true) (F:=ZY d) (fun g i hi=>by
   have f:((i:Int)).toNat=i:=rfl;refine(if_pos (by grind)).trans ?_;rw[f,S8,S8,vS,vS,gP ⟨oo,rfl,fun _=>oo,fun _=>oo,fun _=>rfl,trivial⟩,gP ⟨oo,trivial⟩]
   grind[S0,Bool.not_and]) (fun g=>aE)
  refine b.trans ?_;cases(List.range d.2.2.length).any fun i=>!S0 d.2.1.length (A9 d i) <;> rfl
 have b:=H9 (n:=d.1.length) j (fun i=>!R9 l.length (Z5 l) d.2.1.length (m7 d i)) (some false) (e:=OT d ()) (F:=A0U d l) (fun g i hi=>by
  have f:((i:Int)).toNat=i:=rfl;have s:=Z3 (d:=a6 y139) hi c.1;have o:=s.2.2.1;refine(if_pos (by grind)).trans ?_;rw[f,gP ⟨oo,trivial⟩,lE,S8,vS,gP ⟨oo,rfl,fun u=>by
   have:=u.1;rw[Bool.not_eq_false'] at this;have:=A4.1 this;exact oo,trivial⟩]
  have a:=H9 (n:=(m7 d i).2.2.length) o (fun k=>!m0 ((m7 d i).2.2.getD k 0) 0 ((d.2.1.length:Int)-1)) (some false) (e:=g ((i:Int)+1)) (F:=A0T (m7 d i) d (i:Int) g) (fun v k t=>by
   refine(BV t o ⟨oo,oo,rfl,trivial⟩).trans ?_;rfl) (fun v=>by
   refine aE.trans ?_;exact gP ⟨oo,trivial⟩)
  rw[U9 (m7 d i).2.2 0 (fun y=>!m0 y 0 ((d.2.1.length:Int)-1))] at a;rw[a];unfold R9
  grind[Bm]) (fun g=>aE)
 refine b.trans ?_
 grind
theorem q0n(v:List Int):(!v.any fun x=>x != 1)=v.all (·==1):=Bm v (fun x=>x==1)
theorem Wa{n b:Nat}(h:n<=1048576)(a:b<=4096):(0<=(n:Int)/\(n:Int)=(n:Int)/\(n:Int).toNat*b<=281474976710656/\(n:Int)<=9223372036854775807)/\True:=by
 have c:n*b<=1048576*4096:=Nat.mul_le_mul h a;exact⟨⟨by omega,rfl,by rw[Int.toNat_natCast]; omega,by omega⟩,trivial⟩
theorem MP{v:List Int}{n b:Nat}{x:Int}(h:Aj v n b)(e:b<=2097152)(d:m0 x 0 ((n:Int)-1)=true):ix x v.length/\x.toNat<v.length/\j0 (v.getD x.toNat 0+1)/\ix x v.length/\x.toNat<v.length/\True:=by
 obtain⟨a,c⟩:=y0N h d;have:=h.2 x.toNat;exact⟨a,c,oo,a,c,trivial⟩
theorem QG{n:Nat}(a:1<=n)(h:n<=9223372036854775807):j0 ((n:Int)-1)/\ix ((n:Int)-1) n:=⟨oo,oo⟩
theorem r82(l:List m5)(d:r9)(E:wf (.sl y64) l)(c:wf y31 d)(P:cnt (.sl y64) l<=1048576)(k:cnt y31 d<=1048576):LF l d=some (Hk l d):=by
 have m:=c.1.1;have u:=c.2.2.1;have mi:d.1.length<=1048576:=BW (cF k);have W:d.2.1.length<=1048576:=BW (cF (cS k));have mp:d.2.2.length<=1048576:=BW (cS (cS k));show _=some (CG _ _ _ _ _ _ _ _ _);unfold LF CG;rw[O0c l E P,O0b d c k,vS,vS,gP ⟨rfl,fun _=>rfl,trivial⟩];cases hlo:Dz l with
 | false=>grind
 | true =>
   rw[Bool.true_and];cases hno:(decide (d.1.length<=14)&&decide (d.2.1.length<=30)&&decide (d.2.2.length<=8)&&D1 d.1.length (fun i=>(m7 d i).1)&&D1 d.2.1.length (fun i=>d.2.1.getD i (a6 .str))&&D1 d.2.2.length (fun i=>(A9 d i).1)) with
   | false=>grind
   | true =>
     refine(if_neg (by simp)).trans ?_;rw[gP (Wa W (by decide)),Int.toNat_natCast];have j:∀y,m0 y 0 ((l.length:Int)-1)=true->2<=Z5 l y:=fun y V=>(QF hlo V).1;have t:=MN (n:=d.1.length) m (fun i (v:List Int)=>((i:Int),v)) (V2 (m7 d)) (fun i=>!R9 l.length (Z5 l) d.2.1.length (m7 d i)) (some false) (fun i v=>i<=d.1.length/\Aj v d.2.1.length i) (J:=PG d) (F:=F0V d l) (fun g i v hi e=>by
      have r:((i:Int)).toNat=i:=rfl;have H:=Z3 (d:=a6 y139) hi c.1;refine(if_pos (by grind)).trans ?_;rw[r,gP ⟨oo,trivial⟩,lE,O0a d l _ c E H,vS,gP ⟨rfl,trivial⟩];cases hin:R9 l.length (Z5 l) d.2.1.length (m7 d i) with
      | false=>rfl
      | true =>
        obtain⟨s,X⟩:=VZ hin j;have a:(m7 d i).2.2.length<=9223372036854775807:=H.2.2.1;refine(if_neg (by simp)).trans ?_;rw[MO s,gP ⟨(QG s a).1,(QG s a).2,MP e.2 (by omega) X⟩,lE,gP ⟨oo,trivial⟩];rfl) (fun i v hi e _=>⟨by omega,Jf e.2 _⟩) (fun g v _=>aE) (List.replicate d.2.1.length 0) ⟨by omega,Qx _ _⟩
     refine t.trans ?_;cases hia:(List.range d.1.length).any fun i=>!R9 l.length (Z5 l) d.2.1.length (m7 d i) with
     | true=>simp
     | false =>
       refine(if_neg (by simp)).trans ?_;have b:=VC (m7 d) d.2.1.length d.1.length;unfold FB;generalize fN (V2 (m7 d)) d.1.length (List.replicate d.2.1.length 0)=v0 at *
       rw[PG];have h:=MN (n:=d.2.2.length) u (fun i (v:List Int)=>((i:Int),v)) (M9 (A9 d)) (fun i=>!S0 d.2.1.length (A9 d i)) (some false) (fun i v=>i<=d.2.2.length/\Aj v d.2.1.length (d.1.length+i)) (J:=LD) (F:=F0U d) (fun g i v hi e=>by
        have r:((i:Int)).toNat=i:=rfl;have G:∀q,PF (i:Int) g q=g (((i+1:Nat):Int),q):=fun q=>gP ⟨oo,trivial⟩;refine(if_pos (by grind)).trans ?_;rw[r,gP ⟨oo,trivial⟩,lE,M0h d c,vS,gP ⟨fun _=>rfl,trivial⟩,G,G];have T:((A9 d i).2.1 != 1&&(A9 d i).2.1 != 2||!m0 (A9 d i).2.2 0 ((d.2.1.length:Int)-1))=!S0 d.2.1.length (A9 d i):=by
         unfold S0;rw[Bool.not_and];congr 1;rw[Bool.eq_iff_iff];simp only[ba,bne_iff_ne,Bool.not_eq_true',<- Bool.not_eq_true,A4];omega
        show(if((A9 d i).2.1 != 1&&(A9 d i).2.1 != 2||!m0 (A9 d i).2.2 0 ((d.2.1.length:Int)-1))=true then some false else _)=_;rw[T];cases hpo:S0 d.2.1.length (A9 d i) with
        | false=>rfl
        | true =>
          have f:m0 (A9 d i).2.2 0 ((d.2.1.length:Int)-1)=true:=by
           unfold S0 at hpo;rw[ba] at hpo;exact hpo.2
          refine(if_neg (by simp)).trans ?_;show _=g (_,M9 (A9 d) i v);unfold M9;by_cases w:(A9 d i).2.1=1
          ·rw[if_pos (beq_iff_eq.2 w),if_pos w];exact gP (MP e.2 (by omega) f)
          grind) (fun i v hi e _=>⟨by omega,by
          grind[M9,Jf,VB]⟩) (fun g v _=>aE) v0 ⟨by omega,b⟩
       refine h.trans ?_;cases hpa:(List.range d.2.2.length).any fun i=>!S0 d.2.1.length (A9 d i) with
       | true=>simp
       | false =>
         refine(if_neg (by simp)).trans ?_;have o:∀v:List Int,v.length<=9223372036854775807->LD v=some (v.all (·==1)):=fun v o=>by
          have Q:PD v=_:=CH o (fun i=>v.getD i 0 != 1) (fun g i hi=>Hh hi o rfl) (fun g=>aE);have z:PE v=_:=Hi Q;rw[U9 v 0 (fun x=>x != 1)] at z;rw[LD,z,vS,gP ⟨rfl,trivial⟩,q0n]
         have a:(fN (M9 (A9 d)) d.2.2.length v0).length<=9223372036854775807:=by
          have:∀n,(fN (M9 (A9 d)) n v0).length=v0.length:=by
           intro n
           induction n with
           | zero=>rfl
           | succ n Y =>
             grind[fN,M9,BR,List.length_set]
          rw[this,b.1]; omega
         grind
theorem r92(l:List m5)(d:r9)(hl:wf (.sl y64) l)(k:wf y31 d)(W:cnt y31 d<=1048576):KX l d=some (Hk l d):=by
 have m:=k.1.1;have t:=k.2.2.1;have mi:d.1.length<=1048576:=BW (cF W);have mn:d.2.1.length<=1048576:=BW (cF (cS W));have mp:d.2.2.length<=1048576:=BW (cS (cS W));show _=some (CG _ _ _ _ _ _ _ _ _);unfold KX;rw[N0T l hl,N0S l d hl k,vS,vS,gP ⟨rfl,fun _=>rfl,trivial⟩];by_cases o:Dz l=true/\d.1.length<=14/\d.2.1.length<=30/\d.2.2.length<=8/\((List.range d.1.length).any fun i=>!R9 l.length (Z5 l) d.2.1.length (m7 d i))=false/\((List.range d.2.2.length).any fun i=>!S0 d.2.1.length (A9 d i))=false
 ·obtain⟨H,aB,aA,h8,Q,G⟩:=o;have a1:decide (14 < (d.1.length:Int))=false:=decide_eq_false (by omega);have a2:decide (30 < (d.2.1.length:Int))=false:=decide_eq_false (by omega);have a3:decide (8 < (d.2.2.length:Int))=false:=decide_eq_false (by omega);rw[H,a1,a2,a3,Q,G];refine(if_neg (by simp)).trans ?_;have E:∀y,m0 y 0 ((l.length:Int)-1)=true->2<=Z5 l y:=fun y hy=>(QF H hy).1;have P:∀i,i<d.1.length->R9 l.length (Z5 l) d.2.1.length (m7 d i)=true:=fun i hi=>by
   grind
  have q:∀i,i<d.2.2.length->S0 d.2.1.length (A9 d i)=true:=fun i hi=>by
   grind
  have UT:∀v:List Int,v.length<=9223372036854775807->KT v=some (v.all (·==1)):=fun v u=>by
   rw[KT];have a:=H9 (n:=v.length) u (fun i=>v.getD i 0 != 1) (some false) (e:=some true) (F:=A0c v) (fun g i hi=>by
    refine(BV hi u ⟨oo,by omega,trivial⟩).trans ?_;rfl) (fun g=>aE)
   refine a.trans ?_;rw[U9 v 0 (fun x=>x != 1),<- q0n]
   grind
  have k7:∀v:List Int,Aj v d.2.1.length d.1.length->KU d v=some ((fN (M9 (A9 d)) d.2.2.length v).all (·==1)):=fun Y h=>by
   rw[KU];have a:=lF (n:=d.2.2.length) t (fun i (v:List Int)=>((i:Int),v)) (M9 (A9 d)) (fun i v=>i<=d.2.2.length/\Aj v d.2.1.length (d.1.length+i)) (J:=KT) (F:=F0I d) (fun g i v hi b=>by
    have r:((i:Int)).toNat=i:=rfl;have j8:∀v',Pb (i:Int) g v'=g (((i+1:Nat):Int),v'):=fun v'=>gP ⟨oo,trivial⟩;have w:m0 (A9 d i).2.2 0 ((d.2.1.length:Int)-1)=true:=by
     have:=q i hi;unfold S0 at this;rw[ba] at this;exact this.2
    refine(if_pos (by grind)).trans ?_;rw[r,gP ⟨oo,trivial⟩,j8];show(if((A9 d i).2.1==1)=true then _ else _)=g (_,M9 (A9 d) i v);unfold M9;by_cases k1:(A9 d i).2.1=1
    ·rw[if_pos (beq_iff_eq.2 k1),if_pos k1];refine(gP ⟨oo,MP b.2 (by omega) w⟩).trans ?_;rw[lE];exact j8 _
    grind) (fun i v hi b=>⟨by omega,by
    grind[M9,Jf,VB]⟩) (fun g v _=>aE) Y ⟨by omega,h⟩
   refine a.trans (UT _ ?_);have:∀n,(fN (M9 (A9 d)) n Y).length=Y.length:=by
    intro n
    induction n with
    | zero=>rfl
    | succ n ih =>
      grind[fN,M9,BR,List.length_set]
   rw[this,h.1]; omega
  have k5:lp (TF d) ((0:Int),List.replicate d.2.1.length 0)=some ((FB d.1.length d.2.2.length d.2.1.length (m7 d) (A9 d)).all (·==1)):=by
   have a:=lF (n:=d.1.length) m (fun i (v:List Int)=>((i:Int),v)) (V2 (m7 d)) (fun i v=>i<=d.1.length/\Aj v d.2.1.length i) (J:=KU d) (F:=TF d) (fun g i v hi b=>by
    have r:((i:Int)).toNat=i:=rfl;have T:=Z3 (d:=a6 y139) hi k.1;obtain⟨g1,g2⟩:=VZ (P i hi) E;have f:(m7 d i).2.2.length<=9223372036854775807:=T.2.2.1;refine(if_pos (by grind)).trans ?_;rw[r,gP ⟨oo,trivial⟩,lE,MO g1,gP ⟨(QG g1 f).1,(QG g1 f).2,MP b.2 (by omega) g2⟩,lE,gP ⟨oo,trivial⟩];rfl) (fun i v hi b=>⟨by omega,Jf b.2 _⟩) (fun g v _=>aE) (List.replicate d.2.1.length 0) ⟨by omega,Qx _ _⟩
   refine a.trans (k7 _ (VC _ _ _))
  have V:wf (.sl .str) (d.1.map fun c:o3=>c.1):=Jn m fun x T=>(k.1.2 x T).1;have X:wf (.sl .str) (d.2.2.map fun c:u3=>c.1):=Jn t fun x T=>(k.2.2.2 x T).1;have k2:∀v z:List ByteArray,wf (.sl .str) v->wf (.sl .str) z->KV d v z=some ((D1 v.length fun i=>v.getD i (a6 .str))&&(D1 z.length fun i=>z.getD i (a6 .str))&&D1 d.2.1.length (fun i=>d.2.1.getD i (a6 .str))&&(FB d.1.length d.2.2.length d.2.1.length (m7 d) (A9 d)).all (·==1)):=fun v z u hz=>by
   rw[KV,VR _ u,VR _ hz,VR _ k.2.1,vS,vS,vS,gP ⟨rfl,fun _=>rfl,fun _=>rfl,trivial⟩,gP (Wa mn (by decide)),Int.toNat_natCast,k5];cases(D1 v.length fun i=>v.getD i (a6 .str)) <;> cases(D1 z.length fun i=>z.getD i (a6 .str)) <;> cases D1 d.2.1.length (fun i=>d.2.1.getD i (a6 .str)) <;> rfl
  have k3:∀v:List ByteArray,wf (.sl .str) v->KW d v=some ((D1 v.length fun i=>v.getD i (a6 .str))&&D1 d.2.2.length (fun i=>(A9 d i).1)&&D1 d.2.1.length (fun i=>d.2.1.getD i (a6 .str))&&(FB d.1.length d.2.2.length d.2.1.length (m7 d) (A9 d)).all (·==1)):=fun v u=>by
   rw[KW];have a:=lF (n:=d.2.2.length) t (fun i (s:List ByteArray)=>((i:Int),s)) (Z4 fun i=>(A9 d i).1) (fun i s=>s.length=i) (J:=KV d v) (F:=F0J d v) (fun g i s hi b=>by
    have r:((i:Int)).toNat=i:=rfl;refine(if_pos (by grind)).trans ?_;rw[r,gP ⟨oo,⟨by grind,by grind⟩,trivial⟩,gP ⟨oo,trivial⟩];rfl) (fun i s hi b=>by grind[Z4,List.length_append]) (fun g s _=>aE) [] rfl
   refine a.trans ?_;rw[Jo d.2.2 (a6 y202) (fun c:u3=>c.1),k2 _ _ u X,Jm d.2.2 (fun c:u3=>c.1) (a6 y202)]
  have a:=lF (n:=d.1.length) m (fun i (s:List ByteArray)=>((i:Int),s)) (Z4 fun i=>(m7 d i).1) (fun i s=>s.length=i) (J:=KW d) (F:=F0K d) (fun g i s hi b=>by
   have r:((i:Int)).toNat=i:=rfl;refine(if_pos (by grind)).trans ?_;rw[r,gP ⟨oo,⟨by grind,by grind⟩,trivial⟩,gP ⟨oo,trivial⟩];rfl) (fun i s hi b=>by grind[Z4,List.length_append]) (fun g s _=>aE) [] rfl
  refine a.trans ?_;rw[Jo d.1 (a6 y139) (fun c:o3=>c.1),k3 _ V,Jm d.1 (fun c:o3=>c.1) (a6 y139)];unfold CG;rw[Q,G,decide_eq_true aB,decide_eq_true aA,decide_eq_true h8];cases D1 d.1.length (fun i=>(m7 d i).1) <;> cases D1 d.2.1.length (fun i=>d.2.1.getD i (a6 .str)) <;> cases D1 d.2.2.length (fun i=>(A9 d i).1) <;> rfl
 ·have e0:(!Dz l||decide (14 < (d.1.length:Int))||decide (30 < (d.2.1.length:Int))||decide (8 < (d.2.2.length:Int))||!(!((List.range d.1.length).any fun i=>!R9 l.length (Z5 l) d.2.1.length (m7 d i))&&!((List.range d.2.2.length).any fun i=>!S0 d.2.1.length (A9 d i))))=true:=by
   rw[<- Bool.not_eq_false];intro j;simp only[Bool.or_eq_false_iff,Bool.not_eq_false',decide_eq_false_iff_not,ba,Bool.not_eq_true'] at j;exact o ⟨j.1.1.1.1,by omega,by omega,by omega,j.2.1,j.2.2⟩
  refine(if_pos e0).trans ?_;refine congrArg some ?_
  symm
  rw[<- Bool.not_eq_true];intro j;unfold CG at j;simp only[ba,dq,Bool.not_eq_true'] at j;obtain⟨⟨⟨⟨⟨⟨⟨⟨⟨c1,c2⟩,c3⟩,c4⟩,_⟩,_⟩,_⟩,c5⟩,c6⟩,_⟩:=j;exact o ⟨c1,c2,c3,c4,c5,c6⟩
abbrev MQ(w:z6)(i:Nat):Bool:=(i==0&&(w.1.getD i 0 != -1||w.2.1.getD 0 0 != 0))||(decide (0<i)&&!m0 (w.1.getD i 0) 0 ((i:Int)-1))
theorem N0Z(w:z6)(f:wf l7 w)(j:w.2.1.length=w.1.length):Cw w=some (!(List.range w.1.length).any (MQ w)):=by
 have h:=f.1.1;have a:=H9 (n:=w.1.length) h (MQ w) (some false) (e:=some true) (F:=B0d w) (fun g i hi=>by
  have d:((i:Int)).toNat=i:=rfl;have b:((i:Int)==0)=(i==0):=by rw[Bool.eq_iff_iff,beq_iff_eq,beq_iff_eq]; omega
  have c:decide ((0:Int) < (i:Int))=decide (0<i):=by rw[decide_eq_decide]; omega
  refine(if_pos (by simpa using hi)).trans ?_;rw[d,b,c,Z2,vS,gP ⟨oo,trivial⟩,gP ⟨fun _=>oo,fun _=>oo,fun _=>rfl,trivial⟩,gP ⟨oo,trivial⟩];rfl) (fun g=>aE)
 refine a.trans ?_
 grind
theorem r84(w:z6)(n:Int)(d:wf l7 w):Lq w n=some (Ak w n):=by
 obtain⟨⟨i,_⟩,⟨f,_⟩,⟨h,_⟩,g,_⟩:=id d;have e:∀xs:List Int,D8 xs=some (xs.length:Int):=fun _=>rfl;unfold Lq;rw[e,e,e,e]
 repeat rw[vS]
 rw[gP ⟨rfl,trivial⟩,lE,Z2,Hj _ _ _ f,Hj _ _ _ h,Hj _ _ _ g]
 repeat rw[vS]
 by_cases b:(m0 (w.1.length:Int) 1 8&&(w.2.1.length:Int)==(w.1.length:Int)&&(w.2.2.1.length:Int)==(w.1.length:Int))=true
 ·have c:=b;simp only[ba,beq_iff_eq,A4] at c;rw[N0Z w d (by omega),vS,gP ⟨rfl,fun _=>rfl,fun _=>rfl,fun _=>rfl,fun _=>rfl,fun _=>rfl,fun _=>rfl,fun _=>oo,fun _=>rfl,trivial⟩,lE];refine congrArg some ?_;rw[b];unfold Ak;rw[decide_eq_true (show 1<=w.1.length by omega),decide_eq_true (show w.1.length<=8 by omega),decide_eq_true (show w.2.1.length=w.1.length by omega),decide_eq_true (show w.2.2.1.length=w.1.length by omega)];cases(List.range w.1.length).any (MQ w) <;> cases w.2.1.all (m0 · 0 1000) <;> cases w.2.2.1.all (m0 · 0 500) <;> cases(w.2.2.2.length:Int)==n <;> cases w.2.2.2.all (m0 · 0 ((w.1.length:Int)-1)) <;> rfl
 ·have c:(m0 (w.1.length:Int) 1 8&&(w.2.1.length:Int)==(w.1.length:Int)&&(w.2.2.1.length:Int)==(w.1.length:Int))=false:=by simpa using b
  rw[c,gP ⟨rfl,fun _=>rfl,fun _=>rfl,fun a=>by simp at a,fun a=>by simp at a,fun a=>by simp at a,fun a=>by simp at a,fun a=>by simp at a,fun a=>by simp at a,trivial⟩,lE];refine congrArg some ?_;rw[c];simp only[Bool.false_and]
  symm
  rw[<- Bool.not_eq_true];intro a;unfold Ak at a;simp only[ba,dq] at a;refine b ?_;simp only[ba,beq_iff_eq,A4];omega
theorem r93(w:z6)(n:Int)(t:wf l7 w):KI w n=some (Ak w n):=by
 obtain⟨⟨u,_⟩,⟨v,_⟩,⟨y,_⟩,h,_⟩:=id t;unfold KI;by_cases b:1<=w.1.length/\w.1.length<=8/\w.2.1.length=w.1.length/\w.2.2.1.length=w.1.length/\(w.2.2.2.length:Int)=n
 ·obtain⟨q,s,j,d,o⟩:=b;have a:(decide ((w.1.length:Int)<1)||decide (8 < (w.1.length:Int))||(w.2.1.length:Int) != (w.1.length:Int)||(w.2.2.1.length:Int) != (w.1.length:Int)||(w.2.2.2.length:Int) != n)=false:=by
   rw[<- Bool.not_eq_true]; simp; omega
  refine(if_neg (by rw[a]; simp)).trans ?_;have f:=H9 (n:=w.2.2.2.length) h (fun i=>!m0 (w.2.2.2.getD i 0) 0 ((w.1.length:Int)-1)) (some false) (e:=some true) (F:=ZR w) (fun g i hi=>BV hi h ⟨oo,oo,rfl,trivial⟩) (fun g=>aE);rw[U9 w.2.2.2 0 (fun x=>!m0 x 0 ((w.1.length:Int)-1))] at f;have l:=H9 (n:=w.1.length) u (fun i=>(!m0 (w.2.2.1.getD i 0) 0 500||!m0 (w.2.1.getD i 0) 0 1000)||MQ w i) (some false) (e:=OQ w ()) (F:=ZS w) (fun g i hi=>by
   have r:((i:Int)).toNat=i:=rfl;have a:((i:Int)==0)=(i==0):=by rw[Bool.eq_iff_iff,beq_iff_eq,beq_iff_eq]; omega
   have m:decide ((0:Int) < (i:Int))=decide (0<i):=by rw[decide_eq_decide]; omega
   refine(if_pos (by simpa using hi)).trans ?_;rw[r,a,m,S8,S8,S8]
   repeat rw[vS]
   rw[gP ⟨oo,rfl,fun _=>oo,fun _=>rfl,trivial⟩,gP ⟨fun _=>oo,fun _=>oo,fun _=>oo,fun _=>oo,fun _=>rfl,trivial⟩,gP ⟨oo,trivial⟩]
   grind) (fun g=>aE)
  refine l.trans ?_;rw[Qy,Qy];have c:=U9 w.2.2.1 0 (fun x=>!m0 x 0 500);have k:=U9 w.2.1 0 (fun x=>!m0 x 0 1000);rw[d] at c;rw[j] at k;rw[c,k];unfold OQ;rw[f];unfold Ak;rw[decide_eq_true q,decide_eq_true s,decide_eq_true j,decide_eq_true d,beq_iff_eq.2 o,<- Bm,<- Bm,<- Bm];cases(List.range w.1.length).any (MQ w) <;> cases w.2.1.any (fun x=>!m0 x 0 1000) <;> cases w.2.2.1.any (fun x=>!m0 x 0 500) <;> cases w.2.2.2.any (fun x=>!m0 x 0 ((w.1.length:Int)-1)) <;> rfl
 grind[decide,trans,Ak]
theorem QH(d:r9)(m:wf y31 d)(t:d.1.length<=14)(y:d.2.2.length<=8)(l:∀i,i<d.1.length->1<=(m7 d i).2.2.length/\(m7 d i).2.2.length<=5):BK d=some (M4 d.1.length d.2.2.length (m7 d) (A9 d)):=by
 have f:=m.1.1;have h:=m.2.2.1;unfold BK;have u:∀s:List C0,s.length<=70->Lf d s=some (fN (Q7 (A9 d)) d.2.2.length s):=fun j w=>by
  rw[Lf];exact lF (n:=d.2.2.length) h (fun i (s:List C0)=>((i:Int),s)) (Q7 (A9 d)) (fun i s=>s.length=j.length+i) (J:=fun s=>some s) (F:=F0Q d) (fun g i s hi b=>by
   have c:((i:Int)).toNat=i:=rfl;refine(if_pos (by grind)).trans ?_;rw[c,gP ⟨oo,trivial⟩,lE,gP ⟨⟨by grind,by grind⟩,trivial⟩,gP ⟨oo,trivial⟩];rfl) (fun i s hi b=>by grind[Q7,List.length_append]) (fun g s _=>aE) j rfl
 have e:=lF (n:=d.1.length) f (fun i (s:List C0)=>(s,(i:Int))) (P4 (m7 d)) (fun i s=>s.length<=5*i) (J:=Lf d) (F:=F0S d) (fun g i s hi b=>by
  have c:((i:Int)).toNat=i:=rfl;have E:=(l i hi).2;have q:(m7 d i).2.2.length<=9223372036854775807:=by omega
  refine(if_pos (by grind)).trans ?_;rw[c,gP ⟨oo,trivial⟩,lE];have a:=lF (n:=(m7 d i).2.2.length) q (fun k (s:List C0)=>((k:Int),s)) (V3 (m7 d i) i) (fun k z=>z.length=s.length+k) (J:=TJ (i:Int) g) (F:=F0R (i:Int) (m7 d i) g) (fun v k z r hz=>by
   have o:((k:Int)).toNat=k:=rfl;refine(if_pos (by grind)).trans ?_;rw[o,gP ⟨oo,trivial⟩,gP ⟨oo,⟨by grind,by grind⟩,trivial⟩,lE];exact gP ⟨oo,trivial⟩) (fun k z r hz=>by grind[V3,List.length_append]) (fun v z _=>aE) s rfl
  refine a.trans ?_;exact gP ⟨oo,trivial⟩) (fun i s hi b=>by
  grind[P4,Hf]) (fun g s _=>aE) [] (Nat.zero_le _)
 refine e.trans (u _ ?_);have:=Qz (x:=m7 d) (ni:=d.1.length) (fun i hi=>(l i hi).2) d.1.length (Nat.le_refl _);omega
theorem DA(d:r9)(m:wf y31 d)(t:d.1.length<=14)(y:d.2.2.length<=8)(l:∀i,i<d.1.length->1<=(m7 d i).2.2.length/\(m7 d i).2.2.length<=5):J3 d=some (M4 d.1.length d.2.2.length (m7 d) (A9 d)):=by
 have f:=m.1.1;have h:=m.2.2.1;unfold J3;have u:∀s:List D3,s.length<=70->Io d s=some (fN (Q7 (A9 d)) d.2.2.length s):=fun j w=>by
  rw[Io];exact lF (n:=d.2.2.length) h (fun i (s:List D3)=>((i:Int),s)) (Q7 (A9 d)) (fun i s=>s.length=j.length+i) (J:=fun s=>some s) (F:=Tj d) (fun g i s hi b=>by
   have c:((i:Int)).toNat=i:=rfl;refine(if_pos (by grind)).trans ?_;rw[c,gP ⟨oo,oo,⟨by grind,by grind⟩,trivial⟩,lE];exact gP ⟨oo,trivial⟩) (fun i s hi b=>by grind[Q7,List.length_append]) (fun g s _=>aE) j rfl
 have e:=lF (n:=d.1.length) f (fun i (s:List D3)=>((i:Int),s)) (P4 (m7 d)) (fun i s=>s.length<=5*i) (J:=Io d) (F:=Tl d) (fun g i s hi b=>by
  have c:((i:Int)).toNat=i:=rfl;have E:=(l i hi).2;have q:(m7 d i).2.2.length<=9223372036854775807:=by omega
  refine(if_pos (by grind)).trans ?_;rw[c,gP ⟨oo,trivial⟩,lE];have a:=lF (n:=(m7 d i).2.2.length) q (fun k (s:List D3)=>((k:Int),s)) (V3 (m7 d i) i) (fun k z=>z.length=s.length+k) (J:=OE (i:Int) g) (F:=Tk (i:Int) (m7 d i) g) (fun v k z r hz=>by
   have o:((k:Int)).toNat=k:=rfl;refine(if_pos (by grind)).trans ?_;rw[o,gP ⟨oo,oo,⟨by grind,by grind⟩,trivial⟩,lE];exact gP ⟨oo,trivial⟩) (fun k z r hz=>by grind[V3,List.length_append]) (fun v z _=>aE) s rfl
  refine a.trans ?_;exact gP ⟨oo,trivial⟩) (fun i s hi b=>by
  grind[P4,Hf]) (fun g s _=>aE) [] (Nat.zero_le _)
 refine e.trans (u _ ?_);have:=Qz (x:=m7 d) (ni:=d.1.length) (fun i hi=>(l i hi).2) d.1.length (Nat.le_refl _);omega
abbrev q9(d:r9):List B5:=M4 d.1.length d.2.2.length (m7 d) (A9 d)
abbrev u5(d:r9)(i:Nat):B5:=(q9 d).getD i (a6 y151)
abbrev m3(b:j9)(i:Nat):z6:=b.2.2.getD i (a6 l7)
def p9(b:j9):Bool:=Hk b.1 b.2.1&&decide (b.2.2.length=b.2.1.2.1.length)&&!(List.range b.2.2.length).any fun i=>!Ak (m3 b i) (V4 (u5 b.2.1) i (q9 b.2.1).length)
structure DF(l:List m5)(d:r9):Prop where
 lib:Dz l=true
 fac:DesignFacts l.length (Z5 l) d.1.length d.2.2.length d.2.1.length (m7 d) (A9 d)
 pin:∀i,i<d.1.length->1<=(m7 d i).2.2.length/\(m7 d i).2.2.length<=5
 plc:Jg d.2.1.length (q9 d)
 len:(q9 d).length<=78
theorem V6{l:List m5}{d:r9}(h:Hk l d=true):DF l d:=by
 obtain⟨c,b⟩:=n0B h;have e:∀i,i<d.1.length->1<=(m7 d i).2.2.length/\(m7 d i).2.2.length<=5:=fun i hi=>by
  have a:=b.inst i hi;have j:=(VZ a (fun y g=>(QF c g).1)).1;unfold R9 at a;simp only[ba,beq_iff_eq] at a;have:=(QF c a.1.1).2;exact⟨j,by omega⟩
 have f:=b.net;refine⟨c,b,e,q0j f.2 (k0f f.1 d.1.length (Nat.le_refl _)) d.2.2.length (Nat.le_refl _),?_⟩;have:=Qz (x:=m7 d) (ni:=d.1.length) (fun i hi=>(e i hi).2) d.1.length (Nat.le_refl _);have k:=b.ni14;have m:=b.np8;unfold q9 M4;rw[MF];omega
theorem r36(b:j9)(h:wf l9 b)(m:cnt l9 b<=1048576):IF b=some (p9 b):=by
 have x:=h.1;have s:=h.2.1;have w:=h.2.2.1;have u:b.2.2.length<=1048576:=BW (cS (cS m));unfold IF p9;rw[r82 b.1 b.2.1 x s (cF m) (cF (cS m)),vS,gP ⟨rfl,trivial⟩];cases hdo:Hk b.1 b.2.1 with
 | false=>exact if_pos rfl
 | true =>
   have c:=V6 hdo;by_cases a:b.2.2.length=b.2.1.2.1.length
   ·have l:((b.2.2.length:Int) != (b.2.1.2.1.length:Int))=false:=by rw[a]; simp
    rw[l,decide_eq_true a];refine(if_neg (by simp)).trans ?_;rw[gP (Wa u (by decide)),Int.toNat_natCast,QH b.2.1 s c.fac.ni14 c.fac.np8 c.pin,vS,gP ⟨rfl,trivial⟩,lE];have k:(q9 b.2.1).length<=9223372036854775807:=by have:=c.len; omega
    have f:∀i,i < (q9 b.2.1).length->m0 (u5 b.2.1 i).2.2.1 0 ((b.2.2.length:Int)-1)=true:=fun i hi=>by
     rw[a]; exact c.plc _ (H8 hi)
    have r:=lF (n:=(q9 b.2.1).length) k (fun i (v:List Int)=>((i:Int),v)) (Dy (u5 b.2.1)) (fun i v=>i<=(q9 b.2.1).length/\Aj v b.2.2.length i) (J:=PH b) (F:=G0J (q9 b.2.1) b) (fun g i v hi j=>by
     have q:((i:Int)).toNat=i:=rfl;have t:∀o,PI (i:Int) g o=g (((i+1:Nat):Int),o):=fun o=>gP ⟨oo,trivial⟩;refine(if_pos (by simpa using hi)).trans ?_;rw[q,gP ⟨oo,hi,trivial⟩,lE,t];show(if(!(u5 b.2.1 i).2.2.2)=true then _ else _)=g (_,Dy (u5 b.2.1) i v);unfold Dy;cases hdr:(u5 b.2.1 i).2.2.2 with
     | true=>rfl
     | false =>
       refine(if_pos rfl).trans ?_;refine(gP (MP j.2 (by have:=c.len; omega) (f i hi))).trans ?_;rw[lE];exact t _) (fun i v hi j=>⟨by omega,by
     unfold Dy;split
     ·exact Jf j.2 _
     ·exact VB j.2 (by omega)⟩) (fun g v _=>aE) (List.replicate b.2.2.length 0) ⟨by omega,Qx _ _⟩
    refine r.trans ?_;obtain⟨z,y⟩:=m0z (u5 b.2.1) b.2.2.length (q9 b.2.1).length f;generalize fN (Dy (u5 b.2.1)) (q9 b.2.1).length (List.replicate b.2.2.length 0)=v at *
    rw[PH];have d:=H9 (n:=b.2.2.length) w (fun i=>!Ak (m3 b i) (V4 (u5 b.2.1) i (q9 b.2.1).length)) (some false) (e:=some true) (F:=G0I v b) (fun g i hi=>by
     have q:((i:Int)).toNat=i:=rfl;refine(if_pos (by simpa using hi)).trans ?_;rw[q,gP ⟨oo,trivial⟩,lE,y i hi,r84 _ _ (Z3 hi h.2.2),vS,gP ⟨oo,by omega,rfl,trivial⟩,gP ⟨oo,trivial⟩]) (fun g=>aE)
    refine d.trans ?_;cases(List.range b.2.2.length).any fun i=>!Ak (m3 b i) (V4 (u5 b.2.1) i (q9 b.2.1).length) <;> rfl
   ·have l:((b.2.2.length:Int) != (b.2.1.2.1.length:Int))=true:=by simp; omega
    rw[l,decide_eq_false a];exact if_pos rfl
theorem Wb(d:r9)(h:wf y31 d){l:List m5}(a:DF l d)(t:Int):U7 d t=some (fN (O2 (u5 d) t) (q9 d).length []):=by
 have j:=a.len;unfold U7;rw[DA d h a.fac.ni14 a.fac.np8 a.pin,vS,gP ⟨rfl,trivial⟩,lE];exact lF (n:=(q9 d).length) (by omega) (fun i (s:List Int)=>((i:Int),s)) (O2 (u5 d) t) (fun i s=>s.length<=i) (J:=fun s=>some s) (F:=Tm (q9 d) t) (fun g i s hi b=>by
  have f:((i:Int)).toNat=i:=rfl;have e:∀s',Ip (i:Int) g s'=g (((i+1:Nat):Int),s'):=fun k=>gP ⟨oo,trivial⟩;refine(if_pos (by simpa using hi)).trans ?_;have c:s.length<=i:=b;rw[f,gP ⟨oo,hi,fun _=>oo,fun _=>hi,trivial⟩,gP ⟨⟨by show s.length+1<=_; omega,by show(s.length+1)*8<=_; omega⟩,trivial⟩,e,e];show _=g (_,O2 (u5 d) t i s);unfold O2;show(if((u5 d i).2.2.1==t&&!(u5 d i).2.2.2)=true then _ else _)=_;split <;> rfl) (fun i s hi b=>by
  have c:s.length<=i:=b;unfold O2;split
  ·rw[List.length_append]; show s.length+1<=i+1; omega
  ·omega) (fun g s _=>aE) [] (Nat.le_refl _)
theorem Jp(b:j9)(d:wf l9 b)(o:cnt l9 b<=1048576):R5 b=some (p9 b):=by
 have j:=d.1;have h:=d.2.1;have k:=d.2.2.1;unfold R5 p9;rw[r92 b.1 b.2.1 j h (cF (cS o)),vS,gP ⟨rfl,trivial⟩];cases hdo:Hk b.1 b.2.1 with
 | false=>exact if_pos rfl
 | true =>
   have m:=V6 hdo;by_cases a:b.2.2.length=b.2.1.2.1.length
   ·have f:((b.2.2.length:Int) != (b.2.1.2.1.length:Int))=false:=by rw[a]; simp
    rw[f,decide_eq_true a];refine(if_neg (by simp)).trans ?_;have c:=H9 (n:=b.2.2.length) k (fun i=>!Ak (m3 b i) (V4 (u5 b.2.1) i (q9 b.2.1).length)) (some false) (e:=some true) (F:=G0D b) (fun g i hi=>by
     have l:((i:Int)).toNat=i:=rfl;refine(if_pos (by simpa using hi)).trans ?_;rw[l,Wb b.2.1 h m,vS,MG,r93 _ _ (Z3 hi d.2.2),gP ⟨oo,rfl,rfl,trivial⟩,lE,MG,r93 _ _ (Z3 hi d.2.2),vS,gP ⟨oo,trivial⟩]) (fun g=>aE)
    refine c.trans ?_;cases(List.range b.2.2.length).any fun i=>!Ak (m3 b i) (V4 (u5 b.2.1) i (q9 b.2.1).length) <;> rfl
   ·have f:((b.2.2.length:Int) != (b.2.1.2.1.length:Int))=true:=by simp; omega
    rw[f,decide_eq_false a];exact if_pos rfl
theorem X3{b:j9}(h:p9 b=true):Hk b.1 b.2.1=true/\b.2.2.length=b.2.1.2.1.length/\∀i,i<b.2.2.length->Ak (m3 b i) (V4 (u5 b.2.1) i (q9 b.2.1).length)=true:=by
 unfold p9 at h;rw[ba,ba,dq] at h;refine⟨h.1.1,h.1.2,fun i hi=>?_⟩;have:=BS.1 h.2 i hi
 rwa [Bool.not_eq_false'] at this
abbrev y9(d:r9)(t:Int):List Int:=fN (O2 (u5 d) t) (q9 d).length []
def FE(l:List m5)(d:r9)(p:B5):Int:=if p.1<0 then 0 else((l.getD (m7 d p.1.toNat).2.1.toNat (a6 y64)).2.2.1.getD p.2.1.toNat (a6 y233)).2.2.1
theorem QJ{d:r9}{i:Nat}(h:i < (q9 d).length):u5 d i∈q9 d:=H8 h
theorem n0d{l:List m5}(h:Dz l=true){i:Nat}(hi:i<l.length):Bp F7 (S9 l i)=true:=by
 have h:CF _ _ _=true:=h;unfold CF at h;rw[ba] at h;have:=BS.1 h.1 i hi;rw[Bool.or_eq_false_iff,Bool.not_eq_false'] at this;exact this.1
theorem Wc{l:List m5}{d:r9}(e:DF l d){p:B5}(c:p∈q9 d):(p.1 = -1/\0<=p.2.1/\p.2.1.toNat<d.2.2.length) ∨
  (0<=p.1/\p.1.toNat<d.1.length/\0<=(m7 d p.1.toNat).2.1/\(m7 d p.1.toNat).2.1.toNat<l.length/\0<=p.2.1/\p.2.1.toNat < (l.getD (m7 d p.1.toNat).2.1.toNat (a6 y64)).2.2.1.length):=by
 rcases o0B d.1.length d.2.2.length (m7 d) (A9 d) p c with h | ⟨h1,h2,h3,h4⟩
 ·exact .inl h
 ·have a:=e.fac.inst p.1.toNat h2;unfold R9 at a;simp only[ba,beq_iff_eq] at a;have f:=A4.1 a.1.1;have b:=a.1.2;refine .inr ⟨h1,h2,f.1,by omega,h3,?_⟩;have b:((m7 d p.1.toNat).2.2.length:Int)=((l.getD (m7 d p.1.toNat).2.1.toNat (a6 y64)).2.2.1.length:Int):=b;omega
theorem D0J{l:List m5}{d:r9}(b:DF l d){p:B5}(c:p∈q9 d):0<=FE l d p/\FE l d p<=500:=by
 unfold FE;split
 ·exact⟨by decide,by decide⟩
 ·rename_i e;rcases Wc b c with h | ⟨h1,h2,h3,h4,h5,h6⟩
  ·omega
  ·have a:V0 F7 _ _ _ _ _ _ _ _ _=true:=n0d b.lib h4;unfold V0 AG at a;simp only[ba] at a;have:=BS.1 a.1.1.1.1.2.2 p.2.1.toNat h6;rw[Bool.not_eq_false'] at this;unfold Bn at this;rw[ba] at this;exact A4.1 this.1
theorem MR{d:r9}{t:Int}{k:Nat}(h:k < (y9 d t).length):0<=(y9 d t).getD k 0/\((y9 d t).getD k 0).toNat < (q9 d).length:=by
 obtain⟨j,a,b,_⟩:=MI (u5 d) t (q9 d).length _ (H8 (d:=0) h);rw[a];exact⟨Int.natCast_nonneg _,by simpa using b⟩
structure NetOk(b:j9)(i:Nat):Prop where
 df:DF b.1 b.2.1
 lt:i<b.2.2.length
 wf:n0V (m3 b i) ((y9 b.2.1 i).length:Int)
theorem Bq{b:j9}(h:p9 b=true){i:Nat}(hi:i<b.2.2.length):NetOk b i:=by
 obtain⟨a,d,c⟩:=X3 h;refine⟨V6 a,hi,?_⟩;rw[MG];exact r0y (c i hi)
def w9(b:j9)(i k:Nat):Int:=(m3 b i).2.2.2.getD k 0
def X4(b:j9)(i k:Nat):Int:=FE b.1 b.2.1 (u5 b.2.1 ((y9 b.2.1 i).getD k 0).toNat)
def T3(b:j9)(i k:Nat):Int:=(m3 b i).1.getD k 0
def BX(b:j9)(i k:Nat):Int:=(m3 b i).2.1.getD k 0
def z8(b:j9)(i:Nat):List Int:=I0k (m3 b i).2.2.1 (m3 b i).1.length (y9 b.2.1 i).length (w9 b i) (X4 b i) (T3 b i)
theorem NetOk.sn{b:j9}{i:Nat}(h:NetOk b i):(m3 b i).2.2.2.length=(y9 b.2.1 i).length:=by have:=h.wf.snk; omega
theorem NetOk.s78{b:j9}{i:Nat}(h:NetOk b i):(y9 b.2.1 i).length<=78:=by
 have c:=h.df.len;have e:=w0p (u5 b.2.1) i (q9 b.2.1).length;have a:=MG (u5 b.2.1) i (q9 b.2.1).length;have d:((y9 b.2.1 i).length:Int)=V4 (u5 b.2.1) i (q9 b.2.1).length:=a;omega
theorem NetOk.capIn{b:j9}{i:Nat}(h:NetOk b i){k:Nat}(d:k < (y9 b.2.1 i).length):0<=w9 b i k/\(w9 b i k).toNat < (m3 b i).1.length/\0<=X4 b i k/\X4 b i k<=500:=by
 have a:=h.wf.snkIn k (by rw[h.sn]; exact d);have c:=D0J h.df (QJ (MR d).2);exact⟨a.1,a.2,c.1,c.2⟩
theorem NetOk.low{b:j9}{i:Nat}(h:NetOk b i):∀m,m<=(y9 b.2.1 i).length->Low (fN (BT (w9 b i) (X4 b i)) m (m3 b i).2.2.1) (m3 b i).1.length (500*((m3 b i).1.length:Int)+500*(m:Int)):=fun m a=>r0h (D0Y h.wf.cap h.wf.capOk) m (fun k c=>h.capIn (by omega))
theorem NetOk.pull{b:j9}{i:Nat}(h:NetOk b i):∀k,k<=(m3 b i).1.length-1->Jj (fN (X1 (T3 b i) (m3 b i).1.length) k (fN (BT (w9 b i) (X4 b i)) (y9 b.2.1 i).length (m3 b i).2.2.1)) (m3 b i).1.length k 43000:=by
 have a:=h.low _ (Nat.le_refl _);have f:=h.s78;have g:=h.wf.n8;have d:Low (fN (BT (w9 b i) (X4 b i)) (y9 b.2.1 i).length (m3 b i).2.2.1) (m3 b i).1.length 43000:=⟨a.len,a.pos,by have:=a.sum; omega⟩;exact m0I d (by decide) (fun k c e=>h.wf.par k c e)
theorem NetOk.loads{b:j9}{i:Nat}(h:NetOk b i):(z8 b i).length=(m3 b i).1.length/\∀j,0<=(z8 b i).getD j 0/\(z8 b i).getD j 0<=43000:=by
 have:=h.pull _ (Nat.le_refl _);exact⟨this.len,fun j=>⟨this.pos j,this.bd j⟩⟩
abbrev x8(b:j9)(i:Nat):m5:=b.1.getD (m7 b.2.1 i).2.1.toNat (a6 y64)
theorem FF{b:j9}(a:DF b.1 b.2.1){i:Nat}(hi:i<b.2.1.1.length):ix (m7 b.2.1 i).2.1 b.1.length/\Bp F7 (x8 b i)=true/\(m7 b.2.1 i).2.2.length=(x8 b i).2.2.1.length:=by
 have:=a.fac.inst i hi;unfold R9 at this;rw[ba,ba,beq_iff_eq] at this;have c:=A4.1 this.1.1;have d:=this.1.2;have e:((m7 b.2.1 i).2.2.length:Int)=((x8 b i).2.2.1.length:Int):=d;exact⟨⟨c.1,by omega⟩,n0d a.lib (by omega),by omega⟩
theorem FG{c:m5}(h:Bp F7 c=true):2<=c.2.2.1.length/\c.2.2.1.length<=5/\c.2.2.2.1.length<=8/\∀j,j<c.2.2.2.1.length->0<=(m9 c j).2.1/\(m9 c j).2.1 < (c.2.2.1.length:Int)-1/\0<=(m9 c j).2.2.1/\(m9 c j).2.2.1 < (c.2.2.1.length:Int):=by
 have h:V0 F7 _ _ _ _ _ _ _ _ _=true:=h;unfold V0 Hc at h;simp only[ba,dq] at h;have b:=Jc h.1.1.1.1.2;refine⟨b.1,b.2.1,h.1.1.1.2.1,fun j d=>?_⟩;have:=BS.1 h.1.1.1.2.2 j d;rw[Bool.or_eq_false_iff,Bool.not_eq_false'] at this;have a:=this.1;unfold F7 at a;rw[ba,ba] at a;have f:=A4.1 a.1.1;have e:=A4.1 a.1.2;omega
theorem N0V(l:List m5)(d:r9)(b:DF l d){p:B5}(a:p∈q9 d):GG d l p=some (FE l d p):=by
 unfold GG FE;rcases Wc b a with h | ⟨h1,h2,h3,h4,h5,h6⟩
 ·rw[if_pos (by rw[h.1]; decide),if_pos (by omega)]
 ·refine(if_neg (by simp; omega)).trans ?_;rw[if_neg (by omega),gP ⟨oo,⟨h3,by show(m7 d p.1.toNat).2.1<_; omega⟩,⟨h5,by show p.2.1 < (((l.getD (m7 d p.1.toNat).2.1.toNat (a6 y64)).2.2.1.length:Nat):Int); omega⟩,trivial⟩];rfl
theorem N0W(d:r9)(h:wf y31 d){l:List m5}(a:DF l d)(t:Int):Lg d t=some (y9 d t):=by
 have j:=a.len;unfold Lg;rw[QH d h a.fac.ni14 a.fac.np8 a.pin,vS,gP ⟨rfl,trivial⟩,lE];exact lF (n:=(q9 d).length) (by omega) (fun i (s:List Int)=>(s,(i:Int))) (O2 (u5 d) t) (fun i s=>s.length<=i) (J:=fun s=>some s) (F:=B0b t (q9 d)) (fun g i s hi b=>by
  have f:((i:Int)).toNat=i:=rfl;have e:∀s',Pf (i:Int) g s'=g (s',((i+1:Nat):Int)):=fun k=>gP ⟨oo,trivial⟩;refine(if_pos (by simpa using hi)).trans ?_;have c:s.length<=i:=b;rw[f,gP ⟨oo,hi,trivial⟩,lE,gP ⟨⟨by show s.length+1<=_; omega,by show(s.length+1)*8<=_; omega⟩,trivial⟩,e,e];show _=g (O2 (u5 d) t i s,_);unfold O2;show(if((u5 d i).2.2.1==t&&!(u5 d i).2.2.2)=true then _ else _)=_;split <;> rfl) (fun i s hi b=>by
  have c:s.length<=i:=b;unfold O2;split
  ·rw[List.length_append]; show s.length+1<=i+1; omega
  ·omega) (fun g s _=>aE) [] (Nat.le_refl _)
theorem N0X(xs:List Int)(h:xs.length<=1048576):Ph xs=some xs:=gP ⟨oo,trivial⟩
theorem r87(b:j9)(t:wf l9 b){i:Nat}(h:NetOk b i):BL b (i:Int)=some (z8 b i):=by
 have x:=t.2.1;have df:=h.df;have hb:=t.2.2.1;have hi:=h.lt;have n1:=h.wf.n1;have n8:=h.wf.n8;have aA:=h.sn;have hs:=h.s78;have X:=h.wf.cap;unfold BL;have Y:((i:Int)).toNat=i:=rfl;rw[gP ⟨oo,trivial⟩,lE,Y,N0X _ (by show(m3 b i).2.2.1.length<=_; omega),vS,gP ⟨rfl,trivial⟩,lE,QH b.2.1 x df.fac.ni14 df.fac.np8 df.pin,vS,gP ⟨rfl,trivial⟩,lE,N0W b.2.1 x df,vS,gP ⟨rfl,trivial⟩,lE];have q:=lF (n:=(y9 b.2.1 i).length) (by omega) (fun k (s:List Int)=>((k:Int),s)) (BT (w9 b i) (X4 b i)) (fun k v=>Low v (m3 b i).1.length (500*((m3 b i).1.length:Int)+500*(k:Int))) (J:=Pg (m3 b i)) (F:=F0O b (q9 b.2.1) (y9 b.2.1 i) (m3 b i)) (fun g k v c a=>by
  have z:((k:Int)).toNat=k:=rfl;obtain⟨r,o,y,Q⟩:=h.capIn c;obtain⟨E,w⟩:=MR c;have hv:=a.bd (by omega) (w9 b i k).toNat;have j:0<=(m3 b i).2.2.2.getD k 0:=r;have e:((m3 b i).2.2.2.getD k 0).toNat<v.length:=by rw[a.len]; exact o
  refine(if_pos (by simpa using c)).trans ?_;rw[z,gP ⟨oo,c,trivial⟩,N0V b.1 b.2.1 df (QJ w),vS];rw[gP ⟨oo,⟨j,by omega⟩,e,⟨E,by omega⟩,w,rfl,⟨by show _<=v.getD (w9 b i k).toNat 0+X4 b i k; omega,by show v.getD (w9 b i k).toNat 0+X4 b i k<=_; omega⟩,⟨j,by omega⟩,e,trivial⟩,lE];exact gP ⟨oo,trivial⟩) (fun k v c a=>by
  obtain⟨r,o,y,Q⟩:=h.capIn c;have:=a.add o y;refine⟨this.len,this.pos,Int.le_trans this.sum ?_⟩;rw[Int.natCast_add,Int.mul_add];simp only[Int.natCast_one];omega) (fun g s _=>aE) (m3 b i).2.2.1 (by
  have:=h.low 0 (Nat.zero_le _);exact this)
 refine q.trans ?_;have d:=(h.low _ (Nat.le_refl _)).len;have l:=h.pull 0 (Nat.zero_le _);have T:z8 b i=fN (X1 (T3 b i) (m3 b i).1.length) ((m3 b i).1.length-1) (fN (BT (w9 b i) (X4 b i)) (y9 b.2.1 i).length (m3 b i).2.2.1):=rfl;rw[T];have m:=h.pull;generalize fN (BT (w9 b i) (X4 b i)) (y9 b.2.1 i).length (m3 b i).2.2.1=v0 at d l m ⊢;rw[Pg,d,gP ⟨oo,trivial⟩];have W:(((m3 b i).1.length:Int)-1,v0)=(fun(k:Nat) (s:List Int)=>(((m3 b i).1.length:Int)-1-(k:Int),s)) 0 v0:=by simp
 rw[W];exact lF (n:=(m3 b i).1.length-1) (by omega) (fun(k:Nat) (s:List Int)=>(((m3 b i).1.length:Int)-1-(k:Int),s)) (X1 (T3 b i) (m3 b i).1.length) (fun k v=>Jj v (m3 b i).1.length k 43000) (J:=fun s=>some s) (F:=Iz (m3 b i)) (fun g k v c a=>by
  have P:=h.wf.par ((m3 b i).1.length-1-k) (by omega) (by omega);have f:0<=(m3 b i).1.getD ((m3 b i).1.length-1-k) 0/\((m3 b i).1.getD ((m3 b i).1.length-1-k) 0).toNat < (m3 b i).1.length-1-k:=P;have u:=a.len;have V:((m3 b i).1.length:Int)-1-(k:Int)=(((m3 b i).1.length-1-k:Nat):Int):=by omega
  have H:((((m3 b i).1.length-1-k:Nat):Int)).toNat=(m3 b i).1.length-1-k:=rfl;have b1:=a.pos ((m3 b i).1.getD ((m3 b i).1.length-1-k) 0).toNat;have b2:=a.bd ((m3 b i).1.getD ((m3 b i).1.length-1-k) 0).toNat;have b3:=a.pos ((m3 b i).1.length-1-k);have b4:=a.bd ((m3 b i).1.length-1-k);have e8:((m3 b i).1.length:Int)-1-((k+1:Nat):Int)=(((m3 b i).1.length-1-k:Nat):Int)-1:=by omega
  show Iz (m3 b i) g (((m3 b i).1.length:Int)-1-(k:Int),v)=g (((m3 b i).1.length:Int)-1-((k+1:Nat):Int),X1 (T3 b i) (m3 b i).1.length k v);rw[e8,V];refine(if_pos (decide_eq_true (by omega))).trans ?_;rw[H,gP ⟨oo,⟨f.1,by omega⟩,by omega,oo,by omega,oo,⟨f.1,by omega⟩,by omega,trivial⟩,lE];exact gP ⟨oo,trivial⟩) (fun k v c a=>VF a c (h.wf.par _ (by omega) (by omega))) (fun g s _=>by
  have G:((m3 b i).1.length:Int)-1-(((m3 b i).1.length-1:Nat):Int)=0:=by omega
  show Iz (m3 b i) g (((m3 b i).1.length:Int)-1-(((m3 b i).1.length-1:Nat):Int),s)=some s;rw[G];have:Iz (m3 b i) g (0,s)=TK s:=by
   rw[Iz];exact if_neg (by decide)
  exact this.trans rfl) v0 l
def B0(b:j9)(i:Nat):List Int:=E0B (m3 b i).1.length (T3 b i) (BX b i) (fun k=>(z8 b i).getD k 0)
def Z6(b:j9)(i:Nat):List Int:=fN (Hg (B0 b i) (w9 b i)) (y9 b.2.1 i).length []
theorem NetOk.del{b:j9}{i:Nat}(h:NetOk b i):∀k,k<=(m3 b i).1.length-1->(fN (S6 (T3 b i) (BX b i) (fun k=>(z8 b i).getD k 0)) k [0]).length=k+1/\∀j,0<=(fN (S6 (T3 b i) (BX b i) (fun k=>(z8 b i).getD k 0)) k [0]).getD j 0/\(fN (S6 (T3 b i) (BX b i) (fun k=>(z8 b i).getD k 0)) k [0]).getD j 0<=1000*43000*(k:Int) :=
 w0j (n:=(m3 b i).1.length) (fun k a=>h.wf.resIn k a) (fun k _=>h.loads.2 k) (by decide)
theorem NetOk.delays{b:j9}{i:Nat}(h:NetOk b i):(B0 b i).length=(m3 b i).1.length/\∀j,0<=(B0 b i).getD j 0/\(B0 b i).getD j 0<=301000000:=by
 have a:=h.del _ (Nat.le_refl _);have n1:=h.wf.n1;have n8:=h.wf.n8;refine⟨a.1.trans (by omega),fun j=>⟨(a.2 j).1,Int.le_trans (a.2 j).2 (by omega)⟩⟩
theorem N0U(b:j9)(t:wf l9 b){i:Nat}(h:NetOk b i):Li b (i:Int)=some (B0 b i):=by
 have hi:=h.lt;have V:=t.2.2.1;have n1:=h.wf.n1;have n8:=h.wf.n8;have T:=h.wf.res;obtain⟨E,u⟩:=h.loads;have Q:((i:Int)).toNat=i:=rfl;unfold Li;rw[r87 b t h,vS,gP ⟨oo,rfl,trivial⟩,lE,Q];show gd ((0<=((z8 b i).length:Int)/\((z8 b i).length:Int)=((z8 b i).length:Int)/\((z8 b i).length:Int).toNat*8<=281474976710656/\((z8 b i).length:Int)<=9223372036854775807)/\True) (lp (Lh (m3 b i) (z8 b i)) (1,List.replicate ((z8 b i).length:Int).toNat 0))=_;rw[E,gP ⟨⟨by omega,rfl,by omega,by omega⟩,trivial⟩];have P:((1:Int),List.replicate ((m3 b i).1.length:Int).toNat (0:Int))=(fun(k:Nat) (s:List Int)=>(((k+1:Nat):Int),s++List.replicate ((m3 b i).1.length-1-k) 0)) 0 [0]:=by
  show((1:Int),List.replicate (m3 b i).1.length (0:Int))=_;have:(m3 b i).1.length=((m3 b i).1.length-1)+1:=by omega
  rw[this,List.replicate_succ];rfl
 rw[P];refine(lF (n:=(m3 b i).1.length-1) (by omega) (fun(k:Nat) (s:List Int)=>(((k+1:Nat):Int),s++List.replicate ((m3 b i).1.length-1-k) 0)) (S6 (T3 b i) (BX b i) (fun k=>(z8 b i).getD k 0)) (fun k s=>s.length=k+1/\∀j,0<=s.getD j 0/\s.getD j 0<=1000*43000*(k:Int)) (J:=fun s=>some s) (F:=Lh (m3 b i) (z8 b i)) (fun g k s G a=>?_) (fun k s G a=>?_) (fun g s a=>?_) [0] ?_)
 ·obtain⟨e,f⟩:=a;have w:=h.wf.par (k+1) (by omega) (by omega);have o:(s++List.replicate ((m3 b i).1.length-1-k) (0:Int)).length=(m3 b i).1.length:=by rw[List.length_append,List.length_replicate]; omega
  have y:(((k+1:Nat):Int)).toNat=k+1:=rfl;have x:=z0A (n:=(m3 b i).1.length) e w.2;have c:=h.wf.resIn (k+1) (by omega);have d:=u (k+1);have m:=MH c.1 c.2 d.1 d.2;have l:=f ((m3 b i).1.getD (k+1) 0).toNat;show Lh (m3 b i) (z8 b i) g (((k+1:Nat):Int),s++List.replicate ((m3 b i).1.length-1-k) 0)=g (((k+1+1:Nat):Int),S6 (T3 b i) (BX b i) (fun k=>(z8 b i).getD k 0) k s++List.replicate ((m3 b i).1.length-1-(k+1)) 0);have H:S6 (T3 b i) (BX b i) (fun k=>(z8 b i).getD k 0) k s++List.replicate ((m3 b i).1.length-1-(k+1)) 0=(s++List.replicate ((m3 b i).1.length-1-k) 0).set (k+1) (s.getD ((m3 b i).1.getD (k+1) 0).toNat 0+(m3 b i).2.1.getD (k+1) 0*(z8 b i).getD (k+1) 0):=(z0z e (by omega)).symm;rw[H,<- x];generalize s++List.replicate ((m3 b i).1.length-1-k) (0:Int)=v at o x ⊢;refine(if_pos (by simp; omega)).trans ?_;rw[y,gP ⟨oo,⟨w.1,by omega⟩,by omega,oo,oo,by omega,oo,oo,oo,by omega,trivial⟩,lE];exact gP ⟨oo,trivial⟩
 ·obtain⟨e,f⟩:=a;have c:=h.wf.resIn (k+1) (by omega);have d:=u (k+1);have m:=MH c.1 c.2 d.1 d.2;have l:=f (T3 b i (k+1)).toNat;unfold S6;refine⟨by rw[List.length_append,e]; rfl,fun j=>?_⟩;have m:0<=BX b i (k+1)*(z8 b i).getD (k+1) 0/\BX b i (k+1)*(z8 b i).getD (k+1) 0<=1000*43000:=m;rcases Nat.lt_or_ge j s.length with r | r
  ·have:=f j;rw[Jk r]; omega
  ·rw[VG r];cases hjs:j-s.length with
   | zero=>simp only[List.getD_cons_zero]; omega
   | succ q=>simp only[List.getD_cons_succ,List.getD_nil]; omega
 ·have z:(m3 b i).1.length-1-((m3 b i).1.length-1)=0:=by omega
  show Lh (m3 b i) (z8 b i) g ((((m3 b i).1.length-1+1:Nat):Int),s++List.replicate ((m3 b i).1.length-1-((m3 b i).1.length-1)) 0)=some s;rw[z,List.replicate_zero,List.append_nil,<- a.1];exact aE
 ·exact h.del 0 (Nat.zero_le _)
theorem r88(b:j9)(e:wf l9 b){i:Nat}(h:NetOk b i):Fl b (i:Int)=some (Z6 b i):=by
 have hi:=h.lt;have m:=e.2.2.1;have d:=h.sn;have o:=h.s78;obtain⟨r,q⟩:=h.delays;have j:((i:Int)).toNat=i:=rfl;unfold Fl;rw[N0U b e h,vS,gP ⟨rfl,trivial⟩,lE,gP ⟨oo,trivial⟩,lE,j];unfold Z6;rw[<- d];exact lF (n:=(m3 b i).2.2.2.length) (by omega) (fun(k:Nat) (s:List Int)=>(s,(k:Int))) (Hg (B0 b i) (w9 b i)) (fun k s=>s.length=k) (J:=fun s=>some s) (F:=F0M (B0 b i) (m3 b i)) (fun g k s c a=>by
  have f:((k:Int)).toNat=k:=rfl;have l:=h.wf.snkIn k c;have a:s.length=k:=a;refine(if_pos (by simpa using c)).trans ?_;rw[f,gP ⟨oo,trivial⟩,gP ⟨⟨l.1,by omega⟩,by omega,⟨by show s.length+1<=_; omega,by show(s.length+1)*8<=_; omega⟩,trivial⟩,lE];exact gP ⟨oo,trivial⟩) (fun k s c a=>by
  have a:s.length=k:=a;unfold Hg;rw[List.length_append,a]; rfl) (fun g s _=>aE) [] rfl
theorem Hl{b:j9}{i k:Nat}(a:k < (y9 b.2.1 i).length):(Z6 b i).getD k 0=(B0 b i).getD (w9 b i k).toNat 0:=w0b _ _ _ k a
theorem Hm(b:j9)(i:Nat):(Z6 b i).length=(y9 b.2.1 i).length:=VH _ _ _
theorem N0Y(a:B3):Lk a=some (J4 a.1 a.2.2.2.1):=by
 unfold Lk J4;split
 ·rfl
 split
 ·rfl
 split
 ·rfl
 split
 ·rfl
 split
 ·rfl
 ·rfl
theorem r85(b:j9)(x:DF b.1 b.2.1){i:Nat}(hi:i<b.2.1.1.length)(f:Int)(W:0<=f)(X:f<=1000):Fm b (m7 b.2.1 i) f=some (AH f (m9 (x8 b i)) (x8 b i).2.2.2.1.length):=by
 obtain⟨v,T,x3⟩:=FF x hi;obtain⟨r,H,y,o⟩:=FG T;unfold Fm;rw[gP ⟨v,trivial⟩,lE];show lp (TP f (x8 b i)) ([],0)=_;generalize x8 b i=c at r H y o;refine lF (n:=c.2.2.2.1.length) (by omega) (fun(j:Nat) (s:List x6)=>(s,(j:Int))) (S7 f (m9 c)) (fun j s=>s.length<=4*j) (J:=fun s=>some s) (F:=TP f c) (fun g j s l e=>?_) (fun j s l e=>?_) (fun g s _=>aE) [] (Nat.le_refl _)
 ·have q:((j:Int)).toNat=j:=rfl;obtain⟨Q,V,w,t⟩:=o j l;have e:s.length<=4*j:=e;refine(if_pos (by simpa using l)).trans ?_;rw[q,gP ⟨oo,trivial⟩,lE,N0Y,vS,gP ⟨rfl,trivial⟩,lE];show lp (TO f (m9 c j) (j:Int) (J4 (m9 c j).1 (m9 c j).2.2.2.1) g) (0,s)=g (S7 f (m9 c) j s,_);obtain⟨E,m⟩:=QB (m9 c j).1 (m9 c j).2.2.2.1;have G:S7 f (m9 c) j s=fN (Am f (m9 c j).2.1 (m9 c j).2.2.1 (j:Int) (J4 (m9 c j).1 (m9 c j).2.2.2.1)) (J4 (m9 c j).1 (m9 c j).2.2.2.1).length s:=rfl;rw[G];generalize J4 (m9 c j).1 (m9 c j).2.2.2.1=tr at E m;generalize m9 c j=a at Q V w t;refine(lF (n:=tr.length) (by omega) (fun(k:Nat) (s:List x6)=>((k:Int),s)) (Am f a.2.1 a.2.2.1 (j:Int) tr) (fun k z=>z.length=s.length+k) (J:=fun z=>TN (j:Int) g z) (F:=TO f a (j:Int) tr g) (fun u k z h hz=>?_) (fun k z h hz=>?_) (fun u z _=>aE) s rfl).trans ?_
  ·have P:((k:Int)).toNat=k:=rfl;have Y:=m _ (H8 (d:=((0,0):Int×Int)) h);have hz:z.length=s.length+k:=hz;refine(if_pos (by simpa using h)).trans ?_;rw[P,gP ⟨oo,h,trivial⟩,lE];show gd _ _=_;rw[gP ⟨oo,oo,oo,⟨by show _<=2*(f+a.2.1)+(tr.getD k (0,0)).1; omega,by show 2*(f+a.2.1)+(tr.getD k (0,0)).1<=_; omega⟩,oo,oo,oo,⟨by show _<=2*(f+a.2.2.1)+(tr.getD k (0,0)).2; omega,by show 2*(f+a.2.2.1)+(tr.getD k (0,0)).2<=_; omega⟩,⟨by show z.length+1<=_; omega,by show(z.length+1)*32<=_; omega⟩,trivial⟩,lE];exact gP ⟨oo,trivial⟩
  ·have hz:z.length=s.length+k:=hz;unfold Am;rw[List.length_append,hz]; rfl
  ·exact gP ⟨oo,trivial⟩
 ·have e:s.length<=4*j:=e;have:=VI f (m9 c) j s;show _<=4*(j+1);omega
def Br(b:j9)(i:Nat)(s:Int×List x6):Int×List x6:=X2 (fun i=>(m7 b.2.1 i).2.2.length) (fun i=>m9 (x8 b i)) (fun i=>(x8 b i).2.2.2.1.length) i s
def J5(b:j9)(i:Nat):Int:=V5 (u5 b.2.1) i (q9 b.2.1).length
def Jq(b:j9):List x6:=(fN (Br b) b.2.1.1.length (0,[])).2
def lV(b:j9):List x6:=fN (Bo (J5 b) (fun i=>y9 b.2.1 i)) b.2.2.length (Jq b)
def B0V(b:j9):List Int:=fN (AI fun i=>(z8 b i).getD 0 0) b.2.2.length []
def w0i(b:j9):List (List Int):=fN (AI fun i=>Z6 b i) b.2.2.length []
def o5(b:j9):C6:=(b,q9 b.2.1,lV b,B0V b,w0i b,[])
theorem Wd{b:j9}(a:DF b.1 b.2.1)(m:Nat)(c:m<=b.2.1.1.length):0<=(fN (Br b) m (0,[])).1/\(fN (Br b) m (0,[])).1<=5*(m:Int)/\(fN (Br b) m (0,[])).2.length<=32*m :=
 n0k (n:=b.2.1.1.length) (fun i hi=>⟨(a.pin i hi).2,(FG (FF a hi).2.1).2.2.1⟩) m c
def QK(b:j9)(i:Nat)(s:List Int×List (List Int)×List x6):List Int×List (List Int)×List x6:=(s.1++[(z8 b i).getD 0 0],s.2.1++[Z6 b i],Bo (J5 b) (fun i=>y9 b.2.1 i) i s.2.2)
theorem j0Z(b:j9)(z:List x6):∀m,fN (QK b) m ([],[],z)=(fN (AI fun i=>(z8 b i).getD 0 0) m [],fN (AI fun i=>Z6 b i) m [],fN (Bo (J5 b) (fun i=>y9 b.2.1 i)) m z)
 | 0=>rfl
 | m+1=>by
   show QK b m (fN (QK b) m ([],[],z))=_;rw[j0Z b z m]; rfl
theorem r37(b:j9)(hw:wf l9 b)(Y:p9 b=true):Ln b=some (o5 b):=by
 obtain⟨aH,P,aB⟩:=X3 Y;have d:=V6 aH;have hd:=hw.2.1;have aO:=d.fac.ni14;have aN:=d.fac.nn30;have aM:=d.len;have aC:b.2.1.1.length<=9223372036854775807:=by omega
 have eN:∀l,D8 l=some (l.length:Int):=fun _=>rfl;unfold Ln;rw[QH b.2.1 hd d.fac.ni14 d.fac.np8 d.pin,vS,gP ⟨rfl,trivial⟩,lE];refine(lF (n:=b.2.1.1.length) aC (fun(i:Nat) (s:Int×List x6)=>(s.1,(i:Int),s.2)) (Br b) (fun i s=>0<=s.1/\s.1<=5*(i:Int)/\s.2.length<=32*i) (J:=fun s=>Lm (q9 b.2.1) b s.2) (F:=G0G b (q9 b.2.1)) (fun g i s hi j=>?_) (fun i s hi j=>?_) (fun g s _=>aE) (0,[]) ⟨Int.le_refl _,Int.le_refl _,Nat.le_refl _⟩).trans ?_
 ·have G:((i:Int)).toNat=i:=rfl;obtain⟨f,z⟩:=s;obtain⟨e,i2,i3⟩:=j;have e:0<=f:=e;have i2:f<=5*(i:Int):=i2;have i3:z.length<=32*i:=i3;have hp:=d.pin i hi;have aG:=MJ f (m9 (x8 b i)) (x8 b i).2.2.2.1.length;have aD:=(FG (FF d hi).2.1).2.2.1;refine(if_pos (by grind)).trans ?_;rw[G,gP ⟨oo,trivial⟩,lE];show gd ((Fm b (m7 b.2.1 i) f).isSome=true/\_/\True) _=_;rw[r85 b d hi f e (by omega),vS,gP ⟨rfl,oo,trivial⟩,lE];show gd ((D8 (m7 b.2.1 i).2.2).isSome=true/\j0 (f+vl (D8 (m7 b.2.1 i).2.2))/\True) _=_;rw[eN,vS,gP ⟨rfl,oo,trivial⟩,lE];exact gP ⟨oo,trivial⟩
 ·obtain⟨f,z⟩:=s;obtain⟨e,i2,i3⟩:=j;have e:0<=f:=e;have i2:f<=5*(i:Int):=i2;have i3:z.length<=32*i:=i3;have hp:=d.pin i hi;have aG:=MJ f (m9 (x8 b i)) (x8 b i).2.2.2.1.length;have aD:=(FG (FF d hi).2.1).2.2.1;refine⟨by show 0<=f+((m7 b.2.1 i).2.2.length:Int); omega,by show f+((m7 b.2.1 i).2.2.length:Int)<=_; omega,?_⟩;show(z++AH f (m9 (x8 b i)) (x8 b i).2.2.2.1.length).length<=_
  grind
 have hz:=(Wd d _ (Nat.le_refl _)).2.2;have aF:Jq b=(fN (Br b) b.2.1.1.length (0,[])).2:=rfl;unfold o5 lV B0V w0i;rw[aF];generalize (fN (Br b) b.2.1.1.length (0,[])).2=z at hz;show Lm (q9 b.2.1) b z=_;have aK:b.2.2.length<=30:=by omega
 rw[Lm,gP ⟨⟨by omega,rfl,by omega,by omega⟩,trivial⟩,gP ⟨⟨by omega,rfl,by omega,by omega⟩,trivial⟩];show lp (TU (q9 b.2.1) b z) (0,List.replicate b.2.2.length [],List.replicate b.2.2.length 0)=_;have h:∀i,i < (q9 b.2.1).length->m0 (u5 b.2.1 i).2.2.1 0 ((b.2.2.length:Int)-1)=true:=fun i hi=>by rw[P]; exact d.plc _ (QJ hi)
 have gf:=n0n (u5 b.2.1) b.2.2.length;refine(lF (n:=(q9 b.2.1).length) (by omega) (fun(i:Nat) (s:List (List Int)×List Int)=>((i:Int),s.1,s.2)) (Z1 (u5 b.2.1)) (fun i s=>s.1.length=b.2.2.length/\s.2.length=b.2.2.length/\∀k:Nat,(s.1.getD k []).length<=i) (J:=fun s=>TT b (q9 b.2.1) z s) (F:=TU (q9 b.2.1) b z) (fun g i s hi j=>?_) (fun i s hi j=>?_) (fun g s _=>aE) (List.replicate b.2.2.length [],List.replicate b.2.2.length 0) ⟨List.length_replicate,List.length_replicate,fun k=>?_⟩).trans ?_
 ·obtain⟨a,c⟩:=s;obtain⟨W,H,w⟩:=j;have W:a.length=b.2.2.length:=W;have H:c.length=b.2.2.length:=H;have w:∀k:Nat,(a.getD k []).length<=i:=w;have hp:=A4.1 (h i hi);have G:((i:Int)).toNat=i:=rfl;have j4:∀x y,Pj (i:Int) g (x,y)=g (((i+1:Nat):Int),y,x):=fun x y=>gP ⟨oo,trivial⟩;have g4:=w (u5 b.2.1 i).2.2.1.toNat;refine(if_pos (by grind)).trans ?_;rw[G,gP ⟨oo,hi,trivial⟩,lE];show(if(u5 b.2.1 i).2.2.2=true then _ else _)=g (_,(Z1 (u5 b.2.1) i (a,c)).1,(Z1 (u5 b.2.1) i (a,c)).2);unfold Z1;cases(u5 b.2.1 i).2.2.2 with
  | true =>
    rw[if_pos rfl,if_pos rfl];show gd (ix (u5 b.2.1 i).2.2.1 c.length/\_/\True) _=_;rw[gP ⟨oo,by grind,trivial⟩,j4]
  | false =>
    rw[if_neg (by simp),if_neg (by simp)];show gd (ix (u5 b.2.1 i).2.2.1 a.length/\_) _=_;rw[gP ⟨oo,by grind,⟨by grind,by grind⟩,⟨by grind,by grind⟩,⟨by grind,rfl⟩,trivial⟩,lE,j4]
 ·obtain⟨a,c⟩:=s;obtain⟨W,H,w⟩:=j;have W:a.length=b.2.2.length:=W;have H:c.length=b.2.2.length:=H;have w:∀k:Nat,(a.getD k []).length<=i:=w;have hp:=A4.1 (h i hi);unfold Z1
  grind[List.length_set,VK,List.length_append]
 ·grind
 obtain⟨gl,dl,u⟩:=gf (q9 b.2.1).length h;generalize fN (Z1 (u5 b.2.1)) (q9 b.2.1).length (List.replicate b.2.2.length [],List.replicate b.2.2.length 0)=s at gl dl u;obtain⟨a,c⟩:=s;have gl:a.length=b.2.2.length:=gl;have dl:c.length=b.2.2.length:=dl;have aJ:∀k:Nat,k<b.2.2.length->a.getD k []=y9 b.2.1 k:=fun k E=>(u k E).1;have aA:∀k:Nat,k<b.2.2.length->c.getD k 0=J5 b k:=fun k E=>(u k E).2;show lp (TS c a b (q9 b.2.1)) (0,[],[],z)=_;refine(lF (n:=b.2.2.length) (by omega) (fun(i:Nat) (s:List Int×List (List Int)×List x6)=>((i:Int),s.1,s.2.1,s.2.2)) (QK b) (fun i s=>s.1.length=i/\s.2.1.length=i/\s.2.2.length<=500+160*i) (J:=fun s=>some (b,q9 b.2.1,s.2.2,s.1,s.2.1,[])) (F:=TS c a b (q9 b.2.1)) (fun g i s hi j=>?_) (fun i s hi j=>?_) (fun g s _=>aE) ([],[],z) ⟨rfl,rfl,by grind⟩).trans ?_
 ·obtain⟨o,q,r⟩:=s;obtain⟨e,i2,i3⟩:=j;have e:o.length=i:=e;have i2:q.length=i:=i2;have i3:r.length<=500+160*i:=i3;have m:=Bq Y hi;have n1:=m.wf.n1;have V:=m.s78;have aL:=m.loads.1;have G:((i:Int)).toNat=i:=rfl;refine(if_pos (by grind)).trans ?_;rw[r87 b hw m,vS,gP ⟨rfl,oo,by omega,⟨by grind,by grind⟩,trivial⟩,lE,r88 b hw m,vS,gP ⟨rfl,⟨by grind,by grind⟩,trivial⟩,lE,gP ⟨oo,trivial⟩];have X:=aJ i hi;have aI:=aA i hi;have T:=VJ (u5 b.2.1) i (q9 b.2.1).length;have T:0<=J5 b i/\J5 b i<=((q9 b.2.1).length:Int):=T;show lp (GH c (i:Int) a q (Z6 b i) o (z8 b i) g) (0,r)=g (_,o++[(z8 b i).getD 0 0],q++[Z6 b i],Bo (J5 b) (fun i=>y9 b.2.1 i) i r);refine(lF (n:=(y9 b.2.1 i).length) (by omega) (fun(k:Nat) (s:List x6)=>((k:Int),s)) (BU (J5 b i) (y9 b.2.1 i)) (fun k y=>y.length=r.length+2*k) (J:=fun y=>TQ (i:Int) g (q++[Z6 b i],o++[(z8 b i).getD 0 0],y)) (F:=GH c (i:Int) a q (Z6 b i) o (z8 b i) g) (fun v k y E hy=>?_) (fun k y E hy=>?_) (fun v y _=>?_) r rfl).trans ?_
  ·have hy:y.length=r.length+2*k:=hy;obtain⟨k1,k2⟩:=MR E;have e4:((k:Int)).toNat=k:=rfl;show GH c (i:Int) a q (Z6 b i) o (z8 b i) g v ((k:Int),y)=_;rw[GH,G,X,if_pos (by grind),gP ⟨oo,trivial⟩];show _=v (_,BU (J5 b i) (y9 b.2.1 i) k y);refine(lF (n:=2) (by decide) (fun(t:Nat) (x:List x6)=>((t:Int),x)) (VM (J5 b i) ((y9 b.2.1 i).getD k 0) (k:Int)) (fun t x=>x.length=y.length+t) (J:=fun x=>TR (k:Int) v x) (F:=Ll c (i:Int) a (k:Int) v) (fun Q t x ht hx=>?_) (fun t x ht hx=>?_) (fun Q x _=>?_) y rfl).trans ?_
   ·have hx:x.length=y.length+t:=hx;show Ll c (i:Int) a (k:Int) v Q ((t:Int),x)=_;rw[Ll,G,e4,X,aI,if_pos (decide_eq_true (by omega)),gP ⟨oo,by omega,oo,oo,oo,oo,⟨by grind,by grind⟩,trivial⟩,lE];exact gP ⟨oo,trivial⟩
   ·grind[VM,List.length_append]
   ·grind[Ll]
   ·exact gP ⟨oo,trivial⟩
  ·grind[VN]
  ·show GH c (i:Int) a q (Z6 b i) o (z8 b i) g v (((y9 b.2.1 i).length:Int),y)=_
   grind[GH]
  ·exact gP ⟨oo,trivial⟩
 ·obtain⟨o,q,r⟩:=s;obtain⟨e,i2,i3⟩:=j;have e:o.length=i:=e;have i2:q.length=i:=i2;have i3:r.length<=500+160*i:=i3;have V:=(Bq Y hi).s78;refine⟨by show(o++_).length=_; grind,by show(q++_).length=_; grind,?_⟩;show(Bo (J5 b) (fun i=>y9 b.2.1 i) i r).length<=_;unfold Bo
  grind[QC]
 ·rw[j0Z]
end Go.Proofs.YtdjgagoledoaaaaGreatDoor
end
section
namespace Go.Proofs.Xd
open Go Go.Proofs Go.Proofs.Xl
def z7(x:Nat->F1):Nat->Nat
 | 0=>0
 | i+1=>z7 x i+(x i).2.2.length
theorem n0j(x:F1)(i:Int)(d:B5)(s:List B5):∀n k,k<n->(fN (V3 x i) n s).getD (s.length+k) d=(i,(k:Int),x.2.2.getD k 0,(k:Int)==(x.2.2.length:Int)-1)
 | n+1,k,h=>by
   have a:=Hf x i s n;have b:=n0j x i d s n k
   grind[V3,fN]
theorem n0i(x:F1)(i:Int)(d:B5)(s:List B5):∀n j,j<s.length->(fN (V3 x i) n s).getD j d=s.getD j d
 | 0,_,_=>rfl
 | n+1,j,h=>by
   have a:=Hf x i s n;have b:=n0i x i d s n j h
   grind[V3,fN,Jk]
theorem MS(x:Nat->F1):∀n,(fN (P4 x) n []).length=z7 x n
 | 0=>rfl
 | n+1=>by
   have:=MS x n;show(P4 x n (fN (P4 x) n [])).length=_;unfold P4;rw[Hf];show(fN (P4 x) n []).length+_=_;rw[this]; rfl
theorem i0e(x:Nat->F1)(d:B5):∀n i k,i<n->k < (x i).2.2.length->(fN (P4 x) n []).getD (z7 x i+k) d=((i:Int),(k:Int),(x i).2.2.getD k 0,(k:Int)==((x i).2.2.length:Int)-1)
 | n+1,i,k,hi,hk=>by
   have a:=MS x n;have b:=i0e x d n i k;show(P4 x n (fN (P4 x) n [])).getD _ d=_;generalize fN (P4 x) n []=z at a b;unfold P4;rcases Nat.lt_or_ge i n with h | h
   ·have c:z7 x i+k<z.length:=by
     rw[a];have:∀m,i<m->z7 x i+(x i).2.2.length<=z7 x m:=by
      intro m
      induction m with
      | zero=>omega
      | succ m b =>
        grind[z7,Nat.lt_or_ge]
     have:=this n h;omega
    grind[n0i]
   grind[n0j]
theorem m0J(y:Nat->O1)(d:B5)(s:List B5):∀n j,j<s.length->(fN (Q7 y) n s).getD j d=s.getD j d
 | 0,_,_=>rfl
 | n+1,j,h=>by
   have a:=MF y s n;have b:=m0J y d s n j h
   grind[Q7,fN,Jk]
theorem m0K(y:Nat->O1)(d:B5)(s:List B5):∀n k,k<n->(fN (Q7 y) n s).getD (s.length+k) d=(-1,(k:Int),(y k).2.2,(y k).2.1==1)
 | n+1,k,h=>by
   have a:=MF y s n;have b:=m0K y d s n k
   grind[Q7,fN]
theorem q0o(x:Nat->F1):∀n j,j<z7 x n->∃i k,i<n/\k < (x i).2.2.length/\j=z7 x i+k
 | n+1,j,h=>by
   have h:j<z7 x n+(x n).2.2.length:=h;rcases Nat.lt_or_ge j (z7 x n) with a | a
   ·obtain⟨i,k,d,c,b⟩:=q0o x n j a;exact⟨i,k,by omega,c,b⟩
   ·exact⟨n,j-z7 x n,by omega,by omega,by omega⟩
theorem MT(x:Nat->F1){i n k:Nat}(hi:i<n)(b:k < (x i).2.2.length):z7 x i+k<z7 x n:=by
 induction n with
 | zero=>omega
 | succ n a =>
   grind[z7,Nat.lt_or_ge]
theorem Jr(ni np:Nat)(x:Nat->F1)(y:Nat->O1):(M4 ni np x y).length=z7 x ni+np:=by
 grind[M4,MF,MS]
theorem QL(ni np:Nat)(x:Nat->F1)(y:Nat->O1)(d:B5){i k:Nat}(hi:i<ni)(a:k < (x i).2.2.length):(M4 ni np x y).getD (z7 x i+k) d=((i:Int),(k:Int),(x i).2.2.getD k 0,(k:Int)==((x i).2.2.length:Int)-1):=by
 grind[M4,m0J,MS,MT,i0e]
theorem i0d(ni np:Nat)(x:Nat->F1)(y:Nat->O1)(d:B5){k:Nat}(a:k<np):(M4 ni np x y).getD (z7 x ni+k) d=(-1,(k:Int),(y k).2.2,(y k).2.1==1):=by
 grind[M4,MS,m0K]
theorem s0f(ni np:Nat)(x:Nat->F1)(y:Nat->O1)(d:B5){i k:Nat}(hi:i<ni)(f:k < (x i).2.2.length){j:Nat}(a:j < (M4 ni np x y).length):(((M4 ni np x y).getD j d).1==(i:Int)&&((M4 ni np x y).getD j d).2.1==(k:Int))=decide (j=z7 x i+k):=by
 rw[Bool.eq_iff_iff,ba,beq_iff_eq,beq_iff_eq,dq];rw[Jr] at a;constructor
 ·rintro⟨b,c⟩;rcases Nat.lt_or_ge j (z7 x ni) with h | h
  ·grind[q0o,QL,Int.ofNat.inj]
  ·have e:j=z7 x ni+(j-z7 x ni):=by omega
   rw[e,i0d ni np x y d (by omega)] at b;omega
 grind[QL]
def V7(P:Nat->Bool)(m:Nat):Nat:=fN (fun i s=>if P i=true then s+1 else s) m 0
theorem DB(P:Nat->Bool)(m:Nat):V7 P (m+1)=if P m=true then V7 P m+1 else V7 P m:=rfl
theorem r0a{P:Nat->Bool}:∀{m i:Nat},i<m->P i=true->1<=V7 P m
 | m+1,i,h,hp=>by
   rw[DB];rcases Nat.lt_or_ge i m with a | a
   ·have:=r0a a hp; split <;> omega
   grind
theorem We{P:Nat->Bool}:∀{m i j:Nat},i<j->j<m->P i=true->P j=true->2<=V7 P m
 | m+1,i,j,h1,h2,hi,hj=>by
   rw[DB];rcases Nat.lt_or_ge j m with a | a
   ·have:=We h1 a hi hj; split <;> omega
   ·have:j=m:=by omega
    subst this;have:=r0a h1 hi
    grind
theorem w0r{P:Nat->Bool}:∀{m:Nat},1<=V7 P m->∃i,i<m/\P i=true
 | 0,h=>by grind[V7,fN]
 | m+1,h=>by
   rw[DB] at h;by_cases a:P m=true
   ·grind
   ·rw[if_neg a] at h;obtain⟨i,b,c⟩:=w0r h
    grind
def X5(pl:Nat->B5)(t:Int)(j:Nat):Bool:=(pl j).2.2.1==t&&(pl j).2.2.2
theorem n0x{pl:Nat->B5}{t:Int}:∀{m i:Nat},i<m->X5 pl t i=true->(∀j,i<j->j<m->X5 pl t j=false)->V5 pl t m=(i:Int)
 | m+1,i,h,hi,hn=>by
   have e:V5 pl t (m+1)=if X5 pl t m=true then(m:Int) else V5 pl t m:=rfl
   rw[e];rcases Nat.lt_or_ge i m with a | a
   ·rw[if_neg (by grind)];exact n0x a hi (fun j b c=>hn j b (by omega))
   grind
theorem w0e{pl:Nat->B5}{t:Int}{m:Nat}(h:V7 (X5 pl t) m=1):∃i,i<m/\X5 pl t i=true/\(∀j,j<m->X5 pl t j=decide (j=i))/\V5 pl t m=(i:Int):=by
 obtain⟨i,d,b⟩:=w0r (Nat.le_of_eq h.symm);have f:∀j,j<m->X5 pl t j=true->j=i:=fun j c g=>by
  rcases Nat.lt_trichotomy i j with a | a | a
  ·grind[We]
  ·omega
  grind[We]
 refine⟨i,d,b,fun j c=>?_,n0x d b (fun j e c=>?_)⟩
 ·grind
 grind
theorem r0b(P:Nat->Bool)(m:Nat):∀n,V7 P (m+n)=V7 P m+V7 (fun i=>P (m+i)) n
 | 0=>rfl
 | n+1=>by
   rw[<- Nat.add_assoc,DB,DB,r0b P m n];split <;> omega
theorem w0q{P:Nat->Bool}{n:Nat}(h:∀i,i<n->P i=false):V7 P (n+1)=if P n=true then 1 else 0:=by
 have:∀m,m<=n->V7 P m=0:=by
  intro m
  induction m with
  | zero=>intro _; rfl
  | succ m a=>intro b; rw[DB,h m (by omega),if_neg (by simp),a (by omega)]
 rw[DB,this n (Nat.le_refl _)]
theorem q0K{ni np:Nat}{x:Nat->F1}{y:Nat->O1}{d:B5}{a:Nat}(h:∀i,i<ni->1<=(x i).2.2.length/\m0 ((x i).2.2.getD ((x i).2.2.length-1) 0) 0 ((a:Int)-1)=true):∀n,n<=ni->(fN (V2 x) n (List.replicate a 0)).length=a/\∀t:Nat,t<a->(fN (V2 x) n (List.replicate a 0)).getD t 0=(V7 (X5 (fun j=>(M4 ni np x y).getD j d) t) (z7 x n):Nat)
 | 0,_=>⟨List.length_replicate,fun t f=>by
   show(List.replicate a (0:Int)).getD t 0=_;rw[gq,List.getElem?_replicate,if_pos f]; rfl⟩
 | n+1,hn=>by
   obtain⟨s,q⟩:=q0K (np:=np) (y:=y) (d:=d) h n (by omega);obtain⟨w,c⟩:=h n (by omega);have c:=A4.1 c;have e:fN (V2 x) (n+1) (List.replicate a 0)=V2 x n (fN (V2 x) n (List.replicate a 0)):=rfl;rw[e];generalize fN (V2 x) n (List.replicate a 0)=v at s q;unfold V2 BR;refine⟨by grind,fun t f=>?_⟩;rw[VK (by omega)];show _=((V7 _ (z7 x n+(x n).2.2.length):Nat):Int);rw[r0b];have l:∀k,k < (x n).2.2.length->X5 (fun j=>(M4 ni np x y).getD j d) t (z7 x n+k)=((x n).2.2.getD k 0==(t:Int)&&(k:Int)==((x n).2.2.length:Int)-1):=fun k l=>by
    grind[X5,M4,z7,QL]
   obtain⟨m,g⟩:∃m,(x n).2.2.length=m+1:=⟨(x n).2.2.length-1,by omega⟩;have b:(x n).2.2.length-1=m:=by omega
   rw[b] at c;rw[b,g,w0q (fun i hi=>by grind),l m (by omega),g];have r:((m:Int)==((m+1:Nat):Int)-1)=true:=by simp
   rw[r,Bool.and_true];have o:((x n).2.2.getD m 0==(t:Int))=decide (t=((x n).2.2.getD m 0).toNat):=by
    rw[Bool.eq_iff_iff,beq_iff_eq,dq];omega
   rw[o];by_cases u:t=((x n).2.2.getD m 0).toNat
   ·grind
   grind
theorem q0i{ni np:Nat}{x:Nat->F1}{y:Nat->O1}{d:B5}{a:Nat}(c:∀i,i<ni->1<=(x i).2.2.length/\m0 ((x i).2.2.getD ((x i).2.2.length-1) 0) 0 ((a:Int)-1)=true)(b:∀i,i<np->m0 (y i).2.2 0 ((a:Int)-1)=true):∀n,n<=np->(fN (M9 y) n (fN (V2 x) ni (List.replicate a 0))).length=a/\∀t:Nat,t<a->(fN (M9 y) n (fN (V2 x) ni (List.replicate a 0))).getD t 0=(V7 (X5 (fun j=>(M4 ni np x y).getD j d) t) (z7 x ni+n):Nat)
 | 0,_=>q0K c ni (Nat.le_refl _)
 | n+1,hn=>by
   obtain⟨k,g⟩:=q0i (d:=d) c b n (by omega);have o:=A4.1 (b n (by omega));have e:fN (M9 y) (n+1) (fN (V2 x) ni (List.replicate a 0))=M9 y n (fN (M9 y) n (fN (V2 x) ni (List.replicate a 0))):=rfl;rw[e];generalize fN (M9 y) n (fN (V2 x) ni (List.replicate a 0))=v at k g;have h:∀t:Nat,X5 (fun j=>(M4 ni np x y).getD j d) t (z7 x ni+n)=((y n).2.2==(t:Int)&&(y n).2.1==1):=fun t=>by
    grind[X5,M4,z7,i0d]
   have f:∀t:Nat,((y n).2.2==(t:Int))=decide (t=(y n).2.2.toNat):=fun t=>by
    grind
   unfold M9;split
   ·rename_i l;unfold BR;refine⟨by grind,fun t m=>?_⟩;rw[VK (by omega),<- Nat.add_assoc,DB,h,f,l]
    grind
   grind[Nat.add_assoc,DB]
def Hn(f:Int)(a:F0)(j:Nat)(t:Nat):x6:=(2*(f+a.2.1)+((J4 a.1 a.2.2.2.1).getD t (0,0)).1,2*(f+a.2.2.1)+((J4 a.1 a.2.2.2.1).getD t (0,0)).2,1,(j:Int))
def DC(d s:Int)(k t:Nat):x6:=(2*d+(t:Int),2*s+(t:Int),2,(k:Int))
theorem k0B{f a b x:Int}{tr:List (Int×Int)}{s:List x6}{l:x6}:∀k,l∈fN (Am f a b x tr) k s->l∈s∨∃t,t<k/\l=(2*(f+a)+(tr.getD t (0,0)).1,2*(f+b)+(tr.getD t (0,0)).2,1,x)
 | 0,h=>.inl h
 | k+1,h=>by
   rcases List.mem_append.1 (show l∈fN (Am f a b x tr) k s++[_] from h) with h | h
   ·rcases k0B k h with h | ⟨t,ht,e⟩
    ·exact .inl h
    ·exact .inr ⟨t,by omega,e⟩
   ·exact .inr ⟨k,by omega,List.mem_singleton.1 h⟩
theorem n0J{f:Int}{a:Nat->F0}{s:List x6}{l:x6}:∀m,l∈fN (S7 f a) m s->l∈s∨∃j t,j<m/\t < (J4 (a j).1 (a j).2.2.2.1).length/\l=Hn f (a j) j t
 | 0,h=>.inl h
 | m+1,h=>by
   rcases k0B _ (show l∈fN (Am f _ _ (m:Int) _) _ (fN (S7 f a) m s) from h) with h | ⟨t,ht,e⟩
   ·rcases n0J m h with h | ⟨j,t,hj,ht,e⟩
    ·exact .inl h
    ·exact .inr ⟨j,t,by omega,ht,e⟩
   ·exact .inr ⟨m,t,by omega,ht,e⟩
theorem Wf{a:Nat->Nat}{b:Nat->Nat->F0}{c:Nat->Nat}{x:Nat->F1}(d:∀i,a i=(x i).2.2.length):∀m,(fN (X2 a b c) m (0,[])).1=(z7 x m:Int)
 | 0=>rfl
 | m+1=>by
   show(fN (X2 a b c) m (0,[])).1+(a m:Int)=((z7 x m+(x m).2.2.length:Nat):Int);rw[Wf d m,d m]; omega
theorem k0q{b:Nat->Nat}{a:Nat->Nat->F0}{c:Nat->Nat}{x:Nat->F1}(d:∀i,b i=(x i).2.2.length){l:x6}:∀m,l∈(fN (X2 b a c) m (0,[])).2->∃i j t,i<m/\j<c i/\t < (J4 (a i j).1 (a i j).2.2.2.1).length/\l=Hn (z7 x i:Int) (a i j) j t
 | 0,h=>by cases h
 | m+1,h=>by
   rcases List.mem_append.1 (show l∈(fN (X2 b a c) m (0,[])).2++AH _ _ _ from h) with h | h
   ·obtain⟨i,j,t,hi,f⟩:=k0q d m h;exact⟨i,j,t,by omega,f⟩
   ·rcases n0J _ h with h | ⟨j,t,hj,ht,e⟩
    ·cases h
    ·rw[Wf d m] at e;exact⟨m,j,t,by omega,hj,ht,e⟩
theorem j0x{d:Int}{a:List Int}{z:List x6}{l:x6}:∀k,l∈fN (BU d a) k z->l∈z∨∃j t,j<k/\t<2/\l=DC d (a.getD j 0) j t
 | 0,h=>.inl h
 | k+1,h=>by
   have h:l∈(fN (BU d a) k z++[DC d (a.getD k 0) k 0])++[DC d (a.getD k 0) k 1]:=h;rcases List.mem_append.1 h with h | h
   ·rcases List.mem_append.1 h with h | h
    ·rcases j0x k h with h | ⟨j,t,hj,ht,e⟩
     ·exact .inl h
     ·exact .inr ⟨j,t,by omega,ht,e⟩
    ·exact .inr ⟨k,0,by omega,by omega,List.mem_singleton.1 h⟩
   ·exact .inr ⟨k,1,by omega,by omega,List.mem_singleton.1 h⟩
theorem m0V{d:Nat->Int}{a:Nat->List Int}{z:List x6}{l:x6}:∀m,l∈fN (Bo d a) m z->l∈z∨∃i j t,i<m/\j < (a i).length/\t<2/\l=DC (d i) ((a i).getD j 0) j t
 | 0,h=>.inl h
 | m+1,h=>by
   rcases j0x _ (show l∈fN (BU (d m) (a m)) _ (fN (Bo d a) m z) from h) with h | ⟨j,t,hj,ht,e⟩
   ·rcases m0V m h with h | ⟨i,j,t,hi,hr⟩
    ·exact .inl h
    ·exact .inr ⟨i,j,t,by omega,hr⟩
   ·exact .inr ⟨m,j,t,by omega,hj,ht,e⟩
theorem Wg(f a b x:Int)(tr:List (Int×Int))(s:List x6):∀k,fN (Am f a b x tr) k s=s++fN (Am f a b x tr) k []
 | 0=>(List.append_nil _).symm
 | k+1=>by
   show fN (Am f a b x tr) k s++[_]=s++(fN (Am f a b x tr) k []++[_]);rw[Wg f a b x tr s k,List.append_assoc]
theorem n0K(f:Int)(a:Nat->F0)(s:List x6):∀m,fN (S7 f a) m s=s++AH f a m
 | 0=>(List.append_nil _).symm
 | m+1=>by
   show S7 f a m (fN (S7 f a) m s)=s++S7 f a m (AH f a m);rw[n0K f a s m];unfold S7;rw[Wg,Wg _ _ _ _ _ (AH f a m),List.append_assoc]
end Go.Proofs.Xd
end
section
namespace Go.Proofs.YtdjgagoledoaaaaGreatDoor
open Go Go.Proofs Go.Proofs.Sv Go.Proofs.Xv Go.Proofs.Xl Go.Proofs.Xd
theorem Wh(l:List x6)(f t a b k i:Int)(g:0<=f/\f<=1000)(c:0<=t/\t<=1000)(h:0<=a/\a<=1)(e:0<=b/\b<=1)(d:l.length<=100000):Fe l f t a b k i=some (l++[(2*f+a,2*t+b,k,i)]) :=
 gP ⟨oo,oo,oo,oo,⟨by show l.length+1<=_; omega,by show(l.length+1)*32<=_; omega⟩,trivial⟩
def I0t(k s:Int)(x y:Nat):Bool:=if(k==1)=true then s==3||(s==1)==((x:Int)==(y:Int)) else if(k==2)=true then(x:Int)==0 else if(k==3)=true then(x:Int)==1 else false
def Bs(k s f t i:Int)(x y:Nat)(l:List x6):List x6:=if I0t k s x y=true then l++[(2*f+(x:Int),2*t+(y:Int),1,i)] else l
theorem r0o(k s f t i:Int)(x y:Nat)(l:List x6):(Bs k s f t i x y l).length<=l.length+1:=by
 unfold Bs;split
 ·rw[List.length_append]; exact Nat.le_refl _
 ·omega
theorem n0P(k s f t i:Int)(x:Nat)(l:List x6):∀n,(fN (Bs k s f t i x) n l).length<=l.length+n
 | 0=>Nat.le_refl _
 | n+1=>by
   have h:=n0P k s f t i x l n;have:=r0o k s f t i x n (fN (Bs k s f t i x) n l);show(Bs k s f t i x n (fN (Bs k s f t i x) n l)).length<=_;omega
theorem r73(a:B3)(l:List x6)(f t i:Int)(r:0<=f/\f<=1000)(m:0<=t/\t<=1000)(u:l.length<=90000):GB l a f t i=some (fN (fun x s=>fN (Bs a.1 a.2.2.2.1 f t i x) 2 s) 2 l):=by
 unfold GB;refine lF (n:=2) (by decide) (fun(x:Nat) (s:List x6)=>((x:Int),s)) (fun x s=>fN (Bs a.1 a.2.2.2.1 f t i x) 2 s) (fun x s=>s.length<=l.length+2*x) (J:=fun s=>some s) (F:=ON f t i a) (fun g x s q b=>?_) (fun x s q b=>?_) (fun g s _=>by
  show ON f t i a g (((2:Nat):Int),s)=_;rw[ON];exact if_neg (by decide)) l (Nat.le_refl _)
 ·have b:s.length<=l.length+2*x:=b;refine(if_pos (decide_eq_true (by omega))).trans ?_;refine(lF (n:=2) (by decide) (fun(y:Nat) (s:List x6)=>((y:Int),s)) (Bs a.1 a.2.2.2.1 f t i x) (fun y s=>s.length<=l.length+2*x+y) (J:=fun s=>Tw (x:Int) g s) (F:=OM f t (x:Int) i a g) (fun c y s o b=>?_) (fun y s o b=>?_) (fun c s _=>by
   show OM f t (x:Int) i a g c (((2:Nat):Int),s)=_;rw[OM];exact if_neg (by decide)) s b).trans ?_
  ·have b:s.length<=l.length+2*x+y:=b;have k:∀v,OL (y:Int) c v=c (((y+1:Nat):Int),v):=fun v=>gP ⟨oo,trivial⟩;have e:∀v,Ff (y:Int) s f t (x:Int) i c v=c (((y+1:Nat):Int),if v=true then s++[(2*f+(x:Int),2*t+(y:Int),1,i)] else s):=fun v=>by
    cases v with
    | true=>rw[Ff,if_pos rfl,if_pos rfl,Wh s f t x y 1 i r m (by omega) (by omega) (by omega),gP ⟨rfl,trivial⟩,vS,lE,k]
    | false=>rw[Ff,if_neg (by simp),if_neg (by simp),k]
   refine(if_pos (decide_eq_true (by omega))).trans ?_;show _=c (((y+1:Nat):Int),Bs a.1 a.2.2.2.1 f t i x y s);unfold Bs I0t;rw[e,e,e,e];by_cases h:(a.1==1)=true
   ·rw[if_pos h,if_pos h]
   rw[if_neg h,if_neg h];by_cases d:(a.1==2)=true
   ·rw[if_pos d,if_pos d]
   rw[if_neg d,if_neg d];by_cases j:(a.1==3)=true
   ·rw[if_pos j,if_pos j]
   rw[if_neg j,if_neg j]
  ·have b:s.length<=l.length+2*x+y:=b;have:=r0o a.1 a.2.2.2.1 f t i x y s;omega
  ·exact gP ⟨oo,trivial⟩
 ·have b:s.length<=l.length+2*x:=b;have:=n0P a.1 a.2.2.2.1 f t i x s 2;omega
theorem Vz{k s:Int}(h:(k=1/\(s=1∨s=2∨s=3))∨k=2∨k=3)(a A B i:Int)(l:List x6):fN (fun x z=>fN (Bs k s (a+A) (a+B) i x) 2 z) 2 l=fN (Am a A B i (J4 k s)) (J4 k s).length l:=by
 rcases h with ⟨rfl,rfl | rfl | rfl⟩ | rfl | rfl <;> rfl
theorem k0u{b:Nat->Bool}{n m:Nat}(d:m<n)(c:b m=true)(e:∀j,j<m->b j=false):(List.range n).find? b=some m:=by
 rw[List.find?_range_eq_some];refine⟨c,List.mem_range.2 d,fun j a=>?_⟩;rw[e j a]; rfl
theorem r74(d:r9)(o:wf y31 d){l:List m5}(c:DF l d){i k:Nat}(hi:i<d.1.length)(h:k < (m7 d i).2.2.length):Y7 d (i:Int) (k:Int)=some ((z7 (m7 d) i+k:Nat):Int)/\z7 (m7 d) i+k < (q9 d).length:=by
 have q:=c.len;have a:z7 (m7 d) i+k < (q9 d).length:=by
  have:=MT (m7 d) hi h;unfold q9;rw[Jr]; omega
 refine⟨?_,a⟩;unfold Y7;rw[DA d o c.fac.ni14 c.fac.np8 c.pin,vS,gP ⟨rfl,trivial⟩,lE];have f:∀j,j < (q9 d).length->((u5 d j).1==(i:Int)&&(u5 d j).2.1==(k:Int))=decide (j=z7 (m7 d) i+k):=fun j b=>s0f d.1.length d.2.2.length (m7 d) (A9 d) (a6 y151) hi h b;have e:=CH (n:=(q9 d).length) (by omega) (fun j=>(u5 d j).1==(i:Int)&&(u5 d j).2.1==(k:Int)) (F:=ZE (q9 d) (i:Int) (k:Int)) (fun g j b=>by
  have m:((j:Int)).toNat=j:=rfl;refine(if_pos (by simpa using b)).trans ?_;rw[m,gP ⟨oo,b,(fun _=>oo),(fun _=>b),trivial⟩,gP ⟨oo,trivial⟩]) (fun g=>aE)
 refine e.trans ?_;rw[k0u a (by rw[f _ a,decide_eq_true rfl]) (fun j b=>by rw[f j (by omega)]; exact decide_eq_false (by omega))]
theorem w0f{b:j9}(k:p9 b=true){t:Nat}(q:t<b.2.2.length):V7 (X5 (u5 b.2.1) t) (q9 b.2.1).length=1:=by
 obtain⟨j,h,_⟩:=X3 k;have e:=V6 j;have f:CG _ _ _ _ _ _ _ _ _=true:=j;unfold CG at f;rw[ba] at f;have m:∀i,i<b.2.1.1.length->1<=(m7 b.2.1 i).2.2.length/\m0 ((m7 b.2.1 i).2.2.getD ((m7 b.2.1 i).2.2.length-1) 0) 0 ((b.2.1.2.1.length:Int)-1)=true:=fun i hi=>by
  have c:=(e.pin i hi).1;exact⟨c,e.fac.net.1 i hi _ (by omega)⟩
 obtain⟨l,n⟩:=q0i (d:=a6 y151) m (fun i hi=>e.fac.net.2 i hi) b.2.1.2.2.length (Nat.le_refl _);have a:=Jh (p:=fun x=>x==1) f.2 (i:=t) (by
  unfold FB;rw[l]; omega)
 have c:(FB b.2.1.1.length b.2.1.2.2.length b.2.1.2.1.length (m7 b.2.1) (A9 b.2.1)).getD t 0=1:=beq_iff_eq.1 a;have g:=n t (by omega);unfold FB at c;rw[c] at g;have o:(q9 b.2.1).length=z7 (m7 b.2.1) b.2.1.1.length+b.2.1.2.2.length:=Jr _ _ _ _;rw[o];exact Int.ofNat.inj g.symm
theorem r75(b:j9)(m:wf l9 b)(e:p9 b=true){t:Nat}(f:t<b.2.2.length):KE b.2.1 (t:Int)=some (J5 b t)/\0<=J5 b t/\(J5 b t).toNat < (q9 b.2.1).length:=by
 have c:=V6 (X3 e).1;have s:=c.len;obtain⟨i,o,h,r,l⟩:=w0e (w0f e f);have q:J5 b t=(i:Int):=l;refine⟨?_,by omega,by omega⟩;unfold KE;rw[DA b.2.1 m.2.1 c.fac.ni14 c.fac.np8 c.pin,vS,gP ⟨rfl,trivial⟩,lE];have d:=CH (n:=(q9 b.2.1).length) (by omega) (X5 (u5 b.2.1) t) (F:=Zz (q9 b.2.1) (t:Int)) (fun g j a=>by
  have k:((j:Int)).toNat=j:=rfl;refine(if_pos (by simpa using a)).trans ?_;rw[k,gP ⟨oo,a,(fun _=>oo),(fun _=>a),trivial⟩,gP ⟨oo,trivial⟩];rfl) (fun g=>aE)
 refine d.trans ?_;rw[k0u o h (fun j a=>by rw[r j (by omega)]; exact decide_eq_false (by omega)),q]
theorem n0N{c:m5}(h:Bp F7 c=true){j:Nat}(a:j<c.2.2.2.1.length):F7 c.2.2.1.length (r6 c) (m9 c j)=true:=by
 grind[V0,F7,Hc]
theorem r0n{n:Nat}{p:Nat->O0}{a:F0}(h:F7 n p a=true)(c:a.1<=3):((a.1=1/\(a.2.2.2.1=1∨a.2.2.2.1=2∨a.2.2.2.1=3))∨a.1=2∨a.1=3)/\F2 a.2.2.2.2.1 true=true/\F2 a.2.2.2.2.2 true=true:=by
 unfold F7 at h;simp only[ba] at h;obtain⟨_,h⟩:=h;by_cases b:a.1=1
 ·rw[if_pos b] at h;simp only[ba] at h
  grind[A4]
 grind
theorem r0Q{k s:Int}(h:3<k):J4 k s=[]:=by
 grind[J4]
theorem r0R{k s:Int}(h:0 < (J4 k s).length):k=1∨k=2∨k=3:=by
 grind[J4]
def Ho(b:j9)(i:Nat)(s:List x6):List x6:=s++AH (z7 (m7 b.2.1) i) (m9 (x8 b i)) (x8 b i).2.2.2.1.length
theorem Wi(b:j9):∀n,fN (Ho b) n []=(fN (Br b) n (0,[])).2
 | 0=>rfl
 | n+1=>by
   show Ho b n (fN (Ho b) n [])=(fN (Br b) n (0,[])).2++AH (fN (Br b) n (0,[])).1 (m9 (x8 b n)) (x8 b n).2.2.2.1.length;have a:(fN (Br b) n (0,[])).1=(z7 (m7 b.2.1) n:Int):=Wf (fun _=>rfl) n;rw[Wi b n,a]; rfl
theorem r0T{b:j9}(a:DF b.1 b.2.1){t:Int}{k:Nat}(c:k < (y9 b.2.1 t).length):0<=(y9 b.2.1 t).getD k 0/\(y9 b.2.1 t).getD k 0<=1000:=by
 have:=MR c;have:=a.len;omega
theorem MU(b:j9)(P:wf l9 b)(r:p9 b=true):u32 b=some (lV b):=by
 obtain⟨H,h,w⟩:=X3 r;have d:=V6 H;have Q:=P.2.1;have aC:=d.fac.ni14;have aB:=d.fac.nn30;have aA:=d.len;unfold u32;refine(lF (n:=b.2.1.1.length) (by omega) (fun(i:Nat) (s:List x6)=>((i:Int),s)) (Ho b) (fun i s=>s.length<=32*i) (J:=OO b) (F:=ZJ b) (fun g i s hi a=>?_) (fun i s hi a=>?_) (fun g s _=>aE) [] (Nat.le_refl _)).trans ?_
 ·have a:s.length<=32*i:=a;have e3:((i:Int)).toNat=i:=rfl;obtain⟨V,t,x3⟩:=FF d hi;obtain⟨c1,c2,c3,c4⟩:=FG t;have c:=fun k e=>r74 b.2.1 Q d (i:=i) (k:=k) hi e;refine(if_pos (by grind)).trans ?_;rw[e3,gP ⟨oo,V,trivial⟩,lE];refine(lF (n:=(x8 b i).2.2.2.1.length) (by omega) (fun(j:Nat) (z:List x6)=>((j:Int),z)) (S7 (z7 (m7 b.2.1) i) (m9 (x8 b i))) (fun j z=>z.length<=s.length+4*j) (J:=Tz (i:Int) g) (F:=ZI (x8 b i) b (i:Int) g) (fun l j z G hz=>?_) (fun j z G hz=>?_) (fun l z _=>aE) s (Nat.le_refl _)).trans ?_
  ·have hz:z.length<=s.length+4*j:=hz;have u:((j:Int)).toNat=j:=rfl;obtain⟨a1,a2,a3,a4⟩:=c4 j G;have ha:=n0N t G;have W:∀v,KF (j:Int) l v=l (((j+1:Nat):Int),v):=fun v=>gP ⟨oo,trivial⟩;refine(if_pos (by grind)).trans ?_;rw[u,gP ⟨oo,trivial⟩];show(if decide ((m9 (x8 b i) j).1<=3)=true then _ else _)=l (((j+1:Nat):Int),S7 (z7 (m7 b.2.1) i) (m9 (x8 b i)) j z);by_cases e:(m9 (x8 b i) j).1<=3
   ·refine(if_pos (decide_eq_true e)).trans ?_;obtain⟨Y,k2,k3⟩:=r0n ha e;obtain⟨A,hA⟩:∃A:Nat,(m9 (x8 b i) j).2.1=(A:Int):=⟨(m9 (x8 b i) j).2.1.toNat,by omega⟩;obtain⟨B,hB⟩:∃B:Nat,(m9 (x8 b i) j).2.2.1=(B:Int):=⟨(m9 (x8 b i) j).2.2.1.toNat,by omega⟩;obtain⟨fA,lA⟩:=c A (by omega);obtain⟨fB,lB⟩:=c B (by omega);have X:=r73 (m9 (x8 b i) j) z ((z7 (m7 b.2.1) i+A:Nat):Int) ((z7 (m7 b.2.1) i+B:Nat):Int) (j:Int) (by omega) (by omega) (by omega);have T:=Vz Y (z7 (m7 b.2.1) i:Int) (A:Int) (B:Int) (j:Int) z;rw[<- Int.natCast_add,<- Int.natCast_add] at T;rw[T] at X;show gd (ix (j:Int) (x8 b i).2.2.2.1.length/\ix (j:Int) (x8 b i).2.2.2.1.length/\(Y7 b.2.1 (i:Int) (m9 (x8 b i) j).2.1).isSome=true/\ix (j:Int) (x8 b i).2.2.2.1.length/\(Y7 b.2.1 (i:Int) (m9 (x8 b i) j).2.2.1).isSome=true/\(GB z (m9 (x8 b i) j) (vl (Y7 b.2.1 (i:Int) (m9 (x8 b i) j).2.1)) (vl (Y7 b.2.1 (i:Int) (m9 (x8 b i) j).2.2.1)) (j:Int)).isSome=true/\True) (lt (vl (GB z (m9 (x8 b i) j) (vl (Y7 b.2.1 (i:Int) (m9 (x8 b i) j).2.1)) (vl (Y7 b.2.1 (i:Int) (m9 (x8 b i) j).2.2.1)) (j:Int))) fun v=>KF (j:Int) l v)=_;rw[hA,hB,fA,fB,vS,vS,X,vS,gP ⟨oo,oo,rfl,oo,rfl,rfl,trivial⟩,lE,W]
    grind[S7]
   ·refine(if_neg (by grind)).trans ?_;rw[W];unfold S7;rw[r0Q (by omega)];rfl
  ·grind[VI]
  ·rw[n0K];exact gP ⟨oo,trivial⟩
 ·have a:s.length<=32*i:=a;obtain⟨V,t,x3⟩:=FF d hi;have c3:=(FG t).2.2.1;have:=MJ (z7 (m7 b.2.1) i) (m9 (x8 b i)) (x8 b i).2.2.2.1.length
  grind[Ho,List.length_append]
 ·have f:(fN (Ho b) b.2.1.1.length []).length<=500:=by
   have:=Wd d b.2.1.1.length (Nat.le_refl _);rw[Wi];omega
  have x:fN (Ho b) b.2.1.1.length []=Jq b:=Wi b _;unfold lV;rw[x] at f ⊢;generalize Jq b=z at f ⊢;unfold OO;rw[h];refine lF (n:=b.2.1.2.1.length) (by omega) (fun(i:Nat) (s:List x6)=>((i:Int),s)) (Bo (J5 b) (fun i=>y9 b.2.1 i)) (fun i s=>s.length<=500+160*i) (J:=fun s=>some s) (F:=ZH b) (fun g i s hi a=>?_) (fun i s hi a=>?_) (fun g s _=>aE) z f
  ·have a:s.length<=500+160*i:=a;have q:i<b.2.2.length:=by omega
   have m:=(Bq r q).s78;obtain⟨d1,d2,d3⟩:=r75 b P r q;have es:U7 b.2.1 (i:Int)=some (y9 b.2.1 i):=Wb b.2.1 Q d _;refine(if_pos (by grind)).trans ?_;rw[d1,vS,gP ⟨rfl,trivial⟩,lE,es,vS,gP ⟨rfl,trivial⟩,lE];refine(lF (n:=(y9 b.2.1 i).length) (by omega) (fun(k:Nat) (y:List x6)=>((k:Int),y)) (BU (J5 b i) (y9 b.2.1 i)) (fun k y=>y.length=s.length+2*k) (J:=Tx (i:Int) g) (F:=ZG (J5 b i) (y9 b.2.1 i) (i:Int) g) (fun g8 k y e E=>?_) (fun k y e E=>?_) (fun g8 y _=>aE) s rfl).trans ?_
   ·have E:y.length=s.length+2*k:=E;have u:((k:Int)).toNat=k:=rfl;have o:=r0T d e;have p1:=Wh y (J5 b i) ((y9 b.2.1 i).getD k 0) 0 0 2 (k:Int) (by omega) o oo oo (by omega);have p2:=Wh (y++[(2*J5 b i+0,2*(y9 b.2.1 i).getD k 0+0,2,(k:Int))]) (J5 b i) ((y9 b.2.1 i).getD k 0) 1 1 2 (k:Int) (by omega) o oo oo (by grind);refine(if_pos (by grind)).trans ?_;rw[u,p1,vS,gP ⟨oo,e,rfl,trivial⟩,lE,p2,vS,gP ⟨oo,e,rfl,trivial⟩,lE];exact gP ⟨oo,trivial⟩
   ·grind[VN]
   ·exact gP ⟨oo,trivial⟩
  ·have a:s.length<=500+160*i:=a;have m:=(Bq r (show i<b.2.2.length by omega)).s78;unfold Bo
   grind[QC]
theorem Q8{b:j9}(a:p9 b=true):(lV b).length<=6000:=by
 have d:=V6 (X3 a).1;have f:=d.fac.ni14;have j:=Wd d b.2.1.1.length (Nat.le_refl _);have g:=q0B (J5 b) (fun i=>y9 b.2.1 i) (Jq b) (n:=b.2.2.length) (c:=78) (fun i hi=>(Bq a hi).s78) b.2.2.length (Nat.le_refl _);have k:=(X3 a).2.1;have e:=d.fac.nn30;have h:(Jq b).length=(fN (Br b) b.2.1.1.length (0,[])).2.length:=rfl
 grind[lV]
theorem Wj{b:j9}{l:x6}(h:l∈lV b):(∃i j t,i<b.2.1.1.length/\j < (x8 b i).2.2.2.1.length/\t < (J4 (m9 (x8 b i) j).1 (m9 (x8 b i) j).2.2.2.1).length/\l=Hn (z7 (m7 b.2.1) i:Int) (m9 (x8 b i) j) j t) ∨
  ∃i k t,i<b.2.2.length/\k < (y9 b.2.1 i).length/\t<2/\l=DC (J5 b i) ((y9 b.2.1 i).getD k 0) k t:=by
 rcases m0V _ h with h | h
 ·exact .inl (k0q (fun _=>rfl) _ h)
 grind
end Go.Proofs.YtdjgagoledoaaaaGreatDoor
end
section
namespace Go.Proofs.Xd
open Go Go.Proofs.Xv Go.Proofs.Xl
theorem z0Q{xs:List Int}(h:G6 xs=true):∀i,0<i->i<xs.length->xs.getD (i-1) 0<xs.getD i 0:=by
 simp only[G6,ba,dq] at h;intro i a hi;have:=BS.1 h.2 i hi;simp only[Bool.and_eq_false_iff,decide_eq_false_iff_not] at this;omega
theorem w0E{xs:List Int}(h:G6 xs=true):∀k i,i+k<xs.length->0<k->xs.getD i 0<xs.getD (i+k) 0:=by
 intro k
 induction k with
 | zero=>intro i _ d; omega
 | succ k c =>
   intro i hi _;have a:=z0Q h (i+(k+1)) (by omega) hi;have e:i+(k+1)-1=i+k:=by omega
   rw[e] at a;by_cases b:k=0
   ·subst b; exact a
   ·have:=c i (by omega) (by omega); omega
theorem CI{xs:List Int}(h:G6 xs=true){i j:Nat}(a:i<j)(b:j<xs.length):xs.getD i 0<xs.getD j 0:=by
 have:=w0E h (j-i) i (by omega) (by omega);have e:i+(j-i)=j:=by omega
 rwa [e] at this
theorem MV{xs:List Int}(h:G6 xs=true){i:Nat}(hi:i<xs.length):0<=xs.getD i 0/\xs.getD i 0<=100000:=by
 simp only[G6,ba,dq] at h;have a:=h.1.2;rw[List.all_eq_true] at a;have e:xs.getD i 0=xs[i]:=by rw[gq,List.getElem?_eq_getElem hi]; rfl
 rw[e];exact A4.1 (a _ (List.getElem_mem hi))
theorem p0M{t:Dv}(h:C8 t=true){i:Nat}(hi:i<t.2.2.length) : -1000000<=t.2.2.getD i 0/\t.2.2.getD i 0<=1000000:=by
 simp only[C8,ba,dq] at h;have a:=h.2;rw[List.all_eq_true] at a;have e:t.2.2.getD i 0=t.2.2[i]:=by rw[gq,List.getElem?_eq_getElem hi]; rfl
 rw[e];exact A4.1 (a _ (List.getElem_mem hi))
theorem w0F{xs:List Int}(h:G6 xs=true){x:Int}(_:xs.getD 0 0<=x)(o:x<=xs.getD (xs.length-1) 0):∃p,p<xs.length/\(∀i,i<p->xs.getD i 0<x)/\(∀i,p<=i->i<xs.length->x<=xs.getD i 0):=by
 have c:∀m,m<=xs.length->(∃p,p<m/\(∀i,i<p->xs.getD i 0<x)/\x<=xs.getD p 0)∨∀i,i<m->xs.getD i 0<x:=by
  intro m
  induction m with
  | zero=>exact fun _=>.inr fun i hi=>by omega
  | succ m j =>
    intro n;rcases j (by omega) with ⟨p,e,a,d⟩ | a
    ·exact .inl ⟨p,by omega,a,d⟩
    ·by_cases k:x<=xs.getD m 0
     ·exact .inl ⟨m,by omega,a,k⟩
     ·exact .inr fun i hi=>by
       by_cases b:i=m
       ·subst b; omega
       ·exact a i (by omega)
 have l:=CE h;rcases c xs.length (Nat.le_refl _) with ⟨p,e,a,d⟩ | a
 ·refine⟨p,e,a,fun i g hi=>?_⟩;by_cases f:p=i
  ·subst f; exact d
  ·have:=CI h (by omega:p<i) hi; omega
 ·have:=a (xs.length-1) (by omega); omega
theorem FH{a ρ:Type}{F:(a->Option ρ)->a->Option ρ}{s:a}{r:Option ρ}(k:Nat)(b:k<=9223372036854775807)(h:∀n,J6 F (n+k) s=r):lp F s=r:=by
 have e:V8=(V8-k)+k:=by have:=QM b; omega
 unfold lp;rw[e];exact h _
theorem D0S(i j:Nat):((i:Int)+(j:Int)).fdiv ((2:Int) ^ Int.toNat (1:Int))=((((i+j) / 2:Nat)):Int):=by
 have e:(2:Int) ^ Int.toNat (1:Int)=2:=by decide
 rw[e,Int.fdiv_eq_ediv_of_nonneg _ (by omega)];omega
theorem K9{x y A B:Int}(f : -A<=x)(c:x<=A)(a:0<=y)(e:y<=B)(b:0<=A) : -(A*B)<=x*y/\x*y<=A*B:=by
 have g:x*y<=A*y:=Int.mul_le_mul_of_nonneg_right c a;have h:A*y<=A*B:=Int.mul_le_mul_of_nonneg_left e b;have d : -A*y<=x*y:=Int.mul_le_mul_of_nonneg_right f a;rw[Int.neg_mul] at d;omega
theorem QN{p q b a:Nat}(c:p<b)(e:q<a):p*a+q<b*a:=by
 have d:(p+1)*a<=b*a:=Nat.mul_le_mul_right _ c;rw[Nat.add_mul,Nat.one_mul] at d;omega
end Go.Proofs.Xd
end
section
namespace Go.Proofs.Xd
open Go Go.Proofs Go.Proofs.Xl
def u6(a b m:Int):Int:=if(decide (a.tmod b<0)&&m==0)=true then a.tdiv b-1 else if(decide (0<a.tmod b)&&m==1)=true then a.tdiv b+1 else a.tdiv b
theorem FI{a b K:Int}(m:Int)(c:0<b)(r : -(K*b)<=a)(j:a<=K*b) : -K<=u6 a b m/\u6 a b m<=K:=by
 have e:=Int.mul_tdiv_add_tmod a b;have o:=Int.tmod_lt_of_pos a c;have n:=Int.lt_tmod_of_pos a c;have k:b*K=K*b:=Int.mul_comm _ _;have d:∀q:Int,b*q<b*K+b->q<=K:=fun q h=>by
  have:b*q<b*(K+1):=by rw[Int.mul_add,Int.mul_one]; exact h
  have:=Int.lt_of_mul_lt_mul_left this (Int.le_of_lt c);omega
 have f:∀q:Int,-(b*K)-b<b*q -> -K<=q:=fun q h=>by
  have:b*(-K-1)<b*q:=by rw[Int.mul_sub,Int.mul_one,Int.mul_neg]; exact h
  have:=Int.lt_of_mul_lt_mul_left this (Int.le_of_lt c);omega
 have g:∀q:Int,b*q<b*K->q<K:=fun q h=>Int.lt_of_mul_lt_mul_left h (Int.le_of_lt c);have i:∀q:Int,-(b*K)<b*q -> -K<q:=fun q h=>by
  have:b*(-K)<b*q:=by rw[Int.mul_neg]; exact h
  exact Int.lt_of_mul_lt_mul_left this (Int.le_of_lt c)
 have l:=d (a.tdiv b) (by omega);have s:=f (a.tdiv b) (by omega);unfold u6;split
 ·rename_i h;rw[ba,dq] at h;have:=i (a.tdiv b) (by omega);omega
 ·split
  ·rename_i h;rw[ba,dq] at h;have:=g (a.tdiv b) (by omega);omega
  ·omega
theorem Wk{a ρ:Type}{F:(a->Option ρ)->a->Option ρ}{J:a->Option ρ}(d:a->Nat)(I:a->Prop)(c:a->Bool)(nx:a->a)
  (e:∀g s,I s->F g s=if c s=true then g (nx s) else J s) (j:∀s,I s->c s=true->I (nx s)/\d (nx s)<d s) (s:a) (b:I s) (t:d s<=9223372036854775806):∃s',I s'/\c s'=false/\lp F s=J s':=by
 have f:∀(n:Nat) (s:a),d s<=n->I s->∃s',I s'/\c s'=false/\∀k,J6 F (k+(n+1)) s=J s':=by
  intro n
  induction n with
  | zero =>
    intro s o b;cases hc:c s with
    | true=>have:=(j s b hc).2; omega
    | false=>exact⟨s,b,hc,fun k=>by show F (J6 F k) s=_; rw[e _ _ b,hc]; rfl⟩
  | succ n m =>
    intro s o b;cases hc:c s with
    | true =>
      obtain⟨h,l⟩:=j s b hc;obtain⟨s',i,q,r⟩:=m (nx s) (by omega) h;refine⟨s',i,q,fun k=>?_⟩;show F (J6 F (k+(n+1))) s=_;rw[e _ _ b,hc,if_pos rfl];exact r k
    | false=>exact⟨s,b,hc,fun k=>by show F (J6 F (k+(n+1))) s=_; rw[e _ _ b,hc]; rfl⟩
 obtain⟨s',h,l,i⟩:=f (d s) s (Nat.le_refl _) b;exact⟨s',h,l,FH (d s+1) (by omega) i⟩
def Bt(n r:Int):Prop:=0<=r/\r*r<=n/\n < (r+1)*(r+1)
theorem D0s{a b:Int}(c:0<=a)(h:a<=b):a*a<=b*b:=Int.mul_le_mul h h c (Int.le_trans c h)
theorem Wl{a b:Int}(c:0<=a)(h:a<b):a*a<b*b:=by
 have:=Int.mul_le_mul (show a+1<=b by omega) (show a+1<=b by omega) (by omega) (by omega);have e:(a+1)*(a+1)=a*a+2*a+1:=by rw[Int.add_mul,Int.mul_add,Int.one_mul,Int.mul_one]; omega
 omega
theorem q0C{a b:Int}(d:0<=b)(h:a*a<b*b):a<b:=by
 by_cases c:a<b
 ·exact c
 ·have:=D0s d (show b<=a by omega); omega
theorem Wm{l h:Int}(b:0<=l)(a:l<h):(l+h+1).tdiv 2=(l+h+1) / 2/\l < (l+h+1) / 2/\(l+h+1) / 2<=h:=by
 refine⟨Int.tdiv_eq_ediv_of_nonneg (by omega),by omega,by omega⟩
end Go.Proofs.Xd
end
section
namespace Go.Proofs.YtdjgagoledoaaaaGreatDoor
open Go Go.Proofs Go.Proofs.Xv Go.Proofs.Xl Go.Proofs.Xd
theorem V9(a b m:Int)(h : -1000000000000000000<=a)(i:a<=1000000000000000000)(d:0<b):BM a b m=some (u6 a b m)/\W4 a b m=some (u6 a b m):=by
 have j:a.tdiv b<=1000000000000000000 /\ -1000000000000000000<=a.tdiv b:=by
  have k:(a.tdiv b).natAbs<=a.natAbs:=by
   rw[Int.natAbs_tdiv];exact Nat.div_le_self _ _
  omega
 have f:j0 (a.tdiv b-1)/\True:=⟨oo,trivial⟩;have g:j0 (a.tdiv b+1)/\True:=⟨oo,trivial⟩;unfold BM W4 u6;rw[gP (V:=0<b/\0<b/\True) ⟨d,d,trivial⟩,gP (V:=0<b/\True) ⟨d,trivial⟩,gP (V:=0<b/\True) ⟨d,trivial⟩,gP f,gP g,Bool.and_comm (m==0),Bool.and_comm (m==1)];by_cases c:(decide (a.tmod b<0)&&m==0)=true
 ·rw[if_pos c,if_pos c]; exact⟨rfl,rfl⟩
 ·by_cases e:(decide (0<a.tmod b)&&m==1)=true
  ·rw[if_neg c,if_pos e,if_neg c,if_pos e]; exact⟨rfl,rfl⟩
  ·rw[if_neg c,if_neg e,if_neg c,if_neg e]; exact⟨rfl,rfl⟩
end Go.Proofs.YtdjgagoledoaaaaGreatDoor
end
section
namespace Go.Proofs.YtdjgagoledoaaaaGreatDoor
open Go Go.Proofs Go.Proofs.Sv Go.Proofs.Xv Go.Proofs.Xl Go.Proofs.Xd
theorem N0B(l:List m5)(d:r9)(b:DF l d){p:B5}(a:p∈q9 d):Gv l d p=some (FE l d p):=by
 unfold Gv FE;rcases Wc b a with h | ⟨h1,h2,h3,h4,h5,h6⟩
 ·grind
 ·refine(if_neg (by grind)).trans ?_;rw[if_neg (by omega),gP ⟨oo,⟨h3,by grind⟩,⟨h5,by grind⟩,trivial⟩];rfl
theorem N0R(xs:List Int)(h:xs.length<=1048576):L3 xs=some xs:=gP ⟨oo,trivial⟩
theorem M0d(b:j9)(t:wf l9 b){i:Nat}(h:NetOk b i):AA b (i:Int)=some (z8 b i):=by
 have x:=t.2.1;have df:=h.df;have hb:=t.2.2.1;have hi:=h.lt;have n1:=h.wf.n1;have n8:=h.wf.n8;have aA:=h.sn;have hs:=h.s78;have Y:=h.wf.cap;unfold AA;have e3:((i:Int)).toNat=i:=rfl;have Q:U7 b.2.1 (i:Int)=some (y9 b.2.1 i):=Wb b.2.1 x df _;rw[gP ⟨oo,trivial⟩,lE,e3,N0R _ (by grind),vS,gP ⟨rfl,trivial⟩,lE,DA b.2.1 x df.fac.ni14 df.fac.np8 df.pin,vS,gP ⟨rfl,trivial⟩,lE,Q,vS,gP ⟨rfl,trivial⟩,lE];have q:=lF (n:=(y9 b.2.1 i).length) (by omega) (fun k (s:List Int)=>((k:Int),s)) (BT (w9 b i) (X4 b i)) (fun k v=>Low v (m3 b i).1.length (500*((m3 b i).1.length:Int)+500*(k:Int))) (J:=OG (m3 b i)) (F:=Zj b (q9 b.2.1) (y9 b.2.1 i) (m3 b i)) (fun g k v c a=>by
  have z:((k:Int)).toNat=k:=rfl;obtain⟨r,o,y,T⟩:=h.capIn c;obtain⟨E,w⟩:=MR c;have hv:=a.bd (by omega) (w9 b i k).toNat;have j:0<=(m3 b i).2.2.2.getD k 0:=r;have e:((m3 b i).2.2.2.getD k 0).toNat<v.length:=by rw[a.len]; exact o
  refine(if_pos (by grind)).trans ?_;rw[z,N0B b.1 b.2.1 df (QJ w),vS];rw[gP ⟨oo,⟨j,by omega⟩,e,oo,c,⟨E,by omega⟩,w,rfl,⟨by grind[w9,X4],by grind[w9,X4]⟩,⟨j,by omega⟩,e,trivial⟩,lE];exact gP ⟨oo,trivial⟩) (fun k v c a=>by
  obtain⟨r,o,y,T⟩:=h.capIn c;have:=a.add o y;refine⟨this.len,this.pos,Int.le_trans this.sum ?_⟩;omega) (fun g s _=>aE) (m3 b i).2.2.1 (by
  have:=h.low 0 (Nat.zero_le _);exact this)
 refine q.trans ?_;have d:=(h.low _ (Nat.le_refl _)).len;have l:=h.pull 0 (Nat.zero_le _);have V:z8 b i=fN (X1 (T3 b i) (m3 b i).1.length) ((m3 b i).1.length-1) (fN (BT (w9 b i) (X4 b i)) (y9 b.2.1 i).length (m3 b i).2.2.1):=rfl;rw[V];have m:=h.pull;generalize fN (BT (w9 b i) (X4 b i)) (y9 b.2.1 i).length (m3 b i).2.2.1=v0 at d l m ⊢;rw[OG,d,gP ⟨oo,trivial⟩];have X:(((m3 b i).1.length:Int)-1,v0)=(fun(k:Nat) (s:List Int)=>(((m3 b i).1.length:Int)-1-(k:Int),s)) 0 v0:=by simp
 rw[X];exact lF (n:=(m3 b i).1.length-1) (by omega) (fun(k:Nat) (s:List Int)=>(((m3 b i).1.length:Int)-1-(k:Int),s)) (X1 (T3 b i) (m3 b i).1.length) (fun k v=>Jj v (m3 b i).1.length k 43000) (J:=fun s=>some s) (F:=Iq (m3 b i)) (fun g k v c a=>by
  have P:=h.wf.par ((m3 b i).1.length-1-k) (by omega) (by omega);have f:0<=(m3 b i).1.getD ((m3 b i).1.length-1-k) 0/\((m3 b i).1.getD ((m3 b i).1.length-1-k) 0).toNat < (m3 b i).1.length-1-k:=P;have u:=a.len;have W:((m3 b i).1.length:Int)-1-(k:Int)=(((m3 b i).1.length-1-k:Nat):Int):=by omega
  have H:((((m3 b i).1.length-1-k:Nat):Int)).toNat=(m3 b i).1.length-1-k:=rfl;have b1:=a.pos ((m3 b i).1.getD ((m3 b i).1.length-1-k) 0).toNat;have b2:=a.bd ((m3 b i).1.getD ((m3 b i).1.length-1-k) 0).toNat;have b3:=a.pos ((m3 b i).1.length-1-k);have b4:=a.bd ((m3 b i).1.length-1-k);have e8:((m3 b i).1.length:Int)-1-((k+1:Nat):Int)=(((m3 b i).1.length-1-k:Nat):Int)-1:=by omega
  show Iq (m3 b i) g (((m3 b i).1.length:Int)-1-(k:Int),v)=g (((m3 b i).1.length:Int)-1-((k+1:Nat):Int),X1 (T3 b i) (m3 b i).1.length k v);rw[e8,W];refine(if_pos (decide_eq_true (by omega))).trans ?_;rw[H,gP ⟨oo,⟨f.1,by omega⟩,by omega,oo,by omega,oo,⟨f.1,by omega⟩,by omega,trivial⟩,lE];exact gP ⟨oo,trivial⟩) (fun k v c a=>VF a c (h.wf.par _ (by omega) (by omega))) (fun g s _=>by
  have G:((m3 b i).1.length:Int)-1-(((m3 b i).1.length-1:Nat):Int)=0:=by omega
  show Iq (m3 b i) g (((m3 b i).1.length:Int)-1-(((m3 b i).1.length-1:Nat):Int),s)=some s;rw[G];have:Iq (m3 b i) g (0,s)=Tn s:=by
   rw[Iq];exact if_neg (by decide)
  exact this.trans rfl) v0 l
theorem M0c(b:j9)(l:wf l9 b){i:Nat}(h:NetOk b i):Cs b (i:Int)=some (B0 b i):=by
 have hi:=h.lt;have z:=l.2.2.1;have n1:=h.wf.n1;have n8:=h.wf.n8;have y:=h.wf.res;obtain⟨E,f⟩:=h.loads;have u:((i:Int)).toNat=i:=rfl;unfold Cs;rw[M0d b l h,vS,gP ⟨oo,trivial⟩,lE,gP ⟨rfl,trivial⟩,lE,u];have r:((1:Int),[(0:Int)])=(fun(k:Nat) (s:List Int)=>(((k+1:Nat):Int),s)) 0 [0]:=rfl;rw[r];refine(lF (n:=(m3 b i).1.length-1) (by omega) (fun(k:Nat) (s:List Int)=>(((k+1:Nat):Int),s)) (S6 (T3 b i) (BX b i) (fun k=>(z8 b i).getD k 0)) (fun k s=>s.length=k+1/\∀j,0<=s.getD j 0/\s.getD j 0<=1000*43000*(k:Int)) (J:=fun s=>some s) (F:=Tp (m3 b i) (z8 b i)) (fun g k s w d=>?_) (fun k s w d=>?_) (fun g s d=>?_) [0] ?_)
 ·obtain⟨o,e⟩:=d;have q:=h.wf.par (k+1) (by omega) (by omega);have m:(((k+1:Nat):Int)).toNat=k+1:=rfl;have c:=h.wf.resIn (k+1) (by omega);have a:=f (k+1);have v:=MH c.1 c.2 a.1 a.2;have t:=e ((m3 b i).1.getD (k+1) 0).toNat;refine(if_pos (by grind)).trans ?_;rw[m,gP ⟨oo,⟨q.1,by omega⟩,by omega,oo,oo,by omega,oo,oo,⟨by grind,by grind⟩,trivial⟩,lE];exact gP ⟨oo,trivial⟩
 ·obtain⟨o,e⟩:=d;have c:=h.wf.resIn (k+1) (by omega);have a:=f (k+1);have v:=MH c.1 c.2 a.1 a.2
  grind[T3,S6,List.length_append,BX,z8,Nat.lt_or_ge,Jk,VG,List.getD_cons_zero,List.getD_cons_succ,List.getD_nil]
 ·have x:(m3 b i).1.length-1+1=(z8 b i).length:=by omega
  show Tp (m3 b i) (z8 b i) g ((((m3 b i).1.length-1+1:Nat):Int),s)=some s;rw[x];exact aE
 grind
def QO(b:j9)(i:Nat)(m:Int):List Int:=fN (AI fun k=>u6 ((B0 b i).getD (w9 b i k).toNat 0) 1000 m) (y9 b.2.1 i).length []
theorem N0N(b:j9)(e:wf l9 b){i:Nat}(h:NetOk b i)(m:Int):GA b (i:Int) m=some (QO b i m):=by
 have hi:=h.lt;have u:=e.2.2.1;have c:=h.sn;have v:=h.s78;obtain⟨l,q⟩:=h.delays;have o:((i:Int)).toNat=i:=rfl;unfold GA;rw[M0c b e h,vS,gP ⟨rfl,trivial⟩,lE];unfold QO;rw[<- c];refine lF (n:=(m3 b i).2.2.2.length) (by omega) (fun(k:Nat) (s:List Int)=>((k:Int),s)) (AI fun k=>u6 ((B0 b i).getD (w9 b i k).toNat 0) 1000 m) (fun k s=>s.length=k) (J:=fun s=>some s) (F:=Zp (B0 b i) b (i:Int) m) (fun g k s d a=>?_) (fun k s d a=>?_) (fun g s _=>?_) [] rfl
 ·have f:((k:Int)).toNat=k:=rfl;have t:0<=(b.2.2.getD i (a6 l7)).2.2.2.getD k 0/\((b.2.2.getD i (a6 l7)).2.2.2.getD k 0).toNat < (B0 b i).length:=by rw[l]; exact h.wf.snkIn k d
  have r:k < (b.2.2.getD i (a6 l7)).2.2.2.length:=d;have a:s.length=k:=a;have w:=q ((m3 b i).2.2.2.getD k 0).toNat;have j:=(V9 ((B0 b i).getD ((m3 b i).2.2.2.getD k 0).toNat 0) 1000 m (by omega) (by omega) (by decide)).2;refine(gP ⟨oo,trivial⟩).trans ?_;refine(if_pos (by grind)).trans ?_;rw[o,f,j,vS,gP ⟨oo,oo,⟨t.1,by omega⟩,by omega,rfl,⟨by grind,by grind⟩,trivial⟩,lE];exact gP ⟨oo,trivial⟩
 ·grind[AI,List.length_append]
 ·refine(gP ⟨oo,trivial⟩).trans ?_;exact aE
theorem u0L{b:j9}{i k:Nat}{m:Int}(a:k < (y9 b.2.1 i).length):(QO b i m).getD k 0=u6 ((B0 b i).getD (w9 b i k).toNat 0) 1000 m:=MK _ 0 _ k a
theorem u0K(b:j9)(i:Nat)(m:Int):(QO b i m).length=(y9 b.2.1 i).length:=FD _ _
end Go.Proofs.YtdjgagoledoaaaaGreatDoor
end
section
namespace Go.Proofs.Xd
open Go Go.Proofs Go.Proofs.Xl
def Hp(n:Int)(s:Int×Int):Int×Int:=if decide ((s.1+s.2+1).tdiv 2*(s.1+s.2+1).tdiv 2<=n)=true then((s.1+s.2+1).tdiv 2,s.2) else(s.1,(s.1+s.2+1).tdiv 2-1)
theorem v0A{F:(Int×Int->Option Int)->Int×Int->Option Int}{J:Int->Option Int}{n H:Int}(w:0<=n)(l:n < (H+1)*(H+1))(d:0<=H)(v:H<=3000000000)
  (m:∀g (s:Int×Int),0<=s.1->s.1<=s.2->s.2<=H->F g s=if decide (s.1<s.2)=true then g (Hp n s) else J s.1):∃r,Bt n r/\r<=H/\lp F (0,H)=J r:=by
 obtain⟨f,⟨i,i2,i3,i4,i5⟩,b,j⟩:=Wk (J:=fun s:Int×Int=>J s.1) (fun s=>(s.2-s.1).toNat) (fun s=>0<=s.1/\s.1<=s.2/\s.2<=H/\s.1*s.1<=n/\n < (s.2+1)*(s.2+1)) (fun s=>decide (s.1<s.2)) (Hp n)
  (fun g s c=>m g s c.1 c.2.1 c.2.2.1) (fun s c b=>by
    obtain⟨h,x,k,t,u⟩:=c;have b:=of_decide_eq_true b;obtain⟨o,y,q⟩:=Wm h b;unfold Hp;rw[o];split
    ·rename_i a;have a:=of_decide_eq_true a;exact⟨⟨by show 0<=(s.1+s.2+1) / 2; omega,q,k,a,u⟩,by show(s.2-(s.1+s.2+1) / 2).toNat < (s.2-s.1).toNat; omega⟩
    ·rename_i a;have a:n < (s.1+s.2+1) / 2*((s.1+s.2+1) / 2):=by
      rw[dq] at a;omega
     refine⟨⟨h,by show s.1<=(s.1+s.2+1) / 2-1; omega,by show(s.1+s.2+1) / 2-1<=H; omega,t,?_⟩,by show((s.1+s.2+1) / 2-1-s.1).toNat < (s.2-s.1).toNat; omega⟩;show n < ((s.1+s.2+1) / 2-1+1)*((s.1+s.2+1) / 2-1+1);rw[Int.sub_add_cancel];exact a) (0,H) ⟨Int.le_refl _,d,Int.le_refl _,by show(0:Int)*0<=n; omega,l⟩ (by show(H-0).toNat<=_; omega)
 have b:=of_decide_eq_false b;have e:f.1=f.2:=by omega
 exact⟨f.1,⟨i,i4,by rw[e]; exact i5⟩,by omega,j⟩
theorem u0T{n R Z:Int}(h:Bt n R)(k:Bt (4*n) Z):(Z=2*R∨Z=2*R+1)/\(R*R=n->Z=2*R/\Z*Z=4*n)/\(R*R<n->(Z=2*R/\Z*Z<4*n)∨(Z=2*R+1/\Z*Z<4*n)):=by
 obtain⟨i,f,m⟩:=h;obtain⟨j,o,d⟩:=k;have a:(2*R)*(2*R)=4*(R*R):=by rw[Int.mul_assoc,<- Int.mul_assoc R 2 R,Int.mul_comm R 2,Int.mul_assoc 2 R R]; omega
 have c:(2*R+2)*(2*R+2)=4*((R+1)*(R+1)):=by
  rw[show 2*R+2=2*(R+1) by omega,Int.mul_assoc,<- Int.mul_assoc (R+1) 2 (R+1),Int.mul_comm (R+1) 2,Int.mul_assoc 2 (R+1) (R+1)]; omega
 have l:(2*R+1)*(2*R+1)=4*(R*R)+4*R+1:=by
  rw[Int.add_mul,Int.mul_add,a]; omega
 have g:2*R<Z+1:=q0C (by omega) (by omega);have e:Z<2*R+2:=q0C (by omega) (by omega);have hz:Z=2*R∨Z=2*R+1:=by omega
 refine⟨hz,fun b=>?_,fun b=>?_⟩
 ·rcases hz with rfl | rfl
  ·exact⟨rfl,by omega⟩
  ·omega
 ·rcases hz with rfl | rfl
  ·exact .inl ⟨rfl,by omega⟩
  ·exact .inr ⟨rfl,by omega⟩
theorem DD{a b:Int}(c:0<=a)(d:0<b):u6 a b 0=a / b:=by
 unfold u6;rw[Int.tdiv_eq_ediv_of_nonneg c,Int.tmod_eq_emod_of_nonneg c,if_neg,if_neg]
 ·simp
 ·have:=Int.emod_nonneg a (Int.ne_of_gt d);simp;omega
theorem Bu{a b:Int}(c:0<=a)(_:0<b):u6 a b 1=if 0<a % b then a / b+1 else a / b:=by
 unfold u6;rw[Int.tdiv_eq_ediv_of_nonneg c,Int.tmod_eq_emod_of_nonneg c,if_neg (by simp)];by_cases h:0<a % b
 ·rw[if_pos h,if_pos (by simp[h])]
 ·rw[if_neg h,if_neg (by simp[h])]
def O3(n m R:Int):Int:=if(m==1&&decide (R*R<n))=true then R.tdiv 500+1 else u6 R 500 m
def DE(N m Z:Int):Int:=if(m==1&&decide (Z*Z<N))=true then Z+1 else Z
theorem x0e{n R Z m:Int}(h:Bt n R)(k:Bt (4*n) Z)(f:m=0∨m=1):O3 n m R=u6 (DE (4*n) m Z) 1000 m:=by
 obtain⟨i,c,g⟩:=u0T h k;have a:=h.1;have d:=h.2.1;unfold O3 DE;rcases f with rfl | rfl
 ·rw[if_neg (by simp),if_neg (by simp),DD a (by decide),DD k.1 (by decide)];omega
 ·by_cases b:R*R<n
  ·rw[if_pos (by simp[b]),Int.tdiv_eq_ediv_of_nonneg a];rcases g b with ⟨e,hz⟩ | ⟨e,hz⟩
   ·rw[if_pos (by simp[hz]),Bu (by omega) (by decide),e];split <;> omega
   ·rw[if_pos (by simp[hz]),Bu (by omega) (by decide),e];split <;> omega
  ·obtain⟨e,hz⟩:=c (by omega);rw[if_neg (by simp[b]),if_neg (by simp[hz]),Bu a (by decide),Bu k.1 (by decide),e];split <;> split <;> omega
end Go.Proofs.Xd
end
section
namespace Go.Proofs.YtdjgagoledoaaaaGreatDoor
open Go Go.Proofs Go.Proofs.Sv Go.Proofs.Xv Go.Proofs.Xl Go.Proofs.Xd
theorem p0L{q r:Int}(h:0<=q)(a:r=0∨r=1):(2*q+r).tdiv 2=q/\((2*q+r).tmod 2=0∨(2*q+r).tmod 2=1):=by
 grind
structure MW(b:j9)(l:x6)(a:F0)(n:Nat):Prop where
 kind:l.2.2.1=1
 pix:ix (l.2.1.tdiv 2) (q9 b.2.1).length
 plt:(l.2.1.tdiv 2).toNat < (q9 b.2.1).length
 iix:ix (u5 b.2.1 (l.2.1.tdiv 2).toNat).1 b.2.1.1.length
 cix:ix (m7 b.2.1 (u5 b.2.1 (l.2.1.tdiv 2).toNat).1.toNat).2.1 b.1.length
 aix:ix l.2.2.2 (b.1.getD (m7 b.2.1 (u5 b.2.1 (l.2.1.tdiv 2).toNat).1.toNat).2.1.toNat (a6 y64)).2.2.2.1.length
 arc:(b.1.getD (m7 b.2.1 (u5 b.2.1 (l.2.1.tdiv 2).toNat).1.toNat).2.1.toNat (a6 y64)).2.2.2.1.getD l.2.2.2.toNat (a6 y67)=a
 net:(u5 b.2.1 (l.2.1.tdiv 2).toNat).2.2.1=(n:Int)
 nlt:n<b.2.2.length
 trs:l.2.1.tmod 2=0∨l.2.1.tmod 2=1
 del:F2 a.2.2.2.2.1 true=true
 slw:F2 a.2.2.2.2.2 true=true
structure J0c(b:j9)(l:x6)(n k:Nat):Prop where
 kind:l.2.2.1=2
 pix:ix (l.2.1.tdiv 2) (q9 b.2.1).length
 plt:(l.2.1.tdiv 2).toNat < (q9 b.2.1).length
 net:(u5 b.2.1 (l.2.1.tdiv 2).toNat).2.2.1=(n:Int)
 nlt:n<b.2.2.length
 idx:l.2.2.2=(k:Int)
 klt:k < (y9 b.2.1 n).length
theorem x0K{k s:Int}{t:Nat}(h:t < (J4 k s).length):(((J4 k s).getD t (0,0)).2=0∨((J4 k s).getD t (0,0)).2=1):=by
 grind[QB,H8]
theorem Hq{b:j9}(F:p9 b=true){l:x6}(h:l∈lV b):(∃a n,MW b l a n)∨∃n k,J0c b l n k:=by
 obtain⟨G,x,_⟩:=X3 F;have y:=V6 G;rcases Wj h with ⟨i,j,t,hi,z,v,rfl⟩ | ⟨i,k,t,hi,hk,v,rfl⟩
 ·obtain⟨P,E,x3⟩:=FF y hi;obtain⟨W,c2,c3,T⟩:=FG E;obtain⟨a1,a2,a3,X⟩:=T j z;obtain⟨B,H⟩:∃B:Nat,(m9 (x8 b i) j).2.2.1=(B:Int):=⟨(m9 (x8 b i) j).2.2.1.toNat,by omega⟩;have g:B < (m7 b.2.1 i).2.2.length:=by omega
  have lB:z7 (m7 b.2.1) i+B < (q9 b.2.1).length:=by
   have:=MT (m7 b.2.1) hi g;unfold q9;rw[Jr]; omega
  have f:=QL b.2.1.1.length b.2.1.2.2.length (m7 b.2.1) (A9 b.2.1) (a6 y151) hi g;have f:u5 b.2.1 (z7 (m7 b.2.1) i+B)=((i:Int),(B:Int),(m7 b.2.1 i).2.2.getD B 0,(B:Int)==((m7 b.2.1 i).2.2.length:Int)-1):=f;have hn:=A4.1 (y.fac.net.1 i hi B g);obtain⟨n,s⟩:∃n:Nat,(m7 b.2.1 i).2.2.getD B 0=(n:Int):=⟨((m7 b.2.1 i).2.2.getD B 0).toNat,by omega⟩;have w:(m9 (x8 b i) j).1<=3:=by have:=r0R (Nat.lt_of_le_of_lt (Nat.zero_le _) v); omega
  obtain⟨_,V,Q⟩:=r0n (n0N E z) w;have e:=p0L (q:=((z7 (m7 b.2.1) i+B:Nat):Int)) (Int.natCast_nonneg _) (x0K v);have o:(Hn (z7 (m7 b.2.1) i:Int) (m9 (x8 b i) j) j t).2.1=2*((z7 (m7 b.2.1) i+B:Nat):Int)+((J4 (m9 (x8 b i) j).1 (m9 (x8 b i) j).2.2.2.1).getD t (0,0)).2:=by
   show 2*((z7 (m7 b.2.1) i:Int)+(m9 (x8 b i) j).2.2.1)+_=_;rw[H,Int.natCast_add]
  refine .inl ⟨m9 (x8 b i) j,n,?_⟩;have c:((Hn (z7 (m7 b.2.1) i:Int) (m9 (x8 b i) j) j t).2.1.tdiv 2)=((z7 (m7 b.2.1) i+B:Nat):Int):=by rw[o]; exact e.1
  have m:((z7 (m7 b.2.1) i+B:Nat):Int).toNat=z7 (m7 b.2.1) i+B:=rfl;refine⟨rfl,?_,?_,?_,?_,?_,?_,?_,by omega,by rw[o]; omega,V,Q⟩
  ·rw[c]; exact oo
  ·omega
  ·rw[c,m,f]; exact⟨Int.natCast_nonneg _,by omega⟩
  ·rw[c,m,f]; exact P
  ·rw[c,m,f]; exact⟨Int.natCast_nonneg _,by show(j:Int) < ((x8 b i).2.2.2.1.length:Int); omega⟩
  ·rw[c,m,f]; rfl
  ·rw[c,m,f]; exact s
 ·obtain⟨q,u,Y,h3,_⟩:=MI (u5 b.2.1) i (q9 b.2.1).length _ (H8 (d:=0) hk);have u:(y9 b.2.1 i).getD k 0=(q:Int):=u;have o:(DC (J5 b i) ((y9 b.2.1 i).getD k 0) k t).2.1=2*(q:Int)+(t:Int):=by
   show 2*(y9 b.2.1 i).getD k 0+_=_;rw[u]
  have e:=p0L (q:=(q:Int)) (r:=(t:Int)) (Int.natCast_nonneg _) (by omega);have c:((DC (J5 b i) ((y9 b.2.1 i).getD k 0) k t).2.1.tdiv 2)=(q:Int):=by rw[o]; exact e.1
  have m:((q:Int)).toNat=q:=rfl;refine .inr ⟨i,k,rfl,?_,?_,?_,hi,rfl,hk⟩
  ·rw[c]; exact oo
  ·omega
  grind
theorem CJ{l:List Dv}{p:Bool}(h:F2 l p=true){x:Int}(b:x=0∨x=1):ix x l.length/\C8 (l.getD x.toNat (a6 y70))=true:=by
 unfold F2 at h;rw[ba,dq] at h;have a:x.toNat<l.length:=by omega
 refine⟨oo,?_⟩
 grind
section
variable {b:j9}
theorem Hr{l:x6}{a:F0}{n:Nat}(h:MW b l a n):BO (o5 b) l=some a:=by
 unfold BO;refine(gP ⟨by decide,h.pix,h.iix,trivial⟩).trans ?_;rw[lE];refine(gP ⟨h.cix,h.aix,trivial⟩).trans ?_;rw[lE];exact congrArg some h.arc
theorem Z7{l:x6}{n:Nat}(a:ix (l.2.1.tdiv 2) (q9 b.2.1).length)(c:(u5 b.2.1 (l.2.1.tdiv 2).toNat).2.2.1=(n:Int)):CA (o5 b) l=some (n:Int):=by
 unfold CA;refine(gP ⟨by decide,a,trivial⟩).trans ?_;rw[lE];exact congrArg some c
theorem M0f(f:wf l9 b)(e:p9 b=true){l:x6}{a:F0}{n:Nat}(h:MW b l a n):Gy b l=some (a,(z8 b n).getD 0 0):=by
 have c:=V6 (X3 e).1;have d:=Bq e h.nlt;have n1:=d.wf.n1;have g:=d.loads.1;unfold Gy;rw[DA b.2.1 f.2.1 c.fac.ni14 c.fac.np8 c.pin,vS,gP ⟨rfl,by decide,h.pix,h.plt,trivial⟩,lE];show gd (ix (u5 b.2.1 (l.2.1.tdiv 2).toNat).1 b.2.1.1.length/\ix (m7 b.2.1 (u5 b.2.1 (l.2.1.tdiv 2).toNat).1.toNat).2.1 b.1.length/\ix l.2.2.2 (b.1.getD (m7 b.2.1 (u5 b.2.1 (l.2.1.tdiv 2).toNat).1.toNat).2.1.toNat (a6 y64)).2.2.2.1.length/\(AA b (u5 b.2.1 (l.2.1.tdiv 2).toNat).2.2.1).isSome=true/\ix (0:Int) (vl (AA b (u5 b.2.1 (l.2.1.tdiv 2).toNat).2.2.1)).length/\Int.toNat (0:Int) < (vl (AA b (u5 b.2.1 (l.2.1.tdiv 2).toNat).2.2.1)).length/\True) (lt (vl (AA b (u5 b.2.1 (l.2.1.tdiv 2).toNat).2.2.1),(b.1.getD (m7 b.2.1 (u5 b.2.1 (l.2.1.tdiv 2).toNat).1.toNat).2.1.toNat (a6 y64)).2.2.2.1.getD l.2.2.2.toNat (a6 y67)) fun x=>match x with | (v2,v3)=>some (v3,v2.getD (Int.toNat (0:Int)) (0:Int)))=_;rw[h.net,M0d b f d,vS,gP ⟨h.iix,h.cix,h.aix,rfl,⟨by decide,by omega⟩,by omega,trivial⟩,lE,h.arc];rfl
theorem M0e(d:wf l9 b)(c:p9 b=true){l:x6}{n k:Nat}(h:J0c b l n k):BH b l=some (n:Int):=by
 have a:=V6 (X3 c).1;unfold BH;rw[DA b.2.1 d.2.1 a.fac.ni14 a.fac.np8 a.pin,vS,gP ⟨rfl,by decide,h.pix,h.plt,trivial⟩,lE];exact congrArg some h.net
end
theorem Wn{n:Int}(e:0<=n)(j:n<=1000000000000000000):∃r,Bt n r/\r<=3000000000/\LK n=some r:=by
 unfold LK;refine v0A (J:=fun r=>some r) (n:=n) (H:=3000000000) e (by omega) (by decide) (by decide) (fun g s a c d=>?_);obtain⟨lo,hi⟩:=s;have a:0<=lo:=a;have c:lo<=hi:=c;have d:hi<=3000000000:=d;show Uo n g (lo,hi)=if decide (lo<hi)=true then g (Hp n (lo,hi)) else some lo
 rw[Uo];by_cases b:lo<hi
 ·obtain⟨f,h,k⟩:=Wm a b;have i:=K9 (A:=3000000000) (B:=3000000000) (x:=(lo+hi+1).tdiv 2) (y:=(lo+hi+1).tdiv 2) (by omega) (by omega) (by omega) (by omega) (by decide);rw[if_pos (decide_eq_true b),if_pos (decide_eq_true b),gP ⟨oo,oo,by decide,trivial⟩,gP ⟨oo,trivial⟩];unfold Hp;show(if _ then _ else _)=g (if decide ((lo+hi+1).tdiv 2*(lo+hi+1).tdiv 2<=n)=true then((lo+hi+1).tdiv 2,hi) else(lo,(lo+hi+1).tdiv 2-1));split
  ·rfl
  ·exact gP ⟨oo,trivial⟩
 ·rw[if_neg (by grind),if_neg (by grind)];rfl
theorem N0D{n m:Int}(j:0<=n)(o:n<=2000000000000000000)(_:m=0∨m=1):∃r,Bt n r/\r<=2000000000/\Cr n m=some (DE n m r):=by
 unfold Cr;obtain⟨r,d,b,i⟩:=v0A (J:=fun r=>Kz m n r) (F:=OD n m) (n:=n) (H:=2000000000) j (by omega) (by decide) (by decide) (fun g s a e f=>by
  obtain⟨lo,hi⟩:=s;have a:0<=lo:=a;have e:lo<=hi:=e;have f:hi<=2000000000:=f;show OD n m g (lo,hi)=if decide (lo<hi)=true then g (Hp n (lo,hi)) else Kz m n lo
  rw[OD];by_cases c:lo<hi
  ·obtain⟨t,l,u⟩:=Wm a c;have q:=K9 (A:=3000000000) (B:=3000000000) (x:=(lo+hi+1).tdiv 2) (y:=(lo+hi+1).tdiv 2) (by omega) (by omega) (by omega) (by omega) (by decide);rw[if_pos (decide_eq_true c),if_pos (decide_eq_true c),gP ⟨oo,oo,by decide,trivial⟩,gP ⟨oo,trivial⟩];unfold Hp;show(if _ then _ else _)=g (if decide ((lo+hi+1).tdiv 2*(lo+hi+1).tdiv 2<=n)=true then((lo+hi+1).tdiv 2,hi) else(lo,(lo+hi+1).tdiv 2-1));split
   ·rfl
   ·exact gP ⟨oo,trivial⟩
  grind)
 refine⟨r,d,b,i.trans ?_⟩;have k:=d.1;have h:=K9 (A:=2000000000) (B:=2000000000) (x:=r) (y:=r) (by omega) (by omega) (by omega) (by omega) (by decide);rw[Kz,gP ⟨(fun _=>oo),trivial⟩];unfold DE;split
 ·rw[gP ⟨oo,trivial⟩]; rfl
 ·rfl
theorem QP(s d:Int):500*s*500*s=250000*(s*s)/\1000000*s*s=1000000*(s*s)/\4*d*d=4*(d*d):=by
 grind
theorem K0J{s d m:Int}(g:0<=s)(V:s<=1000000)(j:0<=d)(Y:d<=301000000)(f:m=0∨m=1):∃r z,X0 s d m=some r/\Cr (1000000*s*s+4*d*d) m=some z/\W4 z 1000 m=some r/\0<=r/\r<=3000000001:=by
 obtain⟨E,W,T⟩:=QP s d;have X:=K9 (A:=1000000) (B:=1000000) (x:=s) (y:=s) (by omega) (by omega) (by omega) (by omega) (by decide);have Q:=K9 (A:=301000000) (B:=301000000) (x:=d) (y:=d) (by omega) (by omega) (by omega) (by omega) (by decide);have w:0<=s*s:=Int.mul_nonneg g g;have P:0<=d*d:=Int.mul_nonneg j j;obtain⟨R,i,H,t⟩:=Wn (n:=250000*(s*s)+d*d) (by omega) (by omega);obtain⟨Z,h,F,o⟩:=N0D (n:=4*(250000*(s*s)+d*d)) (m:=m) (by omega) (by omega) f;have c:=i.1;have v:=h.1;have G:=x0e i h f;have k:1000000*s*s+4*d*d=4*(250000*(s*s)+d*d):=by omega
 have q:0<=DE (4*(250000*(s*s)+d*d)) m Z/\DE (4*(250000*(s*s)+d*d)) m Z<=3000000000:=by
  unfold DE;split <;> omega
 have u:=FI (a:=DE (4*(250000*(s*s)+d*d)) m Z) (b:=1000) (K:=3000000) m (by decide) (by omega) (by omega);have l:=K9 (A:=3000000000) (B:=3000000000) (x:=R) (y:=R) (by omega) (by omega) (by omega) (by omega) (by decide);have e:0<=O3 (250000*(s*s)+d*d) m R:=by
  unfold O3;rcases f with rfl | rfl
  ·rw[if_neg (by simp),DD c (by decide)]; omega
  ·split
   ·rw[Int.tdiv_eq_ediv_of_nonneg c]; omega
   ·rw[Bu c (by decide)]; split <;> omega
 refine⟨O3 (250000*(s*s)+d*d) m R,DE (4*(250000*(s*s)+d*d)) m Z,?_,by rw[k]; exact o,?_,e,by omega⟩
 ·unfold X0;rw[E,t,vS,gP ⟨oo,oo,oo,oo,oo,trivial⟩,gP ⟨rfl,trivial⟩,lE,gP ⟨(fun _=>oo),trivial⟩];unfold O3;split
  ·have:R.tdiv 500=R / 500:=Int.tdiv_eq_ediv_of_nonneg c;exact gP ⟨by decide,oo,trivial⟩
  ·rw[(V9 R 500 m (by omega) (by omega) (by decide)).1,vS,gP ⟨rfl,trivial⟩,lE]
 ·rw[G];exact(V9 _ 1000 m (by omega) (by omega) (by decide)).2
end Go.Proofs.YtdjgagoledoaaaaGreatDoor
end
section
namespace Go.Proofs.YtdjgagoledoaaaaGreatDoor
open Go Go.Proofs Go.Proofs.Xv Go.Proofs.Xl Go.Proofs.Xd
theorem N0A(a b:Int):LL a b=some (decide (a<b)):=by
 unfold LL;have e:∀a,GN a=some (a != a):=fun _=>rfl;rw[e,e,gP ⟨rfl,fun _=>rfl,trivial⟩,vS,vS];simp
theorem MX{xs:List Int}{x:Int}(w:xs.length<=4611686018427387903){p:Nat}(s:p<xs.length)(v:∀i,i<p->xs.getD i 0<x)(t:∀i,p<=i->i<xs.length->x<=xs.getD i 0):LN xs x=some ((p:Int),xs.getD p 0==x):=by
 have l:∀(m i j:Nat),i<=p->p<=j->j<=xs.length->j-i<m->J6 (LM xs x) m ((i:Int),(j:Int))=some ((p:Int),xs.getD p 0==x):=by
  intro m
  induction m with
  | zero=>intro i j _ _ _ h; omega
  | succ m o =>
    intro i j hi u g y;show LM xs x (J6 (LM xs x) m) ((i:Int),(j:Int))=_;rw[LM];by_cases f:i<j
    ·have c:(i+j) / 2<xs.length:=by omega
     have k:((((i+j) / 2:Nat)):Int).toNat=(i+j) / 2:=rfl;rw[if_pos (by simpa using f),D0S,gP ⟨oo,oo,⟨⟨by decide,by decide⟩,by omega,by omega⟩,oo,trivial⟩,k,N0A,gP ⟨oo,rfl,trivial⟩,vS];by_cases q:xs.getD ((i+j) / 2) 0<x
     ·rw[if_pos (by simpa using q),gP ⟨oo,trivial⟩];have d:(i+j) / 2<p:=by
       apply Nat.lt_of_not_le;intro b;have:=t _ b c; omega
      have:=o ((i+j) / 2+1) j (by omega) u g (by omega);simpa using this
     ·rw[if_neg (by simpa using q)];have d:p<=(i+j) / 2:=by
       apply Nat.le_of_not_lt;intro b;have:=v _ b; omega
      exact o i ((i+j) / 2) hi d (by omega) (by omega)
    ·have e:i=p:=by omega
     subst e;rw[if_neg (by simpa using f),Up];have k:((i:Int)).toNat=i:=rfl;have r:decide ((i:Int) < (xs.length:Int))=true:=by simpa using s
     have n:∀a,GM a=some (a != a):=fun _=>rfl;rw[k,r,n,n,gP ⟨fun _=>oo,fun _=>oo,fun _=>rfl,fun _=>rfl,trivial⟩,vS,vS];simp
 unfold LN;have:=l V8 0 xs.length (by omega) (by omega) (Nat.le_refl _) (by simp only[V8]; omega);exact this
def A5(xs:List Int)(x:Int):Int:=min (max x (xs.getD 0 0)) (xs.getD (xs.length-1) 0)
theorem N0L{xs:List Int}(x:Int)(h:G6 xs=true):∃(p:Nat) (a b:Int),p<xs.length/\Dk xs x=some ((p:Int),a,b) /\
  ((a=1/\b=0/\P2 xs x=some ([((p:Int),1)],1)) ∨
    (p+1<xs.length/\0<a/\0<b/\a+b<=100000/\P2 xs x=some ([((p:Int),a),((p:Int)+1,b)],a+b))):=by
 obtain⟨l1,l4⟩:=CE h;have o:((xs.length:Int)-1).toNat=xs.length-1:=by omega
 have H:xs.getD 0 0<=A5 xs x:=by
  have:xs.getD 0 0<=xs.getD (xs.length-1) 0:=by
   by_cases j:xs.length=1
   ·rw[j]; exact Int.le_refl _
   ·have:=CI h (by omega:0<xs.length-1) (by omega); omega
  unfold A5; omega
 have G:A5 xs x<=xs.getD (xs.length-1) 0:=by unfold A5; omega
 obtain⟨p,e,w,s⟩:=w0F h H G;have c:∀(q:Nat) (r:Option (Int×Int×Int)),(∀g,Dj xs (A5 xs x) g (q:Int)=r)->(∀i,q<i->i<xs.length->A5 xs x<xs.getD i 0)->q<xs.length->lp (Dj xs (A5 xs x)) ((xs.length:Int)-1)=r:=by
  intro q r E d f;have z:∀(m k:Nat),q+k<xs.length->k<m->J6 (Dj xs (A5 xs x)) m ((q+k:Nat):Int)=r:=by
   intro m
   induction m with
   | zero=>intro k _ h; omega
   | succ m P =>
     intro k V hm;show Dj xs (A5 xs x) (J6 (Dj xs (A5 xs x)) m) ((q+k:Nat):Int)=r;by_cases u:k=0
     ·subst u; exact E _
     ·have hg:=d (q+k) (by omega) V;have l:(((q+k:Nat):Int)).toNat=q+k:=rfl;have v:¬(A5 xs x=xs.getD (q+k) 0):=by omega
      have Q:¬(xs.getD (q+k) 0<A5 xs x):=by omega
      rw[Dj,if_pos (by simp; omega),gP ⟨oo,trivial⟩,l,if_neg (by simpa using v),gP ⟨oo,trivial⟩,if_neg (by simpa using Q),gP ⟨oo,trivial⟩];have F:(((q+k:Nat):Int))-1=((q+(k-1):Nat):Int):=by omega
      rw[F];exact P (k-1) (by omega) (by omega)
  have:=z V8 (xs.length-1-q) (by omega) (by simp only[V8]; omega);have X:((q+(xs.length-1-q):Nat):Int)=(xs.length:Int)-1:=by omega
  rw[X] at this;exact this
 have l:∀n:Nat,((n:Int)).toNat=n:=fun _=>rfl;by_cases t:xs.getD p 0=A5 xs x
 ·refine⟨p,1,0,e,?_,.inl ⟨rfl,rfl,?_⟩⟩
  ·unfold Dk;rw[gP ⟨oo,trivial⟩,gP ⟨oo,oo,trivial⟩,o];change lt (A5 xs x) _=_;rw[lE,gP ⟨oo,trivial⟩];refine c p _ (fun g=>?_) (fun i hi j=>?_) e
   ·rw[Dj,if_pos (by simp),gP ⟨oo,trivial⟩,l,if_pos (by simpa using t.symm)]
   ·have:=CI h hi j; omega
  ·unfold P2;rw[gP ⟨oo,oo,oo,trivial⟩,o];change lt (A5 xs x) _=_;rw[lE,MX (by omega) e w s,gP ⟨rfl,trivial⟩,vS,lE,if_pos (by simpa using t)]
 ·have d:A5 xs x<xs.getD p 0:=by have:=s p (Nat.le_refl _) e; omega
  have W:0<p:=by
   apply Nat.pos_of_ne_zero;intro u; subst u; omega
  obtain⟨q,rfl⟩:∃q,p=q+1:=⟨p-1,by omega⟩;have f:=w q (by omega);have b1:=MV h e;have Y:=MV h (by omega:q<xs.length);refine⟨q,xs.getD (q+1) 0-A5 xs x,A5 xs x-xs.getD q 0,by omega,?_,.inr ⟨e,by omega,by omega,by omega,?_⟩⟩
  ·unfold Dk;rw[gP ⟨oo,trivial⟩,gP ⟨oo,oo,trivial⟩,o];change lt (A5 xs x) _=_;rw[lE,gP ⟨oo,trivial⟩];refine c q _ (fun g=>?_) (fun i hi j=>?_) (by omega)
   ·have y:((q:Int)+1).toNat=q+1:=by omega
    have v:¬(A5 xs x=xs.getD q 0):=by omega
    rw[Dj,if_pos (by simp),gP ⟨oo,trivial⟩,l,if_neg (by simpa using v),gP ⟨oo,trivial⟩,if_pos (by simpa using f),y,gP ⟨oo,oo,oo,oo,oo,trivial⟩]
   ·by_cases E:i=q+1
    ·subst E; exact d
    ·have:=CI h (by omega:q+1<i) j; omega
  ·have y:(((q+1:Nat):Int)-1).toNat=q:=by omega
   have T:((q+1:Nat):Int)-1=(q:Int):=by omega
   unfold P2;rw[gP ⟨oo,oo,oo,trivial⟩,o];change lt (A5 xs x) _=_;rw[lE,MX (by omega) e w s,gP ⟨rfl,trivial⟩,vS,lE,if_neg (by simpa using t),y,l,gP ⟨oo,oo,oo,oo,oo,oo,oo,oo,oo,oo,trivial⟩,lE,T];congr 2;omega
end Go.Proofs.YtdjgagoledoaaaaGreatDoor
end

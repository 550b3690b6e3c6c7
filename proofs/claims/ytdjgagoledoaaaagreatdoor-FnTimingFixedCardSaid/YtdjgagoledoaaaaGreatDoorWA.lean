/- Plain words on names: no program in sight. -/
import Derived.Test.YtdjgagoledoaaaaGreatDoorXA
import Derived.Lib.SlTrimSet
import Derived.Lib.Bytealg
import Derived.Test.YtdjgagoledoaaaaGreatDoorXF
import Derived.Test.YtdjgagoledoaaaaGreatDoorF83c
import Derived.Test.YtdjgagoledoaaaaGreatDoorG83
set_option maxHeartbeats 0
section
namespace Go.Proofs.Sv
open Go
def Bk(c:Int):Bool:=decide (c≥97)&&decide (c<=122)
def Jz(c:Int):Bool:=decide (c≥48)&&decide (c<=57)
def FJ(c:Int)(i:Nat):Bool:=Bk c||(Jz c&&decide (0<i))
def Bl(s:ByteArray):Nat->Bool
 | 0=>true
 | k+1=>Bl s k&&FJ (F3 s k) k
def I4(s:ByteArray):Bool:=Bl s s.size&&decide ((s.size:Int)≥1)&&decide ((s.size:Int)<=8)
theorem v0p(s:ByteArray)(k:Nat):∀j,k<=j->Bl s j=true->Bl s k=true:=by
 intro j c h
 induction j with
 | zero=>have:k=0:=by omega
         subst this; rfl
 | succ j b =>
   by_cases a:k=j+1
   ·subst a; exact h
   ·simp only[Bl,ba] at h;exact b (by omega) h.1
def low26:List UInt8:=[97,98,99,100,101,102,103,104,105,106,107,108,109,110,111,112,113,114,115,116,117,118,119,120,121,122]
def low36:List UInt8:=[97,98,99,100,101,102,103,104,105,106,107,108,109,110,111,112,113,114,115,116,117,118,119,120,121,122,48,49,50,51,52,53,54,55,56,57]
theorem v0C:∀n:Fin 256,low26.contains (UInt8.ofNat n.val)=Bk (n.val:Int):=by decide +kernel
theorem v0A:∀n:Fin 256,low36.contains (UInt8.ofNat n.val)=(Bk (n.val:Int)||Jz (n.val:Int)):=by decide +kernel
theorem v0B(b:UInt8):low26.contains b=Bk (b.toNat:Int):=by
 have:=v0C ⟨b.toNat,b.toNat_lt⟩;simpa using this
theorem m0Y(b:UInt8):low36.contains b=(Bk (b.toNat:Int)||Jz (b.toNat:Int)):=by
 have:=v0A ⟨b.toNat,b.toNat_lt⟩;simpa using this
theorem f0U(c:UInt8):∀l:List UInt8,decide (0<=Lib.indexByte l c)=l.contains c
 | []=>by simp[Lib.indexByte]
 | b :: l=>by
   have g:=f0U c l;have i:=Lib.indexByte_ge l c;unfold Lib.indexByte;by_cases a:b=c
   ·subst a; simp
   ·have d:¬c=b:=fun h=>a h.symm;have f:(b==c)=false:=by simpa using a
    rw[f,List.contains_cons,show(c==b)=false by simpa using d,<- g];by_cases e:Lib.indexByte l c = -1
    ·simp[e]
    ·have:(Lib.indexByte l c == -1)=false:=by simpa using e
     rw[this];simp only[Bool.false_eq_true,if_false,Bool.false_or];rw[Bool.eq_iff_iff]; simp only[dq]; omega
theorem f0Z{a:Type}(p:a->Bool):∀l:List a,l.dropWhile p=[]↔∀x∈l,p x=true
 | []=>by simp
 | x :: r=>by
   rw[List.dropWhile_cons];by_cases h:p x=true
   ·simp[h,f0Z p r]
   ·simp[h]
theorem f0K{b:Type}(p:b->Bool)(x:b):∀l:List b,x∈l.takeWhile p->p x=true
 | [],h=>by cases h
 | y :: r,h=>by
   rw[List.takeWhile_cons] at h;by_cases a:p y=true
   ·rw[if_pos a] at h;rcases List.mem_cons.1 h with rfl | h
    ·exact a
    ·exact f0K p x r h
   ·rw[if_neg a] at h; cases h
theorem u0k(l cs:List UInt8):Lib.trimS l cs=[]↔∀b∈l,cs.contains b=true:=by
 unfold Lib.trimS Lib.trimLeftS Lib.trimRightS;rw[f0Z];constructor
 ·intro h b a;have e:l=(l.reverse.dropWhile (cs.contains ·)).reverse++(l.reverse.takeWhile (cs.contains ·)).reverse:=by
   rw[<- List.reverse_append,List.takeWhile_append_dropWhile,List.reverse_reverse]
  rw[e] at a;rcases List.mem_append.1 a with a | a
  ·exact h b a
  ·have:=List.mem_reverse.1 a;exact f0K (cs.contains ·) b _ this
 ·intro h b a;exact h b (by have:=(List.dropWhile_sublist _).mem (List.mem_reverse.1 a); exact List.mem_reverse.1 this)
theorem q0x(s:ByteArray)(d:Bk (F3 s 0)=true):∀k,k<=s.size->(Bl s k=true↔∀i,i<k->(Bk (F3 s i)||Jz (F3 s i))=true)
 | 0,_=>by simp[Bl]
 | k+1,hk=>by
   have g:=q0x s d k (by omega);simp only[Bl,ba,g];constructor
   ·rintro⟨f,a⟩ i hi;by_cases c:i=k
    ·subst c;unfold FJ at a;cases hl:Bk (F3 s i) with
     | true=>simp
     | false=>rw[hl] at a; simp only[Bool.false_or,ba] at a; simp[a.1]
    ·exact f i (by omega)
   ·intro h;refine⟨fun i hi=>h i (by omega),?_⟩;have:=h k (by omega);unfold FJ;by_cases b:k=0
    ·subst b; simp[d]
    ·have e:decide (0<k)=true:=by simp; omega
     rw[e]; simpa using this
theorem x0E(s:ByteArray):Lib.trimS s.data.toList low36=[]↔∀i,i<s.size->(Bk (F3 s i)||Jz (F3 s i))=true:=by
 rw[u0k];have c:s.data.toList.length=s.size:=by simp
 constructor
 ·intro h i hi;have a:i<s.data.toList.length:=by rw[c]; exact hi
  have:=h s.data.toList[i] (List.getElem_mem a);rw[m0Y] at this;unfold F3;rw[gq,List.getElem?_eq_getElem a];exact this
 ·intro h b d;obtain⟨i,hi,rfl⟩:=List.getElem_of_mem d;have:=h i (by rw[<- c]; exact hi);unfold F3 at this;rw[gq,List.getElem?_eq_getElem hi] at this;rw[m0Y]; exact this
theorem y0I(s:ByteArray)(c:1<=s.size)(e:s.size<=8):I4 s=((Lib.trimS s.data.toList low36==[])&&decide (0<=Lib.indexByte low26 (F3 s 0).toNat.toUInt8)):=by
 have d:(F3 s 0).toNat.toUInt8=s.data.toList.getD 0 0:=by unfold F3; simp
 rw[d,f0U,v0B];show I4 s=(_&&Bk (F3 s 0));have a:decide ((s.size:Int)≥1)=true:=by simp; omega
 have b:decide ((s.size:Int)<=8)=true:=by simp; omega
 unfold I4;rw[a,b,Bool.and_true,Bool.and_true];cases h0:Bk (F3 s 0) with
 | false =>
   rw[Bool.and_false];cases hn:Bl s s.size with
   | false=>rfl
   | true =>
     have:=v0p s 1 s.size c hn;simp[Bl,FJ,h0] at this
 | true =>
   rw[Bool.and_true,Bool.eq_iff_iff,q0x s h0 s.size (Nat.le_refl _),beq_iff_eq,x0E]
end Go.Proofs.Sv
end
section
namespace Go.Proofs.Xd
open Go Go.Proofs.Xv Go.Proofs.Xl
abbrev DC:=List Int×List Int×List Int
abbrev D7:=Int×Int×Int×Int×List DC×List DC
abbrev N4:=ByteArray×Int×Int×Bool
abbrev D8:=ByteArray×Int×List Int
abbrev N5:=ByteArray×Int×Int
abbrev VK:=List Int×List Int×List Int×List Int
def m0(x l h:Int):Bool:=decide (l<=x)&&decide (x<=h)
theorem z8{x l h:Int}:m0 x l h=true↔l<=x/\x<=h:=by simp[m0]
def DD(xs:List Int):Bool:=!(List.range xs.length).any fun i=>decide (0<i)&&decide (xs.getD i 0<=xs.getD (i-1) 0)
def F8(xs:List Int):Bool:=decide (1<=xs.length)&&decide (xs.length<=4)&&xs.all (m0 · 0 100000)&&DD xs
def C8(t:DC):Bool:=F8 t.1&&F8 t.2.1&&decide (t.2.2.length=t.1.length*t.2.1.length)&&t.2.2.all (m0 · (-1000000) 1000000)
theorem CI{xs:List Int}(h:F8 xs=true):1<=xs.length/\xs.length<=4:=by
 simp only[F8,ba,dq] at h;exact⟨h.1.1.1,h.1.1.2⟩
theorem FK{t:DC}(h:C8 t=true):1<=t.1.length/\t.1.length<=4/\1<=t.2.1.length/\t.2.1.length<=4/\t.2.2.length=t.1.length*t.2.1.length/\1<=t.2.2.length/\t.2.2.length<=16:=by
 simp only[C8,ba,dq] at h;obtain⟨⟨⟨g,e⟩,f⟩,_⟩:=h;obtain⟨b,a⟩:=CI g;obtain⟨d,c⟩:=CI e;have j:1*1<=t.1.length*t.2.1.length:=Nat.mul_le_mul b d;have i:t.1.length*t.2.1.length<=4*4:=Nat.mul_le_mul a c;exact⟨b,a,d,c,f,by omega,by omega⟩
def AJ(xs:List Int):Int:=fN (fun i m=>min m (xs.getD (i+1) 0)) (xs.length-1) (xs.getD 0 0)
def D9(l:List DC)(p:Bool):Bool:=decide (l.length=2)&&l.all fun t=>C8 t&&!(p&&decide (AJ t.2.2<0))
theorem Bm{b:Type}(l:List b)(p:b->Bool):(!l.any fun x=>!p x)=l.all p:=by
 induction l with
 | nil=>rfl
 | cons a r c=>simp only[List.any_cons,List.all_cons,Bool.not_or,Bool.not_not,c]
end Go.Proofs.Xd
end
section
namespace Go.Proofs.Xd
open Go Go.Proofs.Sv Go.Proofs.Xv Go.Proofs.Xl
theorem q0w(s:ByteArray):∀n,Bl s n=!(List.range n).any fun i=>!FJ (F3 s i) i
 | 0=>rfl
 | n+1=>by
   rw[Bl,q0w s n,List.range_succ,List.any_append,Bool.not_or];simp
def P0(f:Nat->ByteArray)(i:Nat):Bool:=(List.range i).any fun k=>decide (f k=f i)
def D0(n:Nat)(f:Nat->ByteArray):Bool:=!(List.range n).any fun i=>!I4 (f i)||P0 f i
theorem m0T{n:Nat}{f g:Nat->ByteArray}(h:∀i,i<n->f i=g i):D0 n f=D0 n g:=by
 unfold D0;congr 1;refine MR fun i hi=>?_;rw[h i hi];congr 1;unfold P0;refine MR fun k a=>?_;rw[h i hi,h k (by omega)]
theorem x0I(l:List ByteArray)(d:ByteArray)(i:Nat)(h:i<l.length):((l.take i).any fun y=>decide (l.getD i d=y))=P0 (fun k=>l.getD k d) i:=by
 have b:(l.take i).length=i:=by rw[List.length_take]; omega
 rw[<- U8 (l.take i) d (fun y=>decide (l.getD i d=y)),b];unfold P0;refine MR fun k a=>?_;have:(l.take i).getD k d=l.getD k d:=by
  rw[gq,gq,List.getElem?_take_of_lt a]
 rw[this,decide_eq_decide];exact eq_comm
theorem v0Q{a b:Type}(f:a->b)(l:List a)(i:Nat)(d:a)(e:b)(h:i<l.length):(l.map f).getD i e=f (l.getD i d):=by
 rw[gq,gq,List.getElem?_map,List.getElem?_eq_getElem h]; rfl
theorem u0U{a b:Type}(l:List a)(d:a)(f:a->b):(List.range l.length).map (fun i=>f (l.getD i d))=l.map f:=by
 apply List.ext_getElem?;intro i;rw[List.getElem?_map,List.getElem?_map];by_cases h:i<l.length
 ·rw[List.getElem?_range h,List.getElem?_eq_getElem h];show some (f (l.getD i d))=some (f l[i]);rw[gq,List.getElem?_eq_getElem h]; rfl
 ·rw[List.getElem?_eq_none (by simpa using h),List.getElem?_eq_none (by omega)]; rfl
def Bn(n:Nat)(q:N4)(i:Nat):Bool:=m0 q.2.2.1 0 500&&(if i+1=n then q.2.1==2&&q.2.2.1==0&&!q.2.2.2 else q.2.1==1)
def AK(n:Nat)(p:Nat->N4):Bool:=decide (2<=n)&&decide (n<=5)&&D0 n (fun i=>(p i).1)&&!(List.range n).any fun i=>!Bn n (p i) i
def I5(n:Nat)(p:Nat->N4):Int:=fN (fun i s=>if(p i).2.2.2=true then s+1 else s) n 0
def FL(n:Nat)(p:Nat->N4):Int:=match(List.range n).find? (fun i=>(p i).2.2.2) with | some i=>(i:Int) | none => -1
def JA(a:Nat->D7)(i:Nat):Bool:=(List.range i).any fun k=>(a k).1==(a i).1&&(a k).2.1==(a i).2.1&&(a k).2.2.1==(a i).2.2.1
def F5(n:Nat)(p:Nat->N4)(a:D7):Bool :=
 m0 a.2.1 0 ((n:Int)-1-1)&&m0 a.2.2.1 0 ((n:Int)-1) &&
 if a.1=1 then !(p a.2.1.toNat).2.2.2&&a.2.2.1==(n:Int)-1&&m0 a.2.2.2.1 1 3&&D9 a.2.2.2.2.1 true&&D9 a.2.2.2.2.2 true
 else if a.1=2∨a.1=3 then(p a.2.1.toNat).2.2.2&&a.2.2.1==(n:Int)-1&&a.2.2.2.1==0&&D9 a.2.2.2.2.1 true&&D9 a.2.2.2.2.2 true
 else if a.1=4∨a.1=5 then(p a.2.1.toNat).2.2.2&&decide (a.2.2.1 < (n:Int)-1)&&!(p a.2.2.1.toNat).2.2.2&&a.2.2.2.1==0&&D9 a.2.2.2.2.1 false&&(a.2.2.2.2.2.length:Int)==0
 else false
def DE(n:Nat)(p:Nat->N4)(a:D7):Bool :=
 if a.1=4∨a.1=5 then a.2.2.2.1==0&&(a.2.2.2.2.2.length:Int)==0&&D9 a.2.2.2.2.1 false&&a.2.1==FL n p&&decide (0<=a.2.1)&&m0 a.2.2.1 0 ((n:Int)-1-1)&&a.2.2.1 != a.2.1
 else D9 a.2.2.2.2.1 true&&D9 a.2.2.2.2.2 true&&a.2.2.1==(n:Int)-1&&m0 a.2.1 0 ((n:Int)-1-1) &&
  if a.1=1 then !(p a.2.1.toNat).2.2.2&&m0 a.2.2.2.1 1 3
  else if a.1=2∨a.1=3 then(p a.2.1.toNat).2.2.2&&a.2.2.2.1==0
  else false
theorem w0n(p:Nat->N4):∀n,0<=I5 n p/\I5 n p<=n
 | 0=>⟨Int.le_refl _,Int.le_refl _⟩
 | n+1=>by
   have:=w0n p n
   grind[I5,fN]
theorem r0c{p:Nat->N4}:∀{n i:Nat},i<n->(p i).2.2.2=true->1<=I5 n p
 | n+1,i,hi,h=>by
   have b:=(w0n p n).1;have c:i<n->1<=I5 n p:=fun a=>r0c a h;unfold I5 at *
   rw[fN]
   grind
theorem r0b{p:Nat->N4}:∀{n i j:Nat},i<j->j<n->(p i).2.2.2=true->(p j).2.2.2=true->2<=I5 n p
 | n+1,i,j,hij,hj,h,k=>by
   have c:j<n->2<=I5 n p:=fun a=>r0b hij a h k;have b:i<n->1<=I5 n p:=fun a=>r0c a h;unfold I5 at *
   rw[fN]
   grind
theorem E0A{p:Nat->N4}{n i:Nat}(f:I5 n p<=1)(hi:i<n):(p i).2.2.2=decide (FL n p=(i:Int)):=by
 unfold FL;cases h:(List.range n).find? (fun i=>(p i).2.2.2) with
 | none =>
   grind
 | some j =>
   have b:=List.find?_some h;have d:=List.mem_range.1 (List.mem_of_find?_eq_some h);show _=decide ((j:Int)=(i:Int));by_cases e:j=i
   ·grind
   ·rw[decide_eq_false (by omega),<- Bool.not_eq_true];intro c;rcases Nat.lt_or_gt_of_ne e with a | a
    ·have:=r0b (p:=p) a hi b c; omega
    simp_all
theorem E0z{p:Nat->N4}{n:Nat}:FL n p<n:=by
 grind[FL,List.range,List.mem_of_find?_eq_some]
theorem JB{p:Nat->N4}{n:Nat}(h:AK n p=true):2<=n/\n<=5/\(p (n-1)).2.2.2=false:=by
 grind[AK,Bn]
theorem VM{p:Nat->N4}{n:Nat}(h:AK n p=true)(j:I5 n p<=1)(a:D7):DE n p a=F5 n p a:=by
 obtain⟨r,o,k⟩:=JB h;obtain⟨b,m,s,q,de,t⟩:=a;rw[Bool.eq_iff_iff];unfold DE F5;dsimp only;have g:∀x:Int,0<=x->x<=(n:Int)-1->(p x.toNat).2.2.2=decide (FL n p=x):=fun x u v=>by
  rw[E0A j (by omega)];rw[decide_eq_decide]; omega
 have f:FL n p≠(n:Int)-1:=fun e=>by
  have:=g ((n:Int)-1) (by omega) (by omega);have i:((n:Int)-1).toNat=n-1:=by omega
  rw[i,k,decide_eq_true e] at this;cases this
 have l:=E0z (p:=p) (n:=n);by_cases Cz:b=4∨b=5
 ·rw[if_pos Cz,if_neg (by omega),if_neg (by omega),if_pos Cz];simp only[ba,z8,dq,beq_iff_eq,bne_iff_ne,Bool.not_eq_true']
  grind
 ·rw[if_neg Cz];by_cases d:b=1
  ·rw[if_pos d,if_pos d];simp only[ba,z8,beq_iff_eq]
   grind
  ·rw[if_neg d,if_neg d];by_cases c:b=2∨b=3
   ·rw[if_pos c,if_pos c];simp only[ba,z8,beq_iff_eq]
    grind
   grind
def D1(m:Nat)(a:Nat->D7)(k:Int):Bool:=(List.range m).any fun i=>(a i).1==k
def JC(k:Int)(n:Nat)(p:Nat->N4)(m:Nat)(a:Nat->D7)(tr:List Int):Bool :=
 if k=1 then I5 n p==0&&(tr.length:Int)==1*2 ^ (n-1)&&tr.all (m0 · 0 1)
 else if k=2 then I5 n p==1&&(tr.length:Int)==0&&!D1 m a 1&&!(D1 m a 2==D1 m a 3)
 else if k=3 then I5 n p==1&&(tr.length:Int)==0&&D1 m a 1&&D1 m a 2&&!D1 m a 3
 else false
theorem y0T{k:Int}{n:Nat}{p:Nat->N4}{m:Nat}{a:Nat->D7}{tr:List Int}(h:JC k n p m a tr=true):I5 n p<=1:=by
 grind[JC]
def Hz(q:D7->Bool)(m:Nat)(a:Nat->D7):Bool:=decide (m<=8)&&!(List.range m).any fun i=>!q (a i)||JA a i
def U9(q:Nat->(Nat->N4)->D7->Bool)(nm:ByteArray)(k:Int)(n:Nat)(p:Nat->N4)(m:Nat)(a:Nat->D7)(tr:List Int)(lk en:Int):Bool :=
 I4 nm&&AK n p&&Hz (q n p) m a&&m0 lk 0 100000&&m0 en 0 100000&&JC k n p m a tr
theorem E0C(nm:ByteArray)(k:Int)(n:Nat)(p:Nat->N4)(m:Nat)(a:Nat->D7)(tr:List Int)(lk b:Int):U9 DE nm k n p m a tr lk b=U9 F5 nm k n p m a tr lk b:=by
 unfold U9;cases hp:AK n p with
 | false=>simp
 | true =>
   cases hk:JC k n p m a tr with
   | false=>simp
   | true =>
     have:DE n p=F5 n p:=funext fun x=>VM hp (y0T hk) x;rw[this]
theorem u0o{a:Type}(l:List a)(d:a)(q:a->Bool)(i:Nat)(h:i<=l.length):(l.take i).any q=(List.range i).any fun k=>q (l.getD k d):=by
 have b:(l.take i).length=i:=by rw[List.length_take]; omega
 rw[<- U8 (l.take i) d q,b];refine MR fun k c=>?_;rw[gq,gq,List.getElem?_take_of_lt c]
theorem n0L{n:Nat}{p:Nat->N4}{a:D7}(h:F5 n p a=true):1<=a.1/\a.1<=5:=by
 grind[F5]
theorem B0H{n:Nat}(h:n<=5) : -9223372036854775808<=(1:Int)*2 ^ (n-1)/\(1:Int)*2 ^ (n-1)<=9223372036854775807:=by
 have:∀k:Fin 6,-9223372036854775808<=(1:Int)*2 ^ (k.val-1)/\(1:Int)*2 ^ (k.val-1)<=9223372036854775807:=by decide
 exact this ⟨n,by omega⟩
def HA(a:Nat->D7)(k:Int)(m:Nat):Int:=fN (fun i s=>if(a i).1=k then s+1 else s) m 0
theorem MS(a:Nat->D7)(k:Int):∀m,0<=HA a k m/\HA a k m<=m
 | 0=>⟨Int.le_refl _,Int.le_refl _⟩
 | m+1=>by
   have:=MS a k m
   grind[HA,fN]
theorem JD(a:Nat->D7)(k:Int):∀m,D1 m a k=decide (0<HA a k m)
 | 0=>rfl
 | m+1=>by
   have c:=JD a k m;have b:=(MS a k m).1
   grind[D1,HA,fN]
def HB(a:Nat->D7)(i:Nat)(v:List Int):List Int:=v.set (a i).1.toNat (v.getD (a i).1.toNat 0+1)
theorem VN(a:Nat->D7):∀m,(∀i,i<m->1<=(a i).1/\(a i).1<=5)->(fN (HB a) m (List.replicate 6 0)).length=6/\∀k:Nat,k<6->(fN (HB a) m (List.replicate 6 0)).getD k 0=HA a k m
 | 0,_=>⟨by simp[fN],fun k b=>by
   have:∀k:Fin 6,(List.replicate 6 (0:Int)).getD k.val 0=0:=by decide
   exact this ⟨k,b⟩⟩
 | m+1,h=>by
   obtain⟨c,d⟩:=VN a m (fun i hi=>h i (by omega))
   grind[fN,HB,HA]
def BW(v:List Int)(x:Int):List Int:=v.set x.toNat (v.getD x.toNat 0+1)
def Af(v:List Int)(n b:Nat):Prop:=v.length=n/\∀k:Nat,0<=v.getD k 0/\v.getD k 0<=(b:Int)
theorem QK(n b:Nat):Af (List.replicate n 0) n b:=by
 refine⟨List.length_replicate,fun k=>?_⟩;rw[gq,List.getElem?_replicate];split <;> (show(0:Int)<=0/\(0:Int)<=b; omega)
theorem JE{v:List Int}{n b:Nat}(h:Af v n b)(x:Int):Af (BW v x) n (b+1):=by
 refine⟨by unfold BW; rw[List.length_set]; exact h.1,fun k=>?_⟩;have a:=h.2 x.toNat;have c:=h.2 k;unfold BW;rw[gq,List.getElem?_set];by_cases e:x.toNat=k
 ·rw[if_pos e];split
  ·rw[Option.getD_some]; omega
  ·show(0:Int)<=0/\(0:Int)<=_; omega
 ·rw[if_neg e,<- gq]; omega
theorem VP{v:List Int}{n b a:Nat}(h:Af v n b)(c:b<=a):Af v n a:=⟨h.1,fun k=>by have:=h.2 k; omega⟩
theorem y0M{v:List Int}{n b:Nat}(h:Af v n b){x:Int}(a:m0 x 0 ((n:Int)-1)=true):ix x v.length/\x.toNat<v.length:=by
 rw[z8] at a;rw[ix,h.1];omega
def CJ(n:Nat)(ok:Nat->Bool)(nm:Nat->ByteArray):Bool:=!((List.range n).any fun i=>!ok i||P0 nm i)&&decide (n<=8)
theorem I0a{n:Nat}{a:Nat->Bool}{nm:Nat->ByteArray}(h:∀i,i<n->a i=true->I4 (nm i)=true):(if((List.range n).any fun i=>!a i)=true then false else decide (n<=8)&&D0 n nm)=CJ n a nm:=by
 unfold CJ D0;have e:((List.range n).any fun i=>!a i||P0 nm i)=(((List.range n).any fun i=>!a i)||(List.range n).any fun i=>P0 nm i):=QL _ _;rw[e];cases ha:(List.range n).any fun i=>!a i with
 | true=>rfl
 | false =>
   have b:=(Bo (n:=n) (c:=fun i=>!a i)).1 (by rw[ha]; rfl);have:((List.range n).any fun i=>!I4 (nm i)||P0 nm i)=(List.range n).any fun i=>P0 nm i:=MR fun i hi=>by
    have:=b i hi;rw[Bool.not_eq_false'] at this;rw[h i hi this]; rfl
   rw[this,if_neg (by simp),Bool.false_or,Bool.and_comm]
def S0(nc:Nat)(pins:Int->Nat)(nn:Nat)(x:D8):Bool:=m0 x.2.1 0 ((nc:Int)-1)&&(x.2.2.length:Int)==(pins x.2.1:Int)&&x.2.2.all fun y=>m0 y 0 ((nn:Int)-1)
def S6(nn:Nat)(x:N5):Bool:=m0 x.2.1 1 2&&m0 x.2.2 0 ((nn:Int)-1)
def V0(x:Nat->D8)(i:Nat)(v:List Int):List Int:=BW v ((x i).2.2.getD ((x i).2.2.length-1) 0)
def M3(x:Nat->N5)(i:Nat)(v:List Int):List Int:=if(x i).2.1=1 then BW v (x i).2.2 else v
def FM(ni np nn:Nat)(x:Nat->D8)(y:Nat->N5):List Int:=fN (M3 y) np (fN (V0 x) ni (List.replicate nn 0))
theorem VQ(x:Nat->D8)(a:Nat):∀i,Af (fN (V0 x) i (List.replicate a 0)) a i
 | 0=>QK a 0
 | i+1=>JE (VQ x a i) _
def CK(lib:Bool)(nc:Nat)(pins:Int->Nat)(ni np nn:Nat)(x:Nat->D8)(y:Nat->N5)(nets:Nat->ByteArray):Bool :=
 lib&&decide (ni<=14)&&decide (nn<=30)&&decide (np<=8)&&D0 ni (fun i=>(x i).1)&&D0 nn nets&&D0 np (fun i=>(y i).1) &&
  !((List.range ni).any fun i=>!S0 nc pins nn (x i))&&!((List.range np).any fun i=>!S6 nn (y i))&&(FM ni np nn x y).all (·==1)
def Ag(w:VK)(n:Int):Bool :=
 decide (1<=w.1.length)&&decide (w.1.length<=8)&&decide (w.2.1.length=w.1.length)&&decide (w.2.2.1.length=w.1.length)&&(w.2.2.2.length:Int)==n &&
  w.2.1.all (m0 · 0 1000)&&w.2.2.1.all (m0 · 0 500)&&w.2.2.2.all (m0 · 0 ((w.1.length:Int)-1)) &&
  !(List.range w.1.length).any fun i=>(i==0&&(w.1.getD i 0 != -1||w.2.1.getD 0 0 != 0))||(decide (0<i)&&!m0 (w.1.getD i 0) 0 ((i:Int)-1))
abbrev B4:=Int×Int×Int×Bool
def V2(x:D8)(i:Int)(k:Nat)(s:List B4):List B4:=s++[(i,(k:Int),x.2.2.getD k 0,(k:Int)==(x.2.2.length:Int)-1)]
def P9(y:Nat->N5)(i:Nat)(s:List B4):List B4:=s++[(-1,(i:Int),(y i).2.2,(y i).2.1==1)]
def P1(x:Nat->D8)(i:Nat)(s:List B4):List B4:=fN (V2 (x i) i) (x i).2.2.length s
def L7(ni np:Nat)(x:Nat->D8)(y:Nat->N5):List B4:=fN (P9 y) np (fN (P1 x) ni [])
theorem HC(x:D8)(i:Int)(s:List B4):∀k,(fN (V2 x i) k s).length=s.length+k
 | 0=>rfl
 | k+1=>by
   rw[fN,V2,List.length_append,HC x i s k]; rfl
theorem MT(y:Nat->N5)(s:List B4):∀k,(fN (P9 y) k s).length=s.length+k
 | 0=>rfl
 | k+1=>by
   rw[fN,P9,List.length_append,MT y s k]; rfl
def DG(pl:Nat->B4)(i:Nat)(v:List Int):List Int:=if(pl i).2.2.2=false then BW v (pl i).2.2.1 else v
def V3(pl:Nat->B4)(t:Int)(m:Nat):Int:=fN (fun i s=>if((pl i).2.2.1==t&&!(pl i).2.2.2)=true then s+1 else s) m 0
theorem w0k(pl:Nat->B4)(t:Int):∀m,0<=V3 pl t m/\V3 pl t m<=m
 | 0=>⟨Int.le_refl _,Int.le_refl _⟩
 | m+1=>by
   have:=w0k pl t m;unfold V3 at *
   rw[fN];split <;> omega
theorem m0x(pl:Nat->B4)(n:Nat):∀m,(∀i,i<m->m0 (pl i).2.2.1 0 ((n:Int)-1)=true)->(fN (DG pl) m (List.replicate n 0)).length=n/\∀k:Nat,k<n->(fN (DG pl) m (List.replicate n 0)).getD k 0=V3 pl k m
 | 0,_=>⟨by simp[fN],fun k b=>by
   show(List.replicate n (0:Int)).getD k 0=0;rw[gq,List.getElem?_replicate,if_pos b]; rfl⟩
 | m+1,h=>by
   obtain⟨d,c⟩:=m0x pl n m (fun i hi=>h i (by omega));have f:=z8.1 (h m (by omega));rw[fN];generalize fN (DG pl) m (List.replicate n 0)=v at *
   unfold DG;have e:∀k:Nat,V3 pl k (m+1)=if((pl m).2.2.1==(k:Int)&&!(pl m).2.2.2)=true then V3 pl k m+1 else V3 pl k m:=fun k=>by unfold V3; rw[fN]
   cases hd:(pl m).2.2.2 with
   | true =>
     refine⟨by rw[if_neg (by simp)]; exact d,fun k b=>?_⟩;rw[if_neg (by simp),c k b,e,hd,if_neg (by simp)]
   | false =>
     rw[if_pos rfl];unfold BW;refine⟨by rw[List.length_set]; exact d,fun k b=>?_⟩;rw[e,hd,gq,List.getElem?_set];by_cases a:(pl m).2.2.1.toNat=k
     ·rw[if_pos a,if_pos (by rw[d]; omega),if_pos (by simp; omega),Option.getD_some,a,c k b]
     ·rw[if_neg a,if_neg (by simp; omega),<- gq,c k b]
def N6(pl:Nat->B4)(t:Int)(i:Nat)(s:List Int):List Int:=if((pl i).2.2.1==t&&!(pl i).2.2.2)=true then s++[(i:Int)] else s
theorem MU(pl:Nat->B4)(t:Int):∀m,((fN (N6 pl t) m []).length:Int)=V3 pl t m
 | 0=>rfl
 | m+1=>by
   have:=MU pl t m;rw[fN];unfold V3 at *
   rw[fN];unfold N6 at *
   split
   ·rw[List.length_append];show((_+1:Nat):Int)=_;omega
   ·exact this
def JF(n:Nat)(s:List B4):Prop:=∀p∈s,m0 p.2.2.1 0 ((n:Int)-1)=true
theorem q0I{n:Nat}{x:D8}{i:Int}(b:∀k,k<x.2.2.length->m0 (x.2.2.getD k 0) 0 ((n:Int)-1)=true){s:List B4}(a:JF n s):∀k,k<=x.2.2.length->JF n (fN (V2 x i) k s)
 | 0,_=>a
 | k+1,hk=>by
   rw[fN,V2];intro p c;rcases List.mem_append.1 c with h | h
   ·exact q0I b a k (by omega) p h
   ·cases List.mem_singleton.1 h;exact b k (by omega)
theorem k0i{n:Nat}{x:Nat->D8}{ni:Nat}(a:∀i,i<ni->∀k,k < (x i).2.2.length->m0 ((x i).2.2.getD k 0) 0 ((n:Int)-1)=true):∀i,i<=ni->JF n (fN (P1 x) i [])
 | 0,_=>fun p b=>by cases b
 | i+1,hi=>by
   rw[fN,P1];exact q0I (a i (by omega)) (k0i a i (by omega)) _ (Nat.le_refl _)
theorem q0j{n:Nat}{y:Nat->N5}{np:Nat}(b:∀i,i<np->m0 (y i).2.2 0 ((n:Int)-1)=true){s:List B4}(a:JF n s):∀k,k<=np->JF n (fN (P9 y) k s)
 | 0,_=>a
 | k+1,hk=>by
   rw[fN,P9];intro p c;rcases List.mem_append.1 c with h | h
   ·exact q0j b a k (by omega) p h
   ·cases List.mem_singleton.1 h;exact b k (by omega)
theorem QM{x:Nat->D8}{ni:Nat}(a:∀i,i<ni->(x i).2.2.length<=5):∀i,i<=ni->(fN (P1 x) i []).length<=5*i
 | 0,_=>Nat.le_refl _
 | i+1,hi=>by
   rw[fN,P1,HC];have:=QM a i (by omega);have:=a i (by omega);omega
theorem H5{a:Type}{l:List a}{i:Nat}{d:a}(h:i<l.length):l.getD i d∈l:=by
 rw[gq,List.getElem?_eq_getElem h];exact List.getElem_mem h
theorem JG{l:List Int}{p:Int->Bool}(h:l.all p=true){i:Nat}(hi:i<l.length):p (l.getD i 0)=true:=List.all_eq_true.1 h _ (H5 hi)
structure DesignFacts(nc:Nat)(pins:Int->Nat)(ni np nn:Nat)(x:Nat->D8)(y:Nat->N5):Prop where
 ni14:ni<=14
 np8:np<=8
 nn30:nn<=30
 inst:∀i,i<ni->S0 nc pins nn (x i)=true
 port:∀i,i<np->S6 nn (y i)=true
theorem n0y{b:Bool}{c:Nat}{pins:Int->Nat}{ni np d:Nat}{x:Nat->D8}{y:Nat->N5}{a:Nat->ByteArray}(h:CK b c pins ni np d x y a=true):b=true/\DesignFacts c pins ni np d x y:=by
 unfold CK at h;simp only[ba,dq] at h;obtain⟨⟨⟨⟨⟨⟨⟨⟨⟨l,k⟩,f⟩,e⟩,_⟩,_⟩,_⟩,g⟩,j⟩,_⟩:=h;refine⟨l,k,e,f,fun i hi=>?_,fun i hi=>?_⟩
 ·have:=Bo.1 g i hi
  rwa [Bool.not_eq_false'] at this
 ·have:=Bo.1 j i hi
  rwa [Bool.not_eq_false'] at this
theorem DesignFacts.net{b:Nat}{pins:Int->Nat}{ni np a:Nat}{x:Nat->D8}{y:Nat->N5}(h:DesignFacts b pins ni np a x y):(∀i,i<ni->∀k,k < (x i).2.2.length->m0 ((x i).2.2.getD k 0) 0 ((a:Int)-1)=true)/\∀i,i<np->m0 (y i).2.2 0 ((a:Int)-1)=true:=by
 refine⟨fun i hi k c=>?_,fun i hi=>?_⟩
 ·have:=h.inst i hi;unfold S0 at this;rw[ba] at this;exact JG (p:=fun y=>m0 y 0 ((a:Int)-1)) this.2 c
 ·have:=h.port i hi;unfold S6 at this;rw[ba] at this;exact this.2
end Go.Proofs.Xd
end
section
namespace Go.Proofs.Xd
open Go Go.Proofs Go.Proofs.Xl
def FN(v:List Int)(i:Nat)(x:Int):List Int:=v.set i (v.getD i 0+x)
theorem n0Q{v:List Int}{i:Nat}{x:Int}:(FN v i x).length=v.length:=by grind[FN]
theorem QN{v:List Int}{i j:Nat}{x:Int}(hi:i<v.length):(FN v i x).getD j 0=if j=i then v.getD i 0+x else v.getD j 0:=by
 grind[FN]
def Ah(v:List Int)(k:Nat):Int:=fN (fun i s=>s+v.getD i 0) k 0
theorem JH(v:List Int)(k:Nat):Ah v (k+1)=Ah v k+v.getD k 0:=rfl
theorem VR{v:List Int}{i:Nat}{x:Int}(hi:i<v.length):∀k,Ah (FN v i x) k=Ah v k+if i<k then x else 0
 | 0=>by simp[Ah,fN]
 | k+1=>by
   rw[JH,JH,VR hi k,QN hi];by_cases h:k=i
   ·subst h; simp; omega
   ·rw[if_neg h];by_cases a:i<k
    ·rw[if_pos a,if_pos (by omega)]; omega
    ·rw[if_neg a,if_neg (by omega)]; omega
theorem m0p{v:List Int}(a:∀j,0<=v.getD j 0):∀k,0<=Ah v k
 | 0=>by simp[Ah,fN]
 | k+1=>by have:=m0p a k; grind[JH]
theorem VT{v:List Int}(a:∀j,0<=v.getD j 0):∀{k j:Nat},j<k->v.getD j 0<=Ah v k
 | k+1,j,h=>by
   rw[JH];have b:=m0p a k;have c:=a k;by_cases e:j=k
   ·grind
   ·have:=VT a (k:=k) (j:=j) (by omega); omega
structure Low(v:List Int)(n:Nat)(S:Int):Prop where
 len:v.length=n
 pos:∀j,0<=v.getD j 0
 sum:Ah v n<=S
theorem p0M{v:List Int}{c:Int}(a:∀j,v.getD j 0<=c):∀k:Nat,Ah v k<=c*(k:Int)
 | 0=>by simp[Ah,fN]
 | k+1=>by
   have:=p0M a k
   grind[JH,Int.natCast_add,Int.mul_add]
theorem D0P{v:List Int}{n:Nat}(b:v.length=n)(h:v.all (m0 · 0 500)=true):Low v n (500*(n:Int)):=by
 have a:∀j,0<=v.getD j 0/\v.getD j 0<=500:=fun j=>by
  grind[Nat.lt_or_ge,z8,JG,m0,List.getElem?_eq_none]
 exact⟨b,fun j=>(a j).1,p0M (fun j=>(a j).2) n⟩
theorem Low.bd{v:List Int}{n:Nat}{S:Int}(h:Low v n S)(b:0<=S)(j:Nat):0<=v.getD j 0/\v.getD j 0<=S:=by
 refine⟨h.pos j,?_⟩;rcases Nat.lt_or_ge j n with a | a
 ·exact Int.le_trans (VT h.pos a) h.sum
 ·rw[gq,List.getElem?_eq_none (by rw[h.len]; exact a)]; exact b
theorem Low.add{v:List Int}{n:Nat}{S:Int}(h:Low v n S){i:Nat}(hi:i<n){x:Int}(b:0<=x):Low (FN v i x) n (S+x):=by
 have a:i<v.length:=by rw[h.len]; exact hi
 refine⟨by rw[n0Q]; exact h.len,fun j=>?_,?_⟩
 ·rw[QN a];have:=h.pos i;have:=h.pos j;omega
 ·rw[VR a,if_pos hi]; have:=h.sum; omega
def BX(s c:Nat->Int)(i:Nat)(v:List Int):List Int:=FN v (s i).toNat (c i)
theorem r0f{s c:Nat->Int}{v:List Int}{n:Nat}{S:Int}(h:Low v n S):∀m,(∀i,i<m->0<=s i/\(s i).toNat<n/\0<=c i/\c i<=500)->Low (fN (BX s c) m v) n (S+500*(m:Int))
 | 0,_=>⟨h.len,h.pos,by have:=h.sum; show Ah v n<=_; omega⟩
 | m+1,hm=>by
   have d:=r0f h m (fun i hi=>hm i (by omega));obtain⟨e,a,b,f⟩:=hm m (by omega);have:=d.add a b;refine⟨this.len,this.pos,?_⟩;have:=this.sum;rw[Int.natCast_add,Int.mul_add];refine Int.le_trans this ?_;omega
def W9(P:Nat->Int)(n k:Nat)(v:List Int):List Int:=FN v (P (n-1-k)).toNat (v.getD (n-1-k) 0)
structure JI(v:List Int)(n k:Nat)(S:Int):Prop where
 len:v.length=n
 pos:∀j,0<=v.getD j 0
 bd:∀j,v.getD j 0<=S
 sum:Ah v (n-k)<=S
theorem VU{P:Nat->Int}{v:List Int}{n k:Nat}{S:Int}(h:JI v n k S)(_:k<n-1)(f:0<=P (n-1-k)/\(P (n-1-k)).toNat<n-1-k):JI (W9 P n k v) n (k+1) S:=by
 have b:(P (n-1-k)).toNat<v.length:=by rw[h.len]; omega
 have a:∀j,0<=(W9 P n k v).getD j 0:=fun j=>by
  unfold W9;rw[QN b];have:=h.pos (P (n-1-k)).toNat;have:=h.pos (n-1-k);have:=h.pos j;omega
 have d:Ah (W9 P n k v) (n-(k+1))<=S:=by
  unfold W9;have e:n-(k+1)=n-1-k:=by omega
  rw[VR b,e,if_pos f.2];have:=h.sum;rw[show n-k=(n-1-k)+1 by omega,JH] at this;exact this
 refine⟨by unfold W9; rw[n0Q]; exact h.len,a,fun j=>?_,d⟩;by_cases e:j=(P (n-1-k)).toNat
 ·have c:j<n-(k+1):=by omega
  exact Int.le_trans (VT a c) d
 ·unfold W9;rw[QN b,if_neg e];exact h.bd j
theorem m0G{P:Nat->Int}{v:List Int}{n:Nat}{S:Int}(h:Low v n S)(a:0<=S)(b:∀i,0<i->i<n->0<=P i/\(P i).toNat<i):∀k,k<=n-1->JI (fN (W9 P n) k v) n k S
 | 0,_=>⟨h.len,h.pos,fun j=>(h.bd a j).2,h.sum⟩
 | k+1,hk=>VU (m0G h a b k (by omega)) (by omega) (b _ (by omega) (by omega))
def H0Y(cap:List Int)(n m:Nat)(s c P:Nat->Int):List Int:=fN (W9 P n) (n-1) (fN (BX s c) m cap)
theorem JJ{a:Type}{l r:List a}{d:a}{i:Nat}(h:i<l.length):(l++r).getD i d=l.getD i d:=by
 grind
theorem VV{a:Type}{l r:List a}{d:a}{i:Nat}(h:l.length<=i):(l++r).getD i d=r.getD (i-l.length) d:=by
 grind
def S7(P R L:Nat->Int)(k:Nat)(s:List Int):List Int:=s++[s.getD (P (k+1)).toNat 0+R (k+1)*L (k+1)]
def E0s(n:Nat)(P R L:Nat->Int):List Int:=fN (S7 P R L) (n-1) [0]
theorem MV{a b A B:Int}(c:0<=a)(e:a<=A)(d:0<=b)(f:b<=B):0<=a*b/\a*b<=A*B :=
 ⟨Int.mul_nonneg c d,Int.mul_le_mul e f d (Int.le_trans c e)⟩
theorem w0g{P R L:Nat->Int}{n:Nat}{S:Int}(b:∀i,i<n->0<=R i/\R i<=1000)(a:∀i,i<n->0<=L i/\L i<=S)(h:0<=S):∀k,k<=n-1->(fN (S7 P R L) k [0]).length=k+1/\∀j,0<=(fN (S7 P R L) k [0]).getD j 0/\(fN (S7 P R L) k [0]).getD j 0<=1000*S*(k:Int)
 | 0,_=>⟨rfl,fun j=>by
   grind[fN]⟩
 | k+1,hk=>by
   obtain⟨g,d⟩:=w0g b a h k (by omega);have l:=MV (b (k+1) (by omega)).1 (b (k+1) (by omega)).2 (a (k+1) (by omega)).1 (a (k+1) (by omega)).2;have c:0<=1000*S*(k:Int):=Int.mul_nonneg (by omega) (by omega);have e:1000*S*((k+1:Nat):Int)=1000*S*(k:Int)+1000*S:=by rw[Int.natCast_add,Int.mul_add]; simp
   have f:fN (S7 P R L) (k+1) [0]=S7 P R L k (fN (S7 P R L) k [0]):=rfl;rw[f];generalize fN (S7 P R L) k [0]=s at g d
   grind[S7,List.length_append,Nat.lt_or_ge,JJ,VV,List.getD_cons_zero,List.getD_cons_succ,List.getD_nil]
theorem z0x{s:List Int}{k n:Nat}{x:Int}(a:s.length=k+1)(b:k+1<n):(s++List.replicate (n-1-k) 0).set (k+1) x=(s++[x])++List.replicate (n-1-(k+1)) 0:=by
 have e:n-1-k=(n-1-(k+1))+1:=by omega
 rw[e,List.replicate_succ,List.set_append_right _ _ (by omega),a,Nat.sub_self,List.set_cons_zero,List.append_assoc];rfl
theorem z0y{s:List Int}{k n p:Nat}(a:s.length=k+1)(b:p<k+1):(s++List.replicate (n-1-k) 0).getD p 0=s.getD p 0:=JJ (by omega)
def HD(D:List Int)(S:Nat->Int)(i:Nat)(s:List Int):List Int:=s++[D.getD (S i).toNat 0]
theorem VW(D:List Int)(S:Nat->Int):∀i,(fN (HD D S) i []).length=i
 | 0=>rfl
 | i+1=>by
   have:=VW D S i
   grind[HD,fN,List.length_append]
theorem v0Y(D:List Int)(S:Nat->Int):∀n i,i<n->(fN (HD D S) n []).getD i 0=D.getD (S i).toNat 0
 | n+1,i,h=>by
   have b:=VW D S n;have a:=v0Y D S n i
   grind[HD,fN]
def JK(ni np:Nat)(x:Nat->D8)(p:B4):Prop:=(p.1 = -1/\0<=p.2.1/\p.2.1.toNat<np)∨(0<=p.1/\p.1.toNat<ni/\0<=p.2.1/\p.2.1.toNat < (x p.1.toNat).2.2.length)
theorem k0q{ni np:Nat}{x:Nat->D8}{i:Nat}(hi:i<ni){s:List B4}(b:∀p∈s,JK ni np x p):∀k,k<=(x i).2.2.length->∀p∈fN (V2 (x i) i) k s,JK ni np x p
 | 0,_=>b
 | k+1,hk=>fun p a=>by
   have a:p∈V2 (x i) i k (fN (V2 (x i) i) k s):=a;unfold V2 at a;rcases List.mem_append.1 a with a | a
   ·exact k0q hi b k (by omega) p a
   ·cases List.mem_singleton.1 a;exact .inr ⟨Int.natCast_nonneg _,by omega,Int.natCast_nonneg _,by grind⟩
theorem g0T{ni np:Nat}{x:Nat->D8}:∀i,i<=ni->∀p∈fN (P1 x) i [],JK ni np x p
 | 0,_=>fun p a=>by cases a
 | i+1,hi=>k0q (by omega) (g0T i (by omega)) _ (Nat.le_refl _)
theorem k0h{ni np:Nat}{x:Nat->D8}{y:Nat->N5}{s:List B4}(b:∀p∈s,JK ni np x p):∀k,k<=np->∀p∈fN (P9 y) k s,JK ni np x p
 | 0,_=>b
 | k+1,hk=>fun p a=>by
   have a:p∈P9 y k (fN (P9 y) k s):=a;unfold P9 at a;rcases List.mem_append.1 a with a | a
   ·exact k0h b k (by omega) p a
   ·cases List.mem_singleton.1 a;exact .inl ⟨rfl,Int.natCast_nonneg _,by grind⟩
theorem o0w(ni np:Nat)(x:Nat->D8)(y:Nat->N5):∀p∈L7 ni np x y,JK ni np x p:=k0h (g0T ni (Nat.le_refl _)) np (Nat.le_refl _)
theorem MW(pl:Nat->B4)(t:Int):∀m,∀x∈fN (N6 pl t) m [],∃j:Nat,x=(j:Int)/\j<m/\(pl j).2.2.1=t/\(pl j).2.2.2=false
 | 0,x,h=>by cases h
 | m+1,x,h=>by
   have c:=MW pl t m x;have h:x∈N6 pl t m (fN (N6 pl t) m []):=h;generalize fN (N6 pl t) m []=s at c h;unfold N6 at h;split at h
   ·rename_i d;rw[ba,beq_iff_eq,Bool.not_eq_true'] at d;rcases List.mem_append.1 h with h | h
    ·obtain⟨j,b,e,a⟩:=c h;exact⟨j,b,by omega,a⟩
    ·cases List.mem_singleton.1 h;exact⟨m,rfl,by omega,d⟩
   ·obtain⟨j,b,e,a⟩:=c h;exact⟨j,b,by omega,a⟩
structure n0S(w:VK)(n:Int):Prop where
 n1:1<=w.1.length
 n8:w.1.length<=8
 res:w.2.1.length=w.1.length
 cap:w.2.2.1.length=w.1.length
 snk:(w.2.2.2.length:Int)=n
 resIn:∀i,i<w.1.length->0<=w.2.1.getD i 0/\w.2.1.getD i 0<=1000
 capOk:w.2.2.1.all (m0 · 0 500)=true
 snkIn:∀i,i<w.2.2.2.length->0<=w.2.2.2.getD i 0/\(w.2.2.2.getD i 0).toNat<w.1.length
 par:∀i,0<i->i<w.1.length->0<=w.1.getD i 0/\(w.1.getD i 0).toNat<i
theorem r0w{w:VK}{n:Int}(h:Ag w n=true):n0S w n:=by
 unfold Ag at h;simp only[ba,dq,beq_iff_eq] at h;obtain⟨⟨⟨⟨⟨⟨⟨⟨k,f⟩,c⟩,b⟩,d⟩,e⟩,l⟩,j⟩,g⟩:=h;refine⟨k,f,c,b,d,fun i hi=>?_,l,fun i hi=>?_,fun i m hi=>?_⟩
 ·exact z8.1 (JG (p:=fun x=>m0 x 0 1000) e (by omega))
 ·have:=z8.1 (JG (p:=fun x=>m0 x 0 ((w.1.length:Int)-1)) j hi);omega
 ·have:=Bo.1 g i hi;rw[Bool.or_eq_false_iff] at this;have a:=this.2;rw[Bool.and_eq_false_iff,decide_eq_false_iff_not,Bool.not_eq_false',z8] at a;rcases a with h | h
  ·omega
  ·omega
abbrev w7:=Int×Int×Int×Int
def I7(k s:Int):List (Int×Int):=if(k==2)=true then [(0,0),(0,1)] else if(k==3)=true then [(1,0),(1,1)] else if(k != 1)=true then [] else if(s==1)=true then [(0,0),(1,1)] else if(s==2)=true then [(0,1),(1,0)] else [(0,0),(0,1),(1,0),(1,1)]
theorem QO(k s:Int):(I7 k s).length<=4/\∀t∈I7 k s,0<=t.1/\t.1<=1/\0<=t.2/\t.2<=1:=by
 unfold I7;split
 ·grind
 split
 ·grind
 split
 ·grind
 grind
def Ai(f a b x:Int)(tr:List (Int×Int))(k:Nat)(s:List w7):List w7:=s++[(2*(f+a)+(tr.getD k (0,0)).1,2*(f+b)+(tr.getD k (0,0)).2,1,x)]
theorem k0E(f a b x:Int)(tr:List (Int×Int))(s:List w7):∀k,(fN (Ai f a b x tr) k s).length=s.length+k
 | 0=>rfl
 | k+1=>by
   have:=k0E f a b x tr s k
   grind[Ai,fN,List.length_append]
def S8(f:Int)(arcs:Nat->D7)(j:Nat)(s:List w7):List w7:=fN (Ai f (arcs j).2.1 (arcs j).2.2.1 (j:Int) (I7 (arcs j).1 (arcs j).2.2.2.1)) (I7 (arcs j).1 (arcs j).2.2.2.1).length s
theorem VY(f:Int)(a:Nat->D7)(j:Nat)(s:List w7):(S8 f a j s).length<=s.length+4:=by
 grind[S8,k0E,QO]
def AL(f:Int)(arcs:Nat->D7)(m:Nat):List w7:=fN (S8 f arcs) m []
theorem MX(f:Int)(a:Nat->D7):∀m,(AL f a m).length<=4*m
 | 0=>Nat.le_refl _
 | m+1=>by
   have b:=MX f a m;have c:=VY f a m (AL f a m);show(S8 f a m (AL f a m)).length<=_;omega
def X0(nets:Nat->Nat)(arcs:Nat->Nat->D7)(ms:Nat->Nat)(i:Nat)(s:Int×List w7):Int×List w7:=(s.1+(nets i:Int),s.2++AL s.1 (arcs i) (ms i))
theorem n0i{a:Nat->Nat}{b:Nat->Nat->D7}{c:Nat->Nat}{n:Nat}(h:∀i,i<n->a i<=5/\c i<=8):∀m,m<=n->0<=(fN (X0 a b c) m (0,[])).1/\(fN (X0 a b c) m (0,[])).1<=5*(m:Int)/\(fN (X0 a b c) m (0,[])).2.length<=32*m
 | 0,_=>⟨Int.le_refl _,Int.le_refl _,Nat.le_refl _⟩
 | m+1,hm=>by
   obtain⟨f,d,e⟩:=n0i h m (by omega);obtain⟨j,g⟩:=h m (by omega);show 0<=(X0 a b c m (fN (X0 a b c) m (0,[]))).1/\(X0 a b c m (fN (X0 a b c) m (0,[]))).1<=_/\(X0 a b c m (fN (X0 a b c) m (0,[]))).2.length<=_;generalize fN (X0 a b c) m (0,[])=z at f d e
   grind[X0,MX,AL,List.length_append]
def Y6(pl:Nat->B4)(i:Nat)(s:List (List Int)×List Int):List (List Int)×List Int:=if(pl i).2.2.2=true then(s.1,s.2.set (pl i).2.2.1.toNat (i:Int)) else(s.1.set (pl i).2.2.1.toNat (s.1.getD (pl i).2.2.1.toNat []++[(i:Int)]),s.2)
def V4(pl:Nat->B4)(t:Int)(m:Nat):Int:=fN (fun i s=>if((pl i).2.2.1==t&&(pl i).2.2.2)=true then(i:Int) else s) m 0
theorem VZ(pl:Nat->B4)(t:Int):∀m,0<=V4 pl t m/\V4 pl t m<=m
 | 0=>⟨Int.le_refl _,Int.le_refl _⟩
 | m+1=>by
   have:=VZ pl t m;have e:V4 pl t (m+1)=if((pl m).2.2.1==t&&(pl m).2.2.2)=true then(m:Int) else V4 pl t m:=rfl
   omega
theorem k0e(pl:Nat->B4)(t:Int)(m:Nat):fN (N6 pl t) (m+1) []=if((pl m).2.2.1==t&&!(pl m).2.2.2)=true then fN (N6 pl t) m []++[(m:Int)] else fN (N6 pl t) m []:=rfl
theorem Wa{a:Type}{l:List a}{i j:Nat}{x d:a}(hi:i<l.length):(l.set i x).getD j d=if j=i then x else l.getD j d:=by
 grind
theorem n0l(pl:Nat->B4)(n:Nat):∀m,(∀i,i<m->m0 (pl i).2.2.1 0 ((n:Int)-1)=true)->(fN (Y6 pl) m (List.replicate n [],List.replicate n 0)).1.length=n/\(fN (Y6 pl) m (List.replicate n [],List.replicate n 0)).2.length=n /\
  ∀k:Nat,k<n->(fN (Y6 pl) m (List.replicate n [],List.replicate n 0)).1.getD k []=fN (N6 pl k) m []/\(fN (Y6 pl) m (List.replicate n [],List.replicate n 0)).2.getD k 0=V4 pl k m
 | 0,_=>⟨List.length_replicate,List.length_replicate,fun k d=>by
   constructor
   ·show(List.replicate n ([]:List Int)).getD k []=[]
    grind
   ·show(List.replicate n (0:Int)).getD k 0=0
    grind⟩
 | m+1,h=>by
   obtain⟨c,b,g⟩:=n0l pl n m (fun i hi=>h i (by omega));have l:=z8.1 (h m (by omega));have e:fN (Y6 pl) (m+1) (List.replicate n [],List.replicate n 0)=Y6 pl m (fN (Y6 pl) m (List.replicate n [],List.replicate n 0)):=rfl;rw[e];generalize fN (Y6 pl) m (List.replicate n [],List.replicate n 0)=z at c b g;have j:(pl m).2.2.1.toNat<n:=by omega
   have a:∀k:Nat,V4 pl k (m+1)=if((pl m).2.2.1==(k:Int)&&(pl m).2.2.2)=true then(m:Int) else V4 pl k m:=fun _=>rfl
   have f:∀k:Nat,((pl m).2.2.1==(k:Int))=decide (k=(pl m).2.2.1.toNat):=fun k=>by
    grind
   unfold Y6;cases hd:(pl m).2.2.2 with
   | true =>
     rw[if_pos rfl];refine⟨c,by grind,fun k d=>?_⟩;rw[k0e,a k,f,hd]
     grind
   | false =>
     rw[if_neg (by simp)];refine⟨by grind,b,fun k d=>?_⟩;rw[k0e,a k,f,hd]
     grind
def Wb(d s x:Int)(t:Nat)(z:List w7):List w7:=z++[(2*d+(t:Int),2*s+(t:Int),2,x)]
def BY(d:Int)(sn:List Int)(k:Nat)(z:List w7):List w7:=fN (Wb d (sn.getD k 0) (k:Int)) 2 z
theorem Wc(d:Int)(a:List Int)(k:Nat)(z:List w7):(BY d a k z).length=z.length+2:=by
 show((z++_)++_).length=_
 grind
def Bp(d:Nat->Int)(sn:Nat->List Int)(i:Nat)(z:List w7):List w7:=fN (BY (d i) (sn i)) (sn i).length z
theorem QP(d:Int)(a:List Int)(z:List w7):∀k,(fN (BY d a) k z).length=z.length+2*k
 | 0=>rfl
 | k+1=>by
   have:=QP d a z k
   grind[BY,fN,Wc]
theorem q0y(d:Nat->Int)(a:Nat->List Int)(z:List w7){n c:Nat}(h:∀i,i<n->(a i).length<=c):∀m,m<=n->(fN (Bp d a) m z).length<=z.length+2*(c*m)
 | 0,_=>by simp[fN]
 | m+1,hm=>by
   have b:=q0y d a z h m (by omega)
   grind[fN,BY,Bp,QP,Nat.mul_add]
def AM{α:Type}(f:Nat->α)(i:Nat)(s:List α):List α:=s++[f i]
theorem FO{a:Type}(f:Nat->a):∀n,(fN (AM f) n []).length=n
 | 0=>rfl
 | n+1=>by
   have:=FO f n
   grind[AM,fN,List.length_append]
theorem MY{a:Type}(f:Nat->a)(d:a):∀n i,i<n->(fN (AM f) n []).getD i d=f i
 | n+1,i,h=>by
   have c:=FO f n;have b:=MY f d n i
   grind[AM,fN]
end Go.Proofs.Xd
end
section
namespace Go.Proofs.YtdjgagoledoaaaaGreatDoor
open Go Go.Proofs Go.Proofs.Xv Go.Proofs.Xl Go.Proofs.Xd
theorem Y7(a b c:Int):A9 a b c=some (m0 a b c):=rfl
theorem S9(a b c:Int):u5 a b c=some (m0 a b c):=rfl
theorem N0b(a b c:Int):LM a b c=some (!m0 a b c):=by
 unfold LM;rw[Y7,gP ⟨rfl,trivial⟩,vS]
theorem y0o(xs:List Int)(b c:Int)(h:xs.length<=9223372036854775807):Px xs (b,c)=some (xs.any fun x=>!m0 x b c):=by
 have a:Pw xs (b,c)=_:=CL h (fun i=>!m0 (xs.getD i 0) b c) (fun g i hi=>HE hi h (N0b _ _ _)) (fun g=>aE);have:=HF a;rw[U8 xs 0 (fun x=>!m0 x b c)] at this;exact this
theorem HI(xs:List Int)(b c:Int)(h:xs.length<=9223372036854775807):I0 xs b c=some (xs.all (m0 · b c)):=by
 unfold I0;rw[y0o _ _ _ h,gP ⟨rfl,trivial⟩,vS,Bm]
theorem Wd(xs:List Int)(h:xs.length<=9223372036854775807)(b:1<=xs.length):CD xs=some (DD xs):=by
 have a:=D0O h (fun i=>decide (xs.getD i 0<=xs.getD (i-1) 0)) (some false) (e:=some true) (F:=B0p xs) 1 b (fun g i c hi=>by
  have e:((i:Int)-1).toNat=i-1:=by omega
  refine(BZ hi h ⟨oo,oo,oo,trivial⟩).trans ?_;rw[e]; rfl) (fun g=>aE)
 refine a.trans ?_;unfold DD;have:((List.range xs.length).any fun i=>decide (1<=i)&&decide (xs.getD i 0<=xs.getD (i-1) 0))=(List.range xs.length).any fun i=>decide (0<i)&&decide (xs.getD i 0<=xs.getD (i-1) 0):=rfl;rw[this];cases(List.range xs.length).any fun i=>decide (0<i)&&decide (xs.getD i 0<=xs.getD (i-1) 0) <;> rfl
theorem L0C(xs:List Int)(h:xs.length<=9223372036854775807):Bi xs=some (F8 xs):=by
 unfold Bi;have e:D5 xs=some (xs.length:Int):=rfl;have d:∀a:Bool,(a=true->1<=xs.length)->(a=true/\True->(CD xs).isSome=true):=fun a i b=>by rw[Wd xs h (i b.1)]; rfl
 rw[e,vS,Y7,vS,HI xs 0 100000 h,vS,gP ⟨rfl,rfl,fun _=>rfl,d _ (fun b=>by
  simp only[m0,ba,dq] at b; omega),trivial⟩]
 congr 1;unfold F8;by_cases c:1<=xs.length
 ·rw[Wd xs h c,vS];congr 2;rw[Bool.eq_iff_iff];simp only[m0,ba,dq];omega
 ·have f:decide (1<=xs.length)=false:=by simpa using c
  have g:m0 (xs.length:Int) 1 4=false:=by
   rw[<- Bool.not_eq_true,z8]; omega
  rw[f,g]; rfl
theorem L0N(xs:List Int)(h:xs.length<=9223372036854775807):Dt xs=some (F8 xs):=by
 have d:=H2 (n:=xs.length) h (fun i=>!m0 (xs.getD i 0) 0 100000||decide (0<i)&&decide (xs.getD i 0<=xs.getD (i-1) 0)) (some false) (e:=Pj xs ()) (F:=B0y xs) (fun g i hi=>by
  have e:((i:Int)-1).toNat=i-1:=by omega
  have j:decide ((0:Int) < (i:Int))=decide (0<i):=by rw[decide_eq_decide]; omega
  refine(BZ hi h ⟨oo,rfl,fun f=>oo,fun f=>⟨by have:=f.1; simp at this; omega,by omega⟩,fun f=>oo,trivial⟩).trans ?_;rw[e,S9,vS,j]; rfl) (fun g=>aE)
 refine d.trans ?_;unfold F8 Pj;have k:((List.range xs.length).any fun i=>!m0 (xs.getD i 0) 0 100000||decide (0<i)&&decide (xs.getD i 0<=xs.getD (i-1) 0))=!(xs.all (m0 · 0 100000)&&DD xs):=by
  rw[<- Bm,<- U8 xs 0 (fun x=>!m0 x 0 100000),DD,<- Bool.not_or,Bool.not_not];rw[Bool.eq_iff_iff,Bool.or_eq_true,List.any_eq_true,List.any_eq_true,List.any_eq_true];constructor
  ·rintro⟨i,a,b⟩;rcases Bool.or_eq_true _ _ ▸ b with c | c
   ·exact .inl ⟨i,a,c⟩
   ·exact .inr ⟨i,a,c⟩
  ·rintro(⟨i,a,b⟩ | ⟨i,a,b⟩)
   ·exact⟨i,a,by rw[b]; rfl⟩
   ·exact⟨i,a,by rw[b,Bool.or_true]⟩
 rw[k];cases hA:(xs.all (m0 · 0 100000)&&DD xs) with
 | false=>rw[if_pos (by rfl),Bool.and_assoc,hA,Bool.and_false]
 | true =>
   rw[if_neg (by simp),Bool.and_assoc,hA,Bool.and_true];refine congrArg some ?_;rw[Bool.eq_iff_iff];simp only[ba,dq];omega
theorem M0H(t:u6)(i:wf y70 t):Hd t=some (C8 t):=by
 obtain⟨⟨g,_⟩,⟨c,_⟩,d,_⟩:=i;unfold Hd;have f:(F8 t.1&&F8 t.2.1)=true/\True->c9 ((t.1.length:Int)*(t.2.1.length:Int)):=fun a=>by
  have a:=a.1;rw[ba] at a;obtain⟨l,b⟩:=CI a.1;obtain⟨m,j⟩:=CI a.2;have k:t.1.length*t.2.1.length<=4*4:=Nat.mul_le_mul b j;have e:(t.1.length:Int)*(t.2.1.length:Int)=((t.1.length*t.2.1.length:Nat):Int):=by simp
  rw[e];exact oo
 rw[L0C _ g,L0C _ c,HI _ _ _ d,vS,vS,vS,gP ⟨rfl,fun _=>rfl,f,fun _=>rfl,trivial⟩];congr 1;unfold C8;congr 2;rw[Bool.eq_iff_iff];simp only[beq_iff_eq,dq];constructor
 ·intro h; exact_mod_cast h
 ·intro h; exact_mod_cast h
theorem r45(t:u6)(m:wf y70 t):Lk t=some (C8 t):=by
 obtain⟨⟨l,_⟩,⟨f,_⟩,c,_⟩:=m;unfold Lk;have j:(!F8 t.1||!F8 t.2.1)=false/\True->c9 ((t.1.length:Int)*(t.2.1.length:Int)):=fun a=>by
  have a:=a.1;simp only[Bool.or_eq_false_iff,Bool.not_eq_false'] at a;obtain⟨r,d⟩:=CI a.1;obtain⟨s,o⟩:=CI a.2;have q:t.1.length*t.2.1.length<=4*4:=Nat.mul_le_mul d o;have e:(t.1.length:Int)*(t.2.1.length:Int)=((t.1.length*t.2.1.length:Nat):Int):=by simp
  rw[e];exact oo
 rw[L0N _ l,L0N _ f,vS,vS,gP ⟨rfl,fun _=>rfl,j,trivial⟩];have b:=H2 (n:=t.2.2.length) c (fun i=>!m0 (t.2.2.getD i 0) (-1000000) 1000000) (some false) (e:=some true) (F:=G0o t) (fun g i hi=>BZ hi c ⟨oo,rfl,trivial⟩) (fun g=>aE);rw[b,U8 t.2.2 0 (fun x=>!m0 x (-1000000) 1000000)];have e:((t.2.2.length:Int) != (t.1.length:Int)*(t.2.1.length:Int))=!decide (t.2.2.length=t.1.length*t.2.1.length):=by
  rw[Bool.eq_iff_iff];simp only[bne_iff_ne,Bool.not_eq_true',decide_eq_false_iff_not,ne_eq];constructor
  ·intro h k; exact h (by exact_mod_cast k)
  ·intro h k; exact h (by exact_mod_cast k)
 rw[e];unfold C8;rw[<- Bm];cases F8 t.1 <;> cases F8 t.2.1 <;> cases decide (t.2.2.length=t.1.length*t.2.1.length) <;> cases(t.2.2.any fun x=>!m0 x (-1000000) 1000000) <;> rfl
end Go.Proofs.YtdjgagoledoaaaaGreatDoor
end
section
namespace Go.Proofs.YtdjgagoledoaaaaGreatDoor
open Go Go.Proofs Go.Proofs.Sv Go.Proofs.Xv Go.Proofs.Xl Go.Proofs.Xd
theorem QQ(s:ByteArray)(h:s.size<=9223372036854775807):Ad s=some (I4 s):=by
 have a:=H2 (n:=s.size) h (fun i=>!FJ (F3 s i) i) (some false) (e:=Pe s ()) (F:=B0m s) (fun g i hi=>by
  refine(E0L hi h ⟨oo,fun _=>oo,trivial⟩ ⟨oo,fun _=>oo,trivial⟩).trans ?_;have b:decide ((0:Int) < (i:Int))=decide (0<i):=by rw[decide_eq_decide]; omega
  have c:((i:Int)).toNat=i:=rfl;rw[b,c];unfold FJ Bk Jz;rw[Bool.not_or]) (fun g=>aE)
 refine a.trans ?_;unfold I4 Pe;rw[q0w];cases(List.range s.size).any fun i=>!FJ (F3 s i) i
 ·rfl
 ·rfl
theorem We(s:ByteArray)(h:s.size<=9223372036854775807):R9 s=some (I4 s):=by
 unfold R9;have g:FB s ⟨#[97,98,99,100,101,102,103,104,105,106,107,108,109,110,111,112,113,114,115,116,117,118,119,120,121,122,48,49,50,51,52,53,54,55,56,57]⟩=some ⟨(Lib.trimS s.data.toList low36).toArray⟩:=if_pos ⟨by decide,by decide⟩;have f:∀c,PC ⟨#[97,98,99,100,101,102,103,104,105,106,107,108,109,110,111,112,113,114,115,116,117,118,119,120,121,122]⟩ c=some (Lib.indexByte low26 c.toNat.toUInt8):=fun _=>rfl;rw[g,f,Y7,vS,vS,vS,gP ⟨rfl,fun _=>rfl,fun d=>⟨by decide,by
  have:=d.1;rw[ba,z8] at this;omega⟩,fun _=>rfl,trivial⟩,lE]
 refine congrArg some ?_;show(m0 (s.size:Int) 1 8&&decide ((⟨(Lib.trimS s.data.toList low36).toArray⟩:ByteArray)=⟨#[]⟩)&&decide (0<=Lib.indexByte low26 (F3 s (Int.toNat 0)).toNat.toUInt8))=I4 s;by_cases e:1<=s.size/\s.size<=8
 ·rw[y0I s e.1 e.2];have b:m0 (s.size:Int) 1 8=true:=by rw[z8]; omega
  have a:decide ((⟨(Lib.trimS s.data.toList low36).toArray⟩:ByteArray)=⟨#[]⟩)=(Lib.trimS s.data.toList low36==[]):=by
   rw[Bool.eq_iff_iff,dq,beq_iff_eq];constructor
   ·intro h;injection h with h;have:=congrArg Array.toList h;simpa using this
   ·intro h; rw[h]
  rw[b,a,Bool.true_and];rfl
 ·have b:m0 (s.size:Int) 1 8=false:=by rw[<- Bool.not_eq_true,z8]; omega
  have a:I4 s=false:=by
   rw[<- Bool.not_eq_true];intro d;simp only[I4,ba,dq] at d;omega
  rw[b,a]; rfl
theorem M0S(xs:List ByteArray)(x:ByteArray)(h:xs.length<=9223372036854775807):PB xs x=some (xs.any fun y=>decide (x=y)):=by
 have a:PA xs x=_:=CL h (fun i=>decide (x=xs.getD i (b7 .str))) (fun g i hi=>by
  refine(if_pos (by simpa using hi)).trans ?_;rw[gP ⟨oo,trivial⟩,gP ⟨oo,trivial⟩];rfl) (fun g=>aE)
 have:=HF a;rw[U8 xs (b7 .str) (fun y=>decide (x=y))] at this;exact this
theorem MZ(xs:List ByteArray)(c:wf (.sl .str) xs):Y3 xs=some (D0 xs.length fun i=>xs.getD i (b7 .str)):=by
 have h:=c.1;have a:=H2 (n:=xs.length) h (fun i=>!I4 (xs.getD i (b7 .str))||P0 (fun i=>xs.getD i (b7 .str)) i) (some false) (e:=some true) (F:=A0F xs) (fun g i hi=>by
  have f:=Y8 (d:=b7 .str) hi c;have l:(xs.take i).length<=9223372036854775807:=by rw[List.length_take]; omega
  have k:=We _ f;have b:=M0S (xs.take i) (xs.getD i (b7 .str)) l;rw[x0I xs (b7 .str) i hi] at b;have j:((i:Int)).toNat=i:=rfl;refine(if_pos (by simpa using hi)).trans ?_;rw[j,k,b,vS,vS,gP ⟨oo,trivial⟩,gP ⟨rfl,fun _=>⟨by omega,by omega,by omega⟩,fun _=>rfl,trivial⟩,gP ⟨oo,trivial⟩]) (fun g=>aE)
 refine a.trans ?_;unfold D0;cases(List.range xs.length).any fun i=>!I4 (xs.getD i (b7 .str))||P0 (fun i=>xs.getD i (b7 .str)) i <;> rfl
theorem Wf(xs:List ByteArray)(c:wf (.sl .str) xs):BN xs=some (D0 xs.length fun i=>xs.getD i (b7 .str)):=by
 have h:=c.1;have b:=H2 (n:=xs.length) h (fun i=>!I4 (xs.getD i (b7 .str))||P0 (fun i=>xs.getD i (b7 .str)) i) (some false) (e:=some true) (F:=A0O xs) (fun g i hi=>by
  have f:=Y8 (d:=b7 .str) hi c;have o:=QQ _ f;have m:((i:Int)).toNat=i:=rfl;have a:=H2 (n:=i) (by omega) (fun k=>decide (xs.getD k (b7 .str)=xs.getD i (b7 .str))) (some false) (e:=g ((i:Int)+1)) (F:=A0N xs (i:Int) g) (fun j k l=>by
   refine(BZ l (by omega) ⟨oo,oo,trivial⟩).trans ?_;rfl) (fun j=>by
   refine aE.trans ?_;unfold TW;exact gP ⟨oo,trivial⟩)
  refine(if_pos (by simpa using hi)).trans ?_;rw[m,o,vS,gP ⟨oo,rfl,trivial⟩,a];unfold P0;cases I4 (xs.getD i (b7 .str)) <;> cases(List.range i).any fun k=>decide (xs.getD k (b7 .str)=xs.getD i (b7 .str)) <;> rfl) (fun g=>aE)
 refine b.trans ?_;unfold D0;cases(List.range xs.length).any fun i=>!I4 (xs.getD i (b7 .str))||P0 (fun i=>xs.getD i (b7 .str)) i <;> rfl
theorem L0D(xs:List Int)(h:xs.length<=9223372036854775807)(b:1<=xs.length):Jh xs=some (AJ xs):=by
 unfold Jh;rw[if_neg (by simp; omega)];unfold UC;rw[gP ⟨oo,trivial⟩];have a:=lF (n:=xs.length-1) (by omega) (fun i (m:Int)=>(m,((i+1:Nat):Int))) (fun i m=>min m (xs.getD (i+1) 0)) (fun _ _=>True) (J:=fun m=>some m) (F:=UB xs) (fun g i s hi _=>by
  refine(if_pos (by simp; omega)).trans ?_;rw[gP ⟨oo,trivial⟩,gP ⟨oo,trivial⟩];rfl) (fun _ _ _ _=>trivial) (fun g s _=>by
  have e:xs.length-1+1=xs.length:=by omega
  show UB xs g (s,((xs.length-1+1:Nat):Int))=some s;rw[e];exact aE) (xs.getD 0 0) trivial
 exact a
theorem M0I(t:u6)(p:Bool)(a:wf y70 t):LU t p=some (!C8 t||p&&decide (AJ t.2.2<0)):=by
 unfold LU;have c:p=true/\(!C8 t)=false/\True->(Jh t.2.2).isSome=true:=fun d=>by
  have b:C8 t=true:=by simpa using d.2.1
  rw[L0D _ a.2.2.1 (FK b).2.2.2.2.2.1]; rfl
 rw[M0H t a,vS,gP ⟨rfl,c,trivial⟩,lE];refine congrArg some ?_;cases hT:C8 t with
 | false=>rfl
 | true=>rw[L0D _ a.2.2.1 (FK hT).2.2.2.2.2.1,vS]
theorem Wg(l:List u6)(p:Bool)(a:wf (.sl y70) l):P6 l p=some (D9 l p):=by
 have h:=a.1;have c:PI l p=_:=CL h (fun i=>!C8 (l.getD i (b7 y70))||p&&decide (AJ (l.getD i (b7 y70)).2.2<0)) (fun g i hi=>HE hi h (M0I _ _ (Y8 hi a))) (fun g=>aE);have b:PJ l p=_:=HF c;rw[U8 l (b7 y70) (fun t=>!C8 t||p&&decide (AJ t.2.2<0))] at b;unfold P6;rw[b,vS,gP ⟨fun _=>rfl,trivial⟩];refine congrArg some ?_;unfold D9;have e:((l.length:Int)==2)=decide (l.length=2):=by
  rw[Bool.eq_iff_iff,beq_iff_eq,dq]; omega
 rw[e,<- Bm];congr 3;funext t;rw[Bool.not_and,Bool.not_not]
theorem q0K(xs:List Int):∀n,(fN (fun i (s:Int×Int)=>(min s.1 (xs.getD (i+1) 0),max s.2 (xs.getD (i+1) 0))) n (xs.getD 0 0,xs.getD 0 0)).1=fN (fun i m=>min m (xs.getD (i+1) 0)) n (xs.getD 0 0)
 | 0=>rfl
 | n+1=>by rw[fN,fN,q0K xs n]
theorem M0J(t:u6)(b:wf y70 t):∃l,Ll t=some (if C8 t=true then((AJ t.2.2,l),0) else((0,0),1)):=by
 unfold Ll;rw[r45 t b,vS,gP ⟨rfl,trivial⟩];cases hT:C8 t with
 | false=>exact⟨0,rfl⟩
 | true =>
   have c:=(FK hT).2.2.2.2.2.1;have h:=b.2.2.1;have a:=lF (n:=t.2.2.length-1) (by omega) (fun i (s:Int×Int)=>(((i+1:Nat):Int),s.1,s.2)) (fun i s=>(min s.1 (t.2.2.getD (i+1) 0),max s.2 (t.2.2.getD (i+1) 0))) (fun _ _=>True) (J:=fun s=>some ((s.1,s.2),(0:Int))) (F:=TX t) (fun g i s hi _=>by
    refine(if_pos (by simp; omega)).trans ?_;rw[gP ⟨oo,trivial⟩,gP ⟨oo,trivial⟩,gP ⟨oo,trivial⟩];rfl) (fun _ _ _ _=>trivial) (fun g s _=>by
    have e:t.2.2.length-1+1=t.2.2.length:=by omega
    show TX t g (((t.2.2.length-1+1:Nat):Int),s.1,s.2)=_;rw[e];exact aE) (t.2.2.getD 0 0,t.2.2.getD 0 0) trivial
   rw[if_neg (by simp),gP ⟨oo,oo,trivial⟩];rw[q0K] at a;exact⟨_,a⟩
theorem Na(l:List u6)(p:Bool)(d:wf (.sl y70) l):Y2 l p=some (D9 l p):=by
 unfold Y2;have e:((l.length:Int) != 2)=!decide (l.length=2):=by
  rw[Bool.eq_iff_iff]; simp; omega
 rw[e];unfold D9;by_cases a:l.length=2
 ·have b:=H2 (n:=2) (by decide) (fun i=>!C8 (l.getD i (b7 y70))||p&&decide (AJ (l.getD i (b7 y70)).2.2<0)) (some false) (e:=some true) (F:=TY p l) (fun g i hi=>by
   obtain⟨m,h⟩:=M0J (l.getD i (b7 y70)) (Y8 (by omega) d);have c:((i:Int)).toNat=i:=rfl;refine(if_pos (by simp; omega)).trans ?_;rw[c,h,vS,gP ⟨oo,rfl,trivial⟩,lE,gP ⟨oo,trivial⟩];cases C8 (l.getD i (b7 y70)) <;> rfl) (fun g=>by
   unfold TY;exact if_neg (by decide))
  rw[decide_eq_true a,if_neg (by simp)];refine b.trans ?_;have:=U8 l (b7 y70) (fun t=>!C8 t||p&&decide (AJ t.2.2<0));rw[a] at this;rw[this,<- Bm,Bool.true_and];have f:(fun t:u6=>!(C8 t&&!(p&&decide (AJ t.2.2<0))))=fun t=>!C8 t||p&&decide (AJ t.2.2<0):=by
   funext t; rw[Bool.not_and,Bool.not_not]
  rw[f];cases l.any fun t=>!C8 t||p&&decide (AJ t.2.2<0) <;> rfl
 ·rw[decide_eq_false a]; rfl
abbrev r5(c:m5)(i:Nat):I3:=c.2.2.1.getD i (b7 y233)
abbrev m8(c:m5)(i:Nat):A8:=c.2.2.2.1.getD i (b7 y67)
theorem Wh(c:m5)(a:wf y64 c):W5 c=some ((c.2.2.1.length:Int)-1):=by
 have h:=a.2.2.1.1;have e:CC c.2.2.1=some (c.2.2.1.length:Int):=rfl;unfold W5;rw[e,vS,gP ⟨rfl,oo,trivial⟩,lE]
theorem L0E(c:m5)(a:wf y64 c)(x:Int):Du c x=some (m0 x 0 ((c.2.2.1.length:Int)-1-1)):=by
 have h:=a.2.2.1.1;unfold Du;rw[Wh c a,vS,Y7,vS,gP ⟨rfl,oo,rfl,trivial⟩]
theorem M0K(c:m5)(a:wf y64 c):Ji c=some (FL c.2.2.1.length (r5 c)):=by
 have h:=a.2.2.1.1;have b:PK c.2.2.1=_:=CL h (fun i=>(r5 c i).2.2.2) (fun g i hi=>HE hi h rfl) (fun g=>aE);unfold Ji;rw[b,vS,gP ⟨rfl,trivial⟩,lE];rfl
theorem Wi(c:m5)(a:wf y64 c)(k:Int):O8 c k=some (D1 c.2.2.2.1.length (m8 c) k):=by
 have h:=a.2.2.2.1.1;have b:PE c.2.2.2.1 k=_:=CL h (fun i=>(m8 c i).1==k) (fun g i hi=>HE hi h rfl) (fun g=>aE);have d:PF c.2.2.2.1 k=_:=HF b;unfold O8;rw[d,vS,gP ⟨rfl,trivial⟩];rfl
theorem M0N(c:m5)(a:A8)(i:wf y64 c)(v:wf y67 a):He c a=some (DE c.2.2.1.length (r5 c) a):=by
 obtain⟨_,_,_,_,o,u⟩:=v;have t:PL a.1=some (a.1==4||a.1==5):=rfl;have s:m0 a.2.1 0 ((c.2.2.1.length:Int)-1-1)=true->ix a.2.1 c.2.2.1.length:=fun h=>by
  rw[z8] at h; exact oo
 unfold He;rw[t,Wg _ _ o,Wg _ _ o,Wg _ _ u,M0K c i,L0E c i,L0E c i,Wh c i]
 repeat rw[vS]
 rw[gP ⟨rfl,trivial⟩];unfold DE;by_cases Cz:a.1=4∨a.1=5
 ·have m:(a.1==4||a.1==5)=true:=by simpa using Cz
  rw[if_pos m,if_pos Cz,gP ⟨fun _=>rfl,fun _=>rfl,fun _=>rfl,trivial⟩,lE]
 ·have m:(a.1==4||a.1==5)=false:=by
   rw[<- Bool.not_eq_true]; simpa using Cz
  rw[m,if_neg (by simp),if_neg Cz,gP ⟨rfl,fun _=>rfl,fun _=>rfl,fun _=>rfl,trivial⟩,lE];by_cases d:D9 a.2.2.2.2.1 true=true/\D9 a.2.2.2.2.2 true=true/\a.2.2.1=(c.2.2.1.length:Int)-1/\m0 a.2.1 0 ((c.2.2.1.length:Int)-1-1)=true
  ·obtain⟨n,q,r,e⟩:=d;have l:(D9 a.2.2.2.2.1 true&&D9 a.2.2.2.2.2 true&&a.2.2.1==(c.2.2.1.length:Int)-1&&m0 a.2.1 0 ((c.2.2.1.length:Int)-1-1))=true:=by
    rw[n,q,e,r]; simp
   have k:(!D9 a.2.2.2.2.1 true||!D9 a.2.2.2.2.2 true||a.2.2.1 != (c.2.2.1.length:Int)-1||!m0 a.2.1 0 ((c.2.2.1.length:Int)-1-1))=false:=by
    rw[n,q,e,r]; simp
   rw[l,Bool.true_and];refine(if_neg (by rw[k]; simp)).trans ?_;by_cases f:a.1=1
   ·rw[if_pos (beq_iff_eq.2 f),if_pos f,Y7,gP ⟨s e,fun _=>rfl,trivial⟩];rfl
   ·rw[if_neg (by simpa using f),if_neg f];have j:∀b,LV c a b=some (if b=true then(r5 c a.2.1.toNat).2.2.2&&a.2.2.2.1==0 else false):=fun b=>by
     unfold LV;cases b with
     | false=>rfl
     | true=>rw[if_pos rfl,if_pos rfl,gP ⟨s e,trivial⟩]
    by_cases g:a.1=2
    ·rw[if_pos (beq_iff_eq.2 g),if_pos (.inl g),j,beq_iff_eq.2 g]; rfl
    ·rw[if_neg (by simpa using g),j];by_cases k3:a.1=3
     ·rw[beq_iff_eq.2 k3,if_pos rfl,if_pos (.inr k3)]
     ·rw[beq_eq_false_iff_ne.2 k3,if_neg (by simp),if_neg (by omega)]
  ·have k:(!D9 a.2.2.2.2.1 true||!D9 a.2.2.2.2.2 true||a.2.2.1 != (c.2.2.1.length:Int)-1||!m0 a.2.1 0 ((c.2.2.1.length:Int)-1-1))=true:=by
    rw[<- Bool.not_eq_false];intro h;simp only[Bool.or_eq_false_iff,Bool.not_eq_false',bne_eq_false_iff_eq] at h;exact d ⟨h.1.1.1,h.1.1.2,h.1.2,h.2⟩
   have l:(D9 a.2.2.2.2.1 true&&D9 a.2.2.2.2.2 true&&a.2.2.1==(c.2.2.1.length:Int)-1&&m0 a.2.1 0 ((c.2.2.1.length:Int)-1-1))=false:=by
    rw[<- Bool.not_eq_true];intro h;simp only[ba,beq_iff_eq] at h;exact d ⟨h.1.1.1,h.1.1.2,h.1.2,h.2⟩
   rw[l,Bool.false_and];exact if_pos k
theorem M0Q(c:m5)(a:A8)(t:wf y64 c)(s:wf y67 a):Ln c a=some (F5 c.2.2.1.length (r5 c) a):=by
 obtain⟨_,_,_,_,i,m⟩:=s;have h:=t.2.2.1.1;unfold Ln;rw[gP ⟨oo,trivial⟩,S9,S9]
 repeat rw[vS]
 rw[gP ⟨oo,rfl,fun _=>rfl,trivial⟩];unfold F5;by_cases d:m0 a.2.1 0 ((c.2.2.1.length:Int)-1-1)=true/\m0 a.2.2.1 0 ((c.2.2.1.length:Int)-1)=true
 ·obtain⟨k,l⟩:=d;have v:=z8.1 k;have u:=z8.1 l;rw[k,l,if_neg (by simp),gP ⟨oo,trivial⟩,lE,Bool.true_and,Bool.true_and];by_cases e:a.1=1
  ·rw[if_pos (beq_iff_eq.2 e),if_pos e,S9,Na _ _ i,Na _ _ m,gP ⟨fun _=>rfl,fun _=>rfl,fun _=>rfl,trivial⟩];rfl
  ·rw[if_neg (by simpa using e),if_neg e];have o:∀b,GW (r5 c a.2.1.toNat) a c b=some (if b=true then(r5 c a.2.1.toNat).2.2.2&&decide (a.2.2.1 < (c.2.2.1.length:Int)-1)&&!(r5 c a.2.2.1.toNat).2.2.2&&a.2.2.2.1==0&&D9 a.2.2.2.2.1 false&&(a.2.2.2.2.2.length:Int)==0 else false):=fun b=>by
    unfold GW;cases b with
    | false=>rfl
    | true =>
      rw[if_pos rfl,if_pos rfl,Na _ _ i,gP ⟨fun _=>oo,fun _=>rfl,trivial⟩];rfl
   have n:∀b,Lm (r5 c a.2.1.toNat) a c b=some (if b=true then(r5 c a.2.1.toNat).2.2.2&&a.2.2.1==(c.2.2.1.length:Int)-1&&a.2.2.2.1==0&&D9 a.2.2.2.2.1 true&&D9 a.2.2.2.2.2 true else if a.1=4∨a.1=5 then(r5 c a.2.1.toNat).2.2.2&&decide (a.2.2.1 < (c.2.2.1.length:Int)-1)&&!(r5 c a.2.2.1.toNat).2.2.2&&a.2.2.2.1==0&&D9 a.2.2.2.2.1 false&&(a.2.2.2.2.2.length:Int)==0 else false):=fun b=>by
    unfold Lm;cases b with
    | true =>
      rw[if_pos rfl,if_pos rfl,Na _ _ i,Na _ _ m,gP ⟨fun _=>rfl,fun _=>rfl,trivial⟩];rfl
    | false =>
      show(if(a.1==4)=true then GW (r5 c a.2.1.toNat) a c (a.1==4) else GW (r5 c a.2.1.toNat) a c (a.1==5))=some (if a.1=4∨a.1=5 then _ else false);by_cases g:a.1=4
      ·rw[if_pos (beq_iff_eq.2 g),o,beq_iff_eq.2 g,if_pos rfl,if_pos (.inl g)]
      ·rw[if_neg (by simpa using g),o];by_cases j:a.1=5
       ·rw[beq_iff_eq.2 j,if_pos rfl,if_pos (.inr j)]
       ·rw[beq_eq_false_iff_ne.2 j,if_neg (by simp),if_neg (by omega)]
   by_cases f:a.1=2
   ·rw[if_pos (beq_iff_eq.2 f),if_pos (.inl f)];refine(n _).trans ?_;rw[beq_iff_eq.2 f]; rfl
   ·rw[if_neg (by simpa using f)];refine(n _).trans ?_;by_cases k3:a.1=3
    ·rw[beq_iff_eq.2 k3,if_pos rfl,if_pos (.inr k3)]
    ·rw[beq_eq_false_iff_ne.2 k3,if_neg (by simp),if_neg (by omega:¬(a.1=2∨a.1=3))]
 ·have q:(!m0 a.2.1 0 ((c.2.2.1.length:Int)-1-1)||!m0 a.2.2.1 0 ((c.2.2.1.length:Int)-1))=true:=by
   rw[<- Bool.not_eq_false];intro h;simp only[Bool.or_eq_false_iff,Bool.not_eq_false'] at h;exact d h
  have r:(m0 a.2.1 0 ((c.2.2.1.length:Int)-1-1)&&m0 a.2.2.1 0 ((c.2.2.1.length:Int)-1))=false:=by
   rw[<- Bool.not_eq_true];intro h;rw[ba] at h;exact d h
  rw[r,Bool.false_and];exact if_pos q
theorem Wj{c:m5}(a:wf y64 c):wf (.sl y233) c.2.2.1:=a.2.2.1
theorem Wk{c:m5}(a:wf y64 c):wf (.sl y67) c.2.2.2.1:=a.2.2.2.1
theorem JL{a:Type}(l:List a)(f:a->ByteArray)(d:a)(e:ByteArray):D0 (l.map f).length (fun i=>(l.map f).getD i e)=D0 l.length fun i=>f (l.getD i d):=by
 rw[List.length_map];exact m0T fun i hi=>v0Q f l i d e hi
theorem JM{a:Type}{l:List a}{f:a->ByteArray}(h:l.length<=9223372036854775807)(c:∀x∈l,(f x).size<=9223372036854775807):wf (.sl .str) (l.map f):=by
 refine⟨by rw[List.length_map]; exact h,fun x b=>?_⟩;obtain⟨y,d,rfl⟩:=List.mem_map.1 b;exact c y d
def Y9(f:Nat->ByteArray)(i:Nat)(s:List ByteArray):List ByteArray:=s++[f i]
theorem v0S(f:Nat->ByteArray):∀n,fN (Y9 f) n []=(List.range n).map f
 | 0=>rfl
 | n+1=>by
   rw[fN,v0S f n,List.range_succ,List.map_append]; rfl
theorem JN{a:Type}(l:List a)(d:a)(f:a->ByteArray):fN (Y9 fun i=>f (l.getD i d)) l.length []=l.map f:=by
 rw[v0S,u0U]
theorem QR{n i b:Nat}(h:i<n)(c:n<=1048576)(a:b<=4096):i+1<=9223372036854775807/\(i+1)*b<=140737488355328:=by
 have:(i+1)*b<=1048576*4096:=Nat.mul_le_mul (by omega) a;exact oo
theorem M0V(l:List I3)(f:wf (.sl y233) l)(E:l.length<=1048576):FC l=some (AK l.length fun i=>l.getD i (b7 y233)):=by
 have h:=f.1;have a:=Nb (n:=l.length) h (fun i (s:List ByteArray)=>(s,(i:Int))) (Y9 fun i=>(l.getD i (b7 y233)).1) (fun i=>!Bn l.length (l.getD i (b7 y233)) i) (some false) (fun i s=>s.length=i) (J:=LX l) (F:=A0t l) (fun g i s hi j=>by
  refine(if_pos (by simpa using hi)).trans ?_;have y:((i:Int)).toNat=i:=rfl;have T:(s++[(l.getD i (b7 y233)).1]).length<=9223372036854775807:=by rw[List.length_append]; show s.length+1<=_; omega
  have Q:=QR (b:=16) hi E (by decide);have m:∀c,PO (i:Int) g c=g (c,((i+1:Nat):Int)):=fun c=>gP ⟨oo,trivial⟩;rw[y,gP ⟨oo,trivial⟩,lE,gP ⟨⟨by show s.length+1<=_; omega,by show(s.length+1)*16<=_; omega⟩,trivial⟩,gP ⟨oo,trivial⟩,m,Y7,gP ⟨fun _=>rfl,trivial⟩,vS];unfold Bn Y9;dsimp only;by_cases e:i+1=l.length
  ·have d:((i:Int)==(l.length:Int)-1)=true:=by rw[beq_iff_eq]; omega
   rw[if_pos d,if_pos e];generalize l.getD i (b7 y233)=q;have r:(q.2.1 != 2)=!(q.2.1==2):=rfl;have P:(q.2.2.1 != 0)=!(q.2.2.1==0):=rfl;rw[r,P];cases c2:q.2.2.1==0 with
   | true =>
     have k:m0 q.2.2.1 0 500=true:=by rw[beq_iff_eq.1 c2]; rfl
     rw[k];cases q.2.1==2 <;> cases q.2.2.2 <;> rfl
   | false=>cases m0 q.2.2.1 0 500 <;> cases q.2.1==2 <;> cases q.2.2.2 <;> rfl
  ·have d:¬((i:Int)==(l.length:Int)-1)=true:=by rw[beq_iff_eq]; omega
   rw[if_neg d,if_neg e];generalize l.getD i (b7 y233)=q;have o:(q.2.1 != 1||!m0 q.2.2.1 0 500)=!(m0 q.2.2.1 0 500&&q.2.1==1):=by
    rw[Bool.not_and,Bool.or_comm]; rfl
   rw[o]) (fun i s hi j _=>by unfold Y9; rw[List.length_append,j]; rfl) (fun g s _=>aE) [] rfl
 refine a.trans ?_;rw[JN];have z:wf (.sl .str) (l.map fun q:I3=>q.1):=JM h fun x w=>(f.2 x w).1;have t:CC l=some (l.length:Int):=rfl;have H:∀v:List ByteArray,wf (.sl .str) v->LX l v=some (m0 (l.length:Int) 2 5&&D0 v.length fun i=>v.getD i (b7 .str)):=fun v G=>by
  rw[LX];rw[t,MZ _ G]
  repeat rw[vS]
  rw[Y7,vS,gP ⟨rfl,rfl,fun _=>rfl,trivial⟩]
 rw[H _ z,JL l (fun q:I3=>q.1) (b7 y233)];unfold AK;have u:m0 (l.length:Int) 2 5=(decide (2<=l.length)&&decide (l.length<=5)):=by
  rw[Bool.eq_iff_iff,z8]; simp; omega
 rw[u];cases(List.range l.length).any fun i=>!Bn l.length (l.getD i (b7 y233)) i
 ·simp
 ·simp
theorem M0R(c:m5)(H:wf y64 c):Lo c=some (if AK c.2.2.1.length (r5 c)=true then(I5 c.2.2.1.length (r5 c),true) else(0,false)):=by
 have r:=Wj H;have h:=r.1;unfold Lo;by_cases l:2<=c.2.2.1.length/\c.2.2.1.length<=5
 ·have j:(decide ((c.2.2.1.length:Int)<2)||decide (5 < (c.2.2.1.length:Int)))=false:=by
   rw[<- Bool.not_eq_true]; simp; omega
  rw[j,if_neg (by simp)];have f:=Nb (n:=c.2.2.1.length) h (fun i (s:Int)=>(s,(i:Int))) (fun i s=>if(r5 c i).2.2.2=true then s+1 else s) (fun i=>(!I4 (r5 c i).1||P0 (fun i=>(r5 c i).1) i)||!Bn c.2.2.1.length (r5 c i) i) (some ((0:Int),false)) (fun i s=>0<=s/\s<=i) (J:=TZ) (F:=A0q c) (fun g i s hi t=>by
   refine(if_pos (by simpa using hi)).trans ?_;have G:((i:Int)).toNat=i:=rfl;have T:(r5 c i).1.size<=9223372036854775807:=(Y8 (d:=b7 y233) hi r).1;rw[G,gP ⟨oo,trivial⟩,lE];have a:=H2 (n:=i) (by omega) (fun k=>decide ((r5 c k).1=(r5 c i).1)) (some ((0:Int),false)) (e:=Pl (i:Int) s (r5 c i) c g ()) (F:=A0p c (r5 c i) (i:Int) s g) (fun u k w=>BZ w (by omega) ⟨oo,trivial⟩) (fun u=>aE);refine a.trans ?_;have Y:Pl (i:Int) s (r5 c i) c g ()=if(!I4 (r5 c i).1||!Bn c.2.2.1.length (r5 c i) i)=true then some ((0:Int),false) else g (if(r5 c i).2.2.2=true then s+1 else s,((i+1:Nat):Int)):=by
    have o:∀m,Pk (i:Int) g m=g (m,((i+1:Nat):Int)):=fun m=>gP ⟨oo,trivial⟩;show gd _ (if(!vl (Ad (r5 c i).1)||!vl (u5 (r5 c i).2.2.1 0 500))=true then _ else gd _ (if _=true then _ else if _=true then gd _ _ else _))=_;rw[QQ _ T,S9,vS,vS,gP ⟨rfl,fun _=>rfl,trivial⟩,gP ⟨oo,fun _=>oo,trivial⟩,gP ⟨oo,trivial⟩,o,o];generalize r5 c i=q;have E:((i:Int)==(c.2.2.1.length:Int)-1)=decide (i+1=c.2.2.1.length):=by
     rw[Bool.eq_iff_iff,beq_iff_eq,dq]; omega
    have y:decide ((i:Int) < (c.2.2.1.length:Int)-1)=!decide (i+1=c.2.2.1.length):=by
     rw[Bool.eq_iff_iff]; simp; omega
    rw[E,y];have hz:Bn c.2.2.1.length q i=(m0 q.2.2.1 0 500&&(if decide (i+1=c.2.2.1.length)=true then q.2.1==2&&q.2.2.1==0&&!q.2.2.2 else q.2.1==1)):=by
     unfold Bn;by_cases b:i+1=c.2.2.1.length
     ·rw[if_pos b,decide_eq_true b,if_pos rfl]
     ·rw[if_neg b,decide_eq_false b,if_neg (by simp)]
    rw[hz];have x:(q.2.1 != 2)=!(q.2.1==2):=rfl;have W:(q.2.2.1 != 0)=!(q.2.2.1==0):=rfl;have n3:(q.2.1 != 1)=!(q.2.1==1):=rfl;rw[x,W,n3];cases I4 q.1 <;> cases m0 q.2.2.1 0 500 <;> cases decide (i+1=c.2.2.1.length) <;> cases q.2.1==2 <;> cases q.2.2.1==0 <;> cases q.2.1==1 <;> cases q.2.2.2 <;> rfl
   rw[Y];have z:P0 (fun i=>(r5 c i).1) i=(List.range i).any fun k=>decide ((r5 c k).1=(r5 c i).1):=rfl;rw[z];cases I4 (r5 c i).1 <;> cases Bn c.2.2.1.length (r5 c i) i <;> cases(List.range i).any (fun k=>decide ((r5 c k).1=(r5 c i).1)) <;> rfl) (fun i s hi t _=>by
   have Q:0<=s/\s<=(i:Int):=t;show 0<=(if(r5 c i).2.2.2=true then s+1 else s)/\(if(r5 c i).2.2.2=true then s+1 else s)<=((i+1:Nat):Int);split <;> omega) (fun g s _=>aE) 0 oo
  refine f.trans ?_;rw[QL];unfold AK D0;rw[decide_eq_true l.1,decide_eq_true l.2];cases(List.range c.2.2.1.length).any (fun i=>!I4 (r5 c i).1||P0 (fun i=>(r5 c i).1) i) <;> cases(List.range c.2.2.1.length).any (fun i=>!Bn c.2.2.1.length (r5 c i) i) <;> rfl
 ·have j:(decide ((c.2.2.1.length:Int)<2)||decide (5 < (c.2.2.1.length:Int)))=true:=by
   simp; omega
  have X:¬AK c.2.2.1.length (r5 c)=true:=fun P=>by
   obtain⟨v,V,_⟩:=JB P;exact l ⟨v,V⟩
  rw[if_pos j,if_neg X]
theorem M0U(c:m5)(k:wf y64 c):Hf c=some (Hz (DE c.2.2.1.length (r5 c)) c.2.2.2.1.length (m8 c)):=by
 have l:=Wk k;have h:=l.1;have m:∀(a:List A8) (o:A8),a.length<=9223372036854775807->LW a o=some (a.any fun x=>x.1==o.1&&x.2.1==o.2.1&&x.2.2.1==o.2.2.1):=fun a o j=>by
  have q:PM a o=_:=CL j (fun i=>(a.getD i (b7 y67)).1==o.1&&(a.getD i (b7 y67)).2.1==o.2.1&&(a.getD i (b7 y67)).2.2.1==o.2.2.1) (fun g i hi=>HE hi j rfl) (fun g=>aE);have d:LW a o=_:=HF q;rw[U8 a (b7 y67) (fun x=>x.1==o.1&&x.2.1==o.2.1&&x.2.2.1==o.2.2.1)] at d;exact d
 have b:=H2 (n:=c.2.2.2.1.length) h (fun i=>!DE c.2.2.1.length (r5 c) (m8 c i)||JA (m8 c) i) (some false) (e:=PN c ()) (F:=A0s c) (fun g i hi=>by
  have r:((i:Int)).toNat=i:=rfl;have t:(c.2.2.2.1.take i).length<=9223372036854775807:=by rw[List.length_take]; omega
  have s:=M0N c (m8 c i) k (Y8 hi l);have f:=m (c.2.2.2.1.take i) (m8 c i) t;rw[u0o c.2.2.2.1 (b7 y67) _ i (by omega)] at f;refine(if_pos (by grind)).trans ?_;rw[r,gP ⟨oo,trivial⟩,lE,s,f,vS,vS,gP ⟨rfl,fun _=>⟨by omega,by omega,by omega⟩,fun _=>rfl,trivial⟩,gP ⟨oo,trivial⟩];rfl) (fun g=>aE)
 refine b.trans ?_;unfold Hz PN;have e:decide ((c.2.2.2.1.length:Int)<=8)=decide (c.2.2.2.1.length<=8):=by rw[decide_eq_decide]; omega
 rw[e];cases(List.range c.2.2.2.1.length).any fun i=>!DE c.2.2.1.length (r5 c) (m8 c i)||JA (m8 c) i
 ·simp
 ·simp
theorem Nc{n:Nat}(h:1<=n):((n:Int)-1).toNat=n-1:=by omega
theorem M0T(c:m5)(a:wf y64 c)(u:2<=c.2.2.1.length)(l:c.2.2.1.length<=5):PH c=some (JC c.2.1 c.2.2.1.length (r5 c) c.2.2.2.1.length (m8 c) c.2.2.2.2.1):=by
 have m:=Wj a;have h:=m.1;have q:=a.2.2.2.2.1.1;have d:=lF (n:=c.2.2.1.length) h (fun i (s:Int)=>(s,(i:Int))) (fun i s=>if(r5 c i).2.2.2=true then s+1 else s) (fun i s=>0<=s/\s<=i) (J:=Jg c) (F:=A0r c) (fun g i s hi t=>by
  have k:∀j,PG (i:Int) g j=g (j,((i+1:Nat):Int)):=fun j=>gP ⟨oo,trivial⟩;have r:((i:Int)).toNat=i:=rfl;refine(if_pos (by grind)).trans ?_;rw[r,gP ⟨oo,trivial⟩,lE,gP ⟨oo,trivial⟩,k,k]
  grind) (fun i s hi t=>by
  omega) (fun g s _=>aE) 0 oo
 refine d.trans ?_;show Jg c (I5 c.2.2.1.length (r5 c))=_;have o:∀b:Int,Jg c b=some (if c.2.1=1 then b==0&&(c.2.2.2.2.1.length:Int)==1*2 ^ (c.2.2.1.length-1)&&c.2.2.2.2.1.all (m0 · 0 1)
  else if c.2.1=2 then b==1&&(c.2.2.2.2.1.length:Int)==0&&!D1 c.2.2.2.1.length (m8 c) 1&&!(D1 c.2.2.2.1.length (m8 c) 2==D1 c.2.2.2.1.length (m8 c) 3)
  else if c.2.1=3 then b==1&&(c.2.2.2.2.1.length:Int)==0&&D1 c.2.2.2.1.length (m8 c) 1&&D1 c.2.2.2.1.length (m8 c) 2&&!D1 c.2.2.2.1.length (m8 c) 3
  else false):=fun b=>by
  rw[Jg,Wh c a,HI _ _ _ q,Wi c a,Wi c a,Wi c a]
  repeat rw[vS]
  rw[Nc (by omega)];by_cases e:c.2.1=1
  ·rw[if_pos (beq_iff_eq.2 e),if_pos e,gP ⟨fun _=>rfl,fun _=>⟨by omega,B0H l⟩,fun _=>rfl,trivial⟩,lE,Nc (by omega)]
  ·rw[if_neg (by grind),if_neg e];by_cases f:c.2.1=2
   ·rw[if_pos (beq_iff_eq.2 f),if_pos f,gP ⟨fun _=>rfl,fun _=>rfl,fun _=>rfl,trivial⟩]
   ·rw[if_neg (by grind),if_neg f];by_cases k3:c.2.1=3
    ·rw[if_pos (beq_iff_eq.2 k3),if_pos k3,gP ⟨fun _=>rfl,fun _=>rfl,fun _=>rfl,trivial⟩]
    grind
 exact o (I5 c.2.2.1.length (r5 c))
abbrev Bq(q:Nat->(Nat->N4)->D7->Bool)(c:m5):Bool:=U9 q c.1 c.2.1 c.2.2.1.length (r5 c) c.2.2.2.1.length (m8 c) c.2.2.2.2.1 c.2.2.2.2.2.1 c.2.2.2.2.2.2
theorem N0a(c:m5)(b:wf y64 c)(g:c.2.2.1.length<=1048576):LY c=some (Bq F5 c):=by
 have f:=Wj b;show _=some (U9 F5 _ _ _ _ _ _ _ _ _);rw[<- E0C];unfold LY U9;rw[We c.1 b.1,M0V _ f g,M0U c b,Y7,Y7]
 repeat rw[vS]
 cases hpo:AK c.2.2.1.length (r5 c) with
 | false =>
   rw[gP ⟨rfl,fun _=>rfl,fun a=>by simp at a,fun a=>by simp at a,fun a=>by simp at a,fun a=>by simp at a,trivial⟩];simp
 | true =>
   obtain⟨e,d,_⟩:=JB hpo;rw[M0T c b e d,vS,gP ⟨rfl,fun _=>rfl,fun _=>rfl,fun _=>rfl,fun _=>rfl,fun _=>rfl,trivial⟩]
theorem M0P(c:m5)(u:wf y64 c)(w:c.2.2.2.1.length<=8)(k:∀i,i<c.2.2.2.1.length->1<=(m8 c i).1/\(m8 c i).1<=5):Lj c=some (fN (HB (m8 c)) c.2.2.2.1.length (List.replicate 6 0)):=by
 have h:=(Wk u).1;unfold Lj;rw[gP ⟨⟨by omega,rfl,by decide,by omega⟩,trivial⟩];have o:=lF (n:=c.2.2.2.1.length) h (fun i (v:List Int)=>((i:Int),v)) (HB (m8 c)) (fun i v=>i<=c.2.2.2.1.length/\v=fN (HB (m8 c)) i (List.replicate 6 0)) (J:=fun v=>some v) (F:=A0n c) (fun g i v hi e=>by
  obtain⟨q,m⟩:=VN (m8 c) i (fun j x=>k j (by omega));obtain⟨y,z⟩:=k i hi;have l:v.length=6:=by rw[e.2]; exact q
  have a:=m (m8 c i).1.toNat (by omega);have r:=MS (m8 c) ((m8 c i).1.toNat:Int) i;rw[<- e.2] at a;have t:((i:Int)).toNat=i:=rfl;refine(if_pos (by grind)).trans ?_;have f:c9 (v.getD (m8 c i).1.toNat 0+1):=by rw[a]; exact oo
  have b:ix (m8 c i).1 v.length:=oo;have d:(m8 c i).1.toNat<v.length:=by omega
  rw[t,gP ⟨oo,b,d,f,b,d,trivial⟩,lE,gP ⟨oo,trivial⟩];rfl) (fun i v hi e=>⟨by omega,by rw[e.2]; rfl⟩) (fun g s _=>aE) (List.replicate 6 0) ⟨by omega,rfl⟩
 grind
theorem M0Z(c:m5)(f:wf y64 c):Lq c=some (Bq F5 c):=by
 have Q:=Wk f;have h:=Q.1;show _=some (U9 F5 _ _ _ _ _ _ _ _ _);unfold Lq U9;rw[M0R c f,QQ c.1 f.1,S9,S9]
 repeat rw[vS]
 rw[gP ⟨rfl,trivial⟩,lE,gP ⟨fun _=>rfl,fun _=>rfl,fun _=>rfl,trivial⟩];cases hpo:AK c.2.2.1.length (r5 c) with
 | false =>
   grind
 | true =>
   obtain⟨h2,h5,_⟩:=JB hpo;have e9:(if true=true then(I5 c.2.2.1.length (r5 c),true) else((0:Int),false))=(I5 c.2.2.1.length (r5 c),true):=rfl;rw[e9];by_cases z:I4 c.1=true/\c.2.2.2.1.length<=8/\m0 c.2.2.2.2.2.1 0 100000=true/\m0 c.2.2.2.2.2.2 0 100000=true
   ·obtain⟨g1,G,q,g4⟩:=z;have e0:decide (8 < (c.2.2.2.1.length:Int))=false:=decide_eq_false (by omega);rw[g1,e0,q,g4];refine(if_neg (by simp)).trans ?_;have r:=H2 (n:=c.2.2.2.1.length) h (fun i=>!F5 c.2.2.1.length (r5 c) (m8 c i)||JA (m8 c) i) (some false) (e:=Pm c (I5 c.2.2.1.length (r5 c),true) ()) (F:=A0B c (I5 c.2.2.1.length (r5 c),true)) (fun g i hi=>by
     have e3:((i:Int)).toNat=i:=rfl;have e1:=M0Q c (m8 c i) f (Y8 hi Q);have d:=H2 (n:=i) (by omega) (fun k=>(m8 c k).1==(m8 c i).1&&(m8 c k).2.1==(m8 c i).2.1&&(m8 c k).2.2.1==(m8 c i).2.2.1) (some false) (e:=g ((i:Int)+1)) (F:=A0A c (m8 c i) (i:Int) g) (fun q k hk=>BZ hk (by omega) ⟨oo,fun _=>oo,fun _=>oo,trivial⟩) (fun q=>by
      refine aE.trans ?_;exact gP ⟨oo,trivial⟩)
     refine(if_pos (by grind)).trans ?_;rw[e3,gP ⟨oo,trivial⟩,lE,e1,vS,gP ⟨rfl,trivial⟩,d];unfold JA
     grind) (fun g=>aE)
    refine r.trans ?_;unfold Hz;rw[decide_eq_true G];cases hany:(List.range c.2.2.2.1.length).any fun i=>!F5 c.2.2.1.length (r5 c) (m8 c i)||JA (m8 c) i with
    | true=>simp
    | false =>
      rw[if_neg (by simp)];have b:∀i,i<c.2.2.2.1.length->F5 c.2.2.1.length (r5 c) (m8 c i)=true:=fun i hi=>by
       grind
      have l:=M0P c f G (fun i hi=>n0L (b i hi));obtain⟨E,a⟩:=VN (m8 c) c.2.2.2.1.length (fun i hi=>n0L (b i hi));have V:=a 1 (by omega);have c2:=a 2 (by omega);have H:=a 3 (by omega);rw[Pm,l,vS,gP ⟨rfl,trivial⟩,lE];generalize fN (HB (m8 c)) c.2.2.2.1.length (List.replicate 6 0)=v at *
      have q1:((v.getD 1 0)==(0:Int))=!D1 c.2.2.2.1.length (m8 c) 1:=by
       rw[V,JD];have:=(MS (m8 c) 1 c.2.2.2.1.length).1;rw[Bool.eq_iff_iff]; simp; omega
      have u:decide (0<v.getD 1 0)=D1 c.2.2.2.1.length (m8 c) 1:=by rw[V,JD]; rfl
      have P:decide (0<v.getD 2 0)=D1 c.2.2.2.1.length (m8 c) 2:=by rw[c2,JD]; rfl
      have q3:decide (0<v.getD 3 0)=D1 c.2.2.2.1.length (m8 c) 3:=by rw[H,JD]; rfl
      have t:((v.getD 3 0)==(0:Int))=!D1 c.2.2.2.1.length (m8 c) 3:=by
       rw[H,JD];have:=(MS (m8 c) 3 c.2.2.2.1.length).1;rw[Bool.eq_iff_iff]; simp; omega
      have W:ix (1:Int) v.length:=oo;have i2:ix (2:Int) v.length:=oo;have i3:ix (3:Int) v.length:=oo;have T:Int.toNat (1:Int)<v.length:=by rw[E]; decide
      have Y:Int.toNat (2:Int)<v.length:=by rw[E]; decide
      have n3:Int.toNat (3:Int)<v.length:=by rw[E]; decide
      unfold JC;by_cases o:c.2.1=1
      ·rw[if_pos (beq_iff_eq.2 o),if_pos o];have X:=f.2.2.2.2.1.1;have j:=H2 (n:=c.2.2.2.2.1.length) X (fun i=>!m0 (c.2.2.2.2.1.getD i 0) 0 1) (some false) (e:=Lp (I5 c.2.2.1.length (r5 c),true) c ()) (F:=A0z c (I5 c.2.2.1.length (r5 c),true)) (fun g i hi=>BZ hi X ⟨oo,rfl,trivial⟩) (fun g=>aE);refine j.trans ?_;rw[U8 c.2.2.2.2.1 0 (fun x=>!m0 x 0 1),<- Bm];have e5:Lp (I5 c.2.2.1.length (r5 c),true) c ()=some (I5 c.2.2.1.length (r5 c)==0&&(c.2.2.2.2.1.length:Int)==1*2 ^ (c.2.2.1.length-1)):=by
        rw[Lp,Nc (by omega),gP ⟨fun _=>oo,fun _=>oo,fun _=>⟨by omega,B0H h5⟩,trivial⟩]
       rw[e5];cases c.2.2.2.2.1.any fun x=>!m0 x 0 1 <;> simp
      ·rw[if_neg (by simpa using o),if_neg o];by_cases m:c.2.1=2
       ·rw[if_pos (beq_iff_eq.2 m),if_pos m,gP ⟨fun _=>W,fun _=>T,fun _=>i2,fun _=>Y,fun _=>i3,fun _=>n3,trivial⟩];have s:Int.toNat (1:Int)=1:=rfl;have w:Int.toNat (2:Int)=2:=rfl;have y:Int.toNat (3:Int)=3:=rfl;rw[s,w,y,q1,P,q3];cases I5 c.2.2.1.length (r5 c)==1 <;> cases(c.2.2.2.2.1.length:Int)==0 <;> cases D1 c.2.2.2.1.length (m8 c) 1 <;> cases D1 c.2.2.2.1.length (m8 c) 2 <;> cases D1 c.2.2.2.1.length (m8 c) 3 <;> rfl
       ·rw[if_neg (by simpa using m),if_neg m];by_cases k3:c.2.1=3
        ·rw[if_pos (beq_iff_eq.2 k3),if_pos k3,gP ⟨fun _=>W,fun _=>T,fun _=>i2,fun _=>Y,fun _=>i3,fun _=>n3,trivial⟩];have s:Int.toNat (1:Int)=1:=rfl;have w:Int.toNat (2:Int)=2:=rfl;have y:Int.toNat (3:Int)=3:=rfl;rw[s,w,y,u,P,t];cases I5 c.2.2.1.length (r5 c)==1 <;> cases(c.2.2.2.2.1.length:Int)==0 <;> cases D1 c.2.2.2.1.length (m8 c) 1 <;> cases D1 c.2.2.2.1.length (m8 c) 2 <;> cases D1 c.2.2.2.1.length (m8 c) 3 <;> rfl
        ·rw[if_neg (by grind),if_neg k3];rfl
   grind[I4,decide,m0,trans,Hz]
abbrev T3(l:List m5)(i:Nat):m5:=l.getD i (b7 y64)
abbrev DH(l:List m5):Bool:=CJ l.length (fun i=>Bq F5 (T3 l i)) (fun i=>(T3 l i).1)
theorem w0q{c:m5}(h:Bq F5 c=true):I4 c.1=true:=by
 have h:U9 F5 _ _ _ _ _ _ _ _ _=true:=h;unfold U9 at h;simp only[ba] at h;exact h.1.1.1.1.1
theorem N0n(l:List m5)(d:wf (.sl y64) l)(j:cnt (.sl y64) l<=1048576):Ma l=some (DH l):=by
 have h:=d.1;have u:=Ca j;have a:=Nb (n:=l.length) h (fun i (s:List ByteArray)=>(s,(i:Int))) (Y9 fun i=>(T3 l i).1) (fun i=>!Bq F5 (T3 l i)) (some false) (fun i s=>s.length=i) (J:=LZ l) (F:=B0f l) (fun g i s hi f=>by
  have q:((i:Int)).toNat=i:=rfl;have e:cnt y64 (T3 l i)<=1048576:=I0s hi j;have k:(T3 l i).2.2.1.length<=1048576:=Ca (cF (cS (cS e)));have r:=N0a (T3 l i) (Y8 hi d) k;have y:=QR (b:=16) hi u (by decide);refine(if_pos (by simpa using hi)).trans ?_;rw[q,gP ⟨oo,trivial⟩,lE,r,vS,gP ⟨rfl,trivial⟩,gP ⟨⟨by show s.length+1<=_; omega,by show(s.length+1)*16<=_; omega⟩,trivial⟩,gP ⟨oo,trivial⟩];rfl) (fun i s hi f _=>by unfold Y9; rw[List.length_append,f]; rfl) (fun g s _=>aE) [] rfl
 refine a.trans ?_;rw[JN l (b7 y64) (fun c:m5=>c.1)];have t:wf (.sl .str) (l.map fun c:m5=>c.1):=JM h fun x o=>(d.2 x o).1;have m:∀v:List ByteArray,wf (.sl .str) v->LZ l v=some (decide (l.length<=8)&&D0 v.length fun i=>v.getD i (b7 .str)):=fun v w=>by
  have e8:decide ((l.length:Int)<=8)=decide (l.length<=8):=by rw[decide_eq_decide]; omega
  rw[LZ,MZ _ w,vS,gP ⟨fun _=>rfl,trivial⟩,e8]
 rw[m _ t,JL l (fun c:m5=>c.1) (b7 y64)];show _=some (CJ _ _ _);rw[<- I0a (fun i _ e=>w0q e)];split <;> rfl
theorem N0e(l:List m5)(c:wf (.sl y64) l):Lr l=some (DH l):=by
 have h:=c.1;have b:=H2 (n:=l.length) h (fun i=>!Bq F5 (T3 l i)||P0 (fun i=>(T3 l i).1) i) (some false) (e:=Pn l ()) (F:=A0W l) (fun g i hi=>by
  have j:((i:Int)).toNat=i:=rfl;have m:=M0Z (T3 l i) (Y8 hi c);have a:=H2 (n:=i) (by omega) (fun k=>decide ((T3 l k).1=(T3 l i).1)) (some false) (e:=g ((i:Int)+1)) (F:=A0V l (i:Int) g) (fun d k f=>BZ f (by omega) ⟨oo,oo,trivial⟩) (fun d=>by
   refine aE.trans ?_;exact gP ⟨oo,trivial⟩)
  refine(if_pos (by simpa using hi)).trans ?_;rw[j,m,vS,gP ⟨oo,rfl,trivial⟩,a];unfold P0;cases Bq F5 (T3 l i) <;> cases(List.range i).any (fun k=>decide ((T3 l k).1=(T3 l i).1)) <;> rfl) (fun g=>aE)
 refine b.trans ?_;show _=some (CJ _ _ _);unfold CJ Pn;have e8:decide ((l.length:Int)<=8)=decide (l.length<=8):=by rw[decide_eq_decide]; omega
 rw[e8];cases(List.range l.length).any (fun i=>!Bq F5 (T3 l i)||P0 (fun i=>(T3 l i).1) i) <;> rfl
abbrev m7(d:r8)(i:Nat):o4:=d.1.getD i (b7 y139)
abbrev A6(d:r8)(i:Nat):s7:=d.2.2.getD i (b7 y202)
abbrev Z0(l:List m5)(x:Int):Nat:=(l.getD x.toNat (b7 y64)).2.2.1.length
abbrev HJ(l:List m5)(d:r8):Bool:=CK (DH l) l.length (Z0 l) d.1.length d.2.2.length d.2.1.length (m7 d) (A6 d) (fun i=>d.2.1.getD i (b7 .str))
theorem L0K(d:r8)(a:wf y31 d)(x:Int):Hc d x=some (m0 x 0 ((d.2.1.length:Int)-1)):=by
 have h:=a.2.1.1;have e:Jf d.2.1=some (d.2.1.length:Int):=rfl;unfold Hc;rw[e]
 repeat rw[vS]
 rw[Y7,vS,gP ⟨rfl,oo,rfl,trivial⟩]
theorem N0l(d:r8)(l:List m5)(x:o4)(c:wf y31 d)(n:wf (.sl y64) l)(j:wf y139 x):LQ d l x=some (S0 l.length (Z0 l) d.2.1.length x):=by
 have h:=n.1;have b:=j.2.2.1;have e:FA l=some (l.length:Int):=rfl;have k:∀y,LP y d=some (!m0 y 0 ((d.2.1.length:Int)-1)):=fun y=>by
  unfold LP;rw[L0K d c,gP ⟨rfl,trivial⟩,vS]
 have f:Py x.2.2 d=_:=CL b (fun i=>!m0 (x.2.2.getD i 0) 0 ((d.2.1.length:Int)-1)) (fun g i hi=>HE hi b (k _)) (fun g=>aE);have a:Pz x.2.2 d=_:=HF f;rw[U8 x.2.2 0 (fun y=>!m0 y 0 ((d.2.1.length:Int)-1))] at a;unfold LQ;rw[e,a]
 repeat rw[vS]
 rw[Y7,vS,gP ⟨rfl,oo,rfl,fun m=>by
  have:=z8.1 m.1;exact oo,fun _=>rfl,trivial⟩,Bm]
 rfl
theorem N0m(d:r8)(h:wf y31 d)(u:cnt y31 d<=1048576):PD d=some (decide (d.1.length<=14)&&decide (d.2.1.length<=30)&&decide (d.2.2.length<=8)&&D0 d.1.length (fun i=>(m7 d i).1)&&D0 d.2.1.length (fun i=>d.2.1.getD i (b7 .str))&&D0 d.2.2.length (fun i=>(A6 d i).1)):=by
 have e:=h.1.1;have a:=h.2.2.1;have m:d.1.length<=1048576:=Ca (cF u);have o:d.2.2.length<=1048576:=Ca (cS (cS u));have k:=lF (n:=d.1.length) e (fun i (s:List ByteArray)=>(s,(i:Int))) (Y9 fun i=>(m7 d i).1) (fun i s=>s.length=i) (J:=LS d) (F:=B0e d) (fun g i s hi j=>by
  have r:((i:Int)).toNat=i:=rfl;have y:=QR (b:=16) hi m (by decide);refine(if_pos (by simpa using hi)).trans ?_;rw[r,gP ⟨oo,trivial⟩,lE,gP ⟨⟨by show s.length+1<=_; omega,by show(s.length+1)*16<=_; omega⟩,trivial⟩,gP ⟨oo,trivial⟩];rfl) (fun i s hi j=>by unfold Y9; rw[List.length_append,j]; rfl) (fun g s _=>aE) [] rfl
 refine k.trans ?_;rw[JN d.1 (b7 y139) (fun c:o4=>c.1)];have t:wf (.sl .str) (d.1.map fun c:o4=>c.1):=JM e fun x q=>(h.1.2 x q).1;have l:wf (.sl .str) (d.2.2.map fun c:s7=>c.1):=JM a fun x q=>(h.2.2.2 x q).1;have Q:∀v:List ByteArray,wf (.sl .str) v->v.length=d.1.length->LS d v=some (decide (d.1.length<=14)&&decide (d.2.1.length<=30)&&decide (d.2.2.length<=8)&&(D0 v.length fun i=>v.getD i (b7 .str))&&D0 d.2.1.length (fun i=>d.2.1.getD i (b7 .str))&&D0 d.2.2.length (fun i=>(A6 d i).1)):=fun v P w=>by
  rw[LS];have f:=lF (n:=d.2.2.length) a (fun i (s:List ByteArray)=>(s,(i:Int))) (Y9 fun i=>(A6 d i).1) (fun i s=>s.length=i) (J:=LR v d) (F:=B0d d v) (fun g i s hi j=>by
   have r:((i:Int)).toNat=i:=rfl;have y:=QR (b:=16) hi o (by decide);refine(if_pos (by simpa using hi)).trans ?_;rw[r,gP ⟨oo,trivial⟩,lE,gP ⟨⟨by show s.length+1<=_; omega,by show(s.length+1)*16<=_; omega⟩,trivial⟩,gP ⟨oo,trivial⟩];rfl) (fun i s hi j=>by unfold Y9; rw[List.length_append,j]; rfl) (fun g s _=>aE) [] rfl
  refine f.trans ?_;rw[JN d.2.2 (b7 y202) (fun c:s7=>c.1)];have V:∀z:List ByteArray,wf (.sl .str) z->z.length=d.2.2.length->LR v d z=some (decide (d.1.length<=14)&&decide (d.2.1.length<=30)&&decide (d.2.2.length<=8)&&(D0 v.length fun i=>v.getD i (b7 .str))&&D0 d.2.1.length (fun i=>d.2.1.getD i (b7 .str))&&D0 z.length (fun i=>z.getD i (b7 .str))):=fun z hz G=>by
   have T:decide ((v.length:Int)<=14)=decide (d.1.length<=14):=by rw[decide_eq_decide]; omega
   have H:decide ((d.2.1.length:Int)<=30)=decide (d.2.1.length<=30):=by rw[decide_eq_decide]; omega
   have E:decide ((z.length:Int)<=8)=decide (d.2.2.length<=8):=by rw[decide_eq_decide]; omega
   rw[LR,MZ _ P,MZ _ hz,MZ _ h.2.1,vS,vS,vS,gP ⟨fun _=>rfl,fun _=>rfl,fun _=>rfl,trivial⟩,T,H,E]
  rw[V _ l (List.length_map _),JL d.2.2 (fun c:s7=>c.1) (b7 y202)]
 rw[Q _ t (List.length_map _),JL d.1 (fun c:o4=>c.1) (b7 y139)]
theorem QS{l:List m5}(h:DH l=true){x:Int}(b:m0 x 0 ((l.length:Int)-1)=true):2<=Z0 l x/\Z0 l x<=5:=by
 have h:CJ _ _ _=true:=h;unfold CJ at h;rw[ba] at h;rw[z8] at b;have:=Bo.1 h.1 x.toNat (by omega);rw[Bool.or_eq_false_iff,Bool.not_eq_false'] at this;have a:U9 F5 _ _ _ _ _ _ _ _ _=true:=this.1;unfold U9 at a;simp only[ba] at a;have:=JB a.1.1.1.1.2
 grind
theorem Wl{b a:Nat}{pins:Int->Nat}{x:D8}(h:S0 b pins a x=true)(c:∀y,m0 y 0 ((b:Int)-1)=true->2<=pins y):1<=x.2.2.length/\m0 (x.2.2.getD (x.2.2.length-1) 0) 0 ((a:Int)-1)=true:=by
 grind[S0]
theorem N0d(l:List m5)(d:r8)(v:wf (.sl y64) l)(c:wf y31 d):Ph l d=some (!((List.range d.1.length).any fun i=>!S0 l.length (Z0 l) d.2.1.length (m7 d i))&&!((List.range d.2.2.length).any fun i=>!S6 d.2.1.length (A6 d i))):=by
 have h:=v.1;have j:=c.1.1;have f:=c.2.2.1;have t:=c.2.1.1;have w:Pg d ()=some (!((List.range d.2.2.length).any fun i=>!S6 d.2.1.length (A6 d i))):=by
  have b:=H2 (n:=d.2.2.length) f (fun i=>!S6 d.2.1.length (A6 d i)) (some false) (e:=some true) (F:=A0Q d) (fun g i hi=>by
   have m:((i:Int)).toNat=i:=rfl;refine(if_pos (by grind)).trans ?_;rw[m,S9,S9,vS,vS,gP ⟨oo,rfl,fun _=>oo,fun _=>oo,fun _=>rfl,trivial⟩,gP ⟨oo,trivial⟩]
   grind[S6,Bool.not_and]) (fun g=>aE)
  refine b.trans ?_;cases(List.range d.2.2.length).any fun i=>!S6 d.2.1.length (A6 d i) <;> rfl
 have b:=H2 (n:=d.1.length) j (fun i=>!S0 l.length (Z0 l) d.2.1.length (m7 d i)) (some false) (e:=Pg d ()) (F:=A0S d l) (fun g i hi=>by
  have m:((i:Int)).toNat=i:=rfl;have s:=Y8 (d:=b7 y139) hi c.1;have o:=s.2.2.1;refine(if_pos (by grind)).trans ?_;rw[m,gP ⟨oo,trivial⟩,lE,S9,vS,gP ⟨oo,rfl,fun u=>by
   have:=u.1;rw[Bool.not_eq_false'] at this;have:=z8.1 this;exact oo,trivial⟩]
  have a:=H2 (n:=(m7 d i).2.2.length) o (fun k=>!m0 ((m7 d i).2.2.getD k 0) 0 ((d.2.1.length:Int)-1)) (some false) (e:=g ((i:Int)+1)) (F:=A0R (m7 d i) d (i:Int) g) (fun q k r=>by
   refine(BZ r o ⟨oo,oo,rfl,trivial⟩).trans ?_;rfl) (fun q=>by
   refine aE.trans ?_;exact gP ⟨oo,trivial⟩)
  rw[U8 (m7 d i).2.2 0 (fun y=>!m0 y 0 ((d.2.1.length:Int)-1))] at a;rw[a];unfold S0
  grind[Bm]) (fun g=>aE)
 refine b.trans ?_
 grind
theorem q0n(v:List Int):(!v.any fun x=>x != 1)=v.all (·==1):=Bm v (fun x=>x==1)
theorem Wm{n b:Nat}(h:n<=1048576)(a:b<=4096):(0<=(n:Int)/\(n:Int)=(n:Int)/\(n:Int).toNat*b<=281474976710656/\(n:Int)<=9223372036854775807)/\True:=by
 have c:n*b<=1048576*4096:=Nat.mul_le_mul h a;exact⟨⟨by omega,rfl,by rw[Int.toNat_natCast]; omega,by omega⟩,trivial⟩
theorem Nd{v:List Int}{n b:Nat}{x:Int}(h:Af v n b)(e:b<=2097152)(d:m0 x 0 ((n:Int)-1)=true):ix x v.length/\x.toNat<v.length/\c9 (v.getD x.toNat 0+1)/\ix x v.length/\x.toNat<v.length/\True:=by
 obtain⟨a,c⟩:=y0M h d;have:=h.2 x.toNat;exact⟨a,c,oo,a,c,trivial⟩
theorem QT{n:Nat}(a:1<=n)(h:n<=9223372036854775807):c9 ((n:Int)-1)/\ix ((n:Int)-1) n:=⟨oo,oo⟩
theorem r82(l:List m5)(d:r8)(z:wf (.sl y64) l)(c:wf y31 d)(X:cnt (.sl y64) l<=1048576)(k:cnt y31 d<=1048576):Mc l d=some (HJ l d):=by
 have q:=c.1.1;have m:=c.2.2.1;have mi:d.1.length<=1048576:=Ca (cF k);have Q:d.2.1.length<=1048576:=Ca (cF (cS k));have Y:d.2.2.length<=1048576:=Ca (cS (cS k));show _=some (CK _ _ _ _ _ _ _ _ _);unfold Mc CK;rw[N0n l z X,N0m d c k,vS,vS,gP ⟨rfl,fun _=>rfl,trivial⟩];cases hlo:DH l with
 | false=>grind
 | true =>
   rw[Bool.true_and];cases hno:(decide (d.1.length<=14)&&decide (d.2.1.length<=30)&&decide (d.2.2.length<=8)&&D0 d.1.length (fun i=>(m7 d i).1)&&D0 d.2.1.length (fun i=>d.2.1.getD i (b7 .str))&&D0 d.2.2.length (fun i=>(A6 d i).1)) with
   | false=>grind
   | true =>
     refine(if_neg (by simp)).trans ?_;rw[gP (Wm Q (by decide)),Int.toNat_natCast];have j:∀y,m0 y 0 ((l.length:Int)-1)=true->2<=Z0 l y:=fun y W=>(QS hlo W).1;have o:=Nb (n:=d.1.length) q (fun i (v:List Int)=>((i:Int),v)) (V0 (m7 d)) (fun i=>!S0 l.length (Z0 l) d.2.1.length (m7 d i)) (some false) (fun i v=>i<=d.1.length/\Af v d.2.1.length i) (J:=PT d) (F:=F0N d l) (fun g i v hi e=>by
      have s:((i:Int)).toNat=i:=rfl;have E:=Y8 (d:=b7 y139) hi c.1;refine(if_pos (by grind)).trans ?_;rw[s,gP ⟨oo,trivial⟩,lE,N0l d l _ c z E,vS,gP ⟨rfl,trivial⟩];cases hin:S0 l.length (Z0 l) d.2.1.length (m7 d i) with
      | false=>rfl
      | true =>
        obtain⟨r,P⟩:=Wl hin j;have a:(m7 d i).2.2.length<=9223372036854775807:=E.2.2.1;refine(if_neg (by simp)).trans ?_;rw[Nc r,gP ⟨(QT r a).1,(QT r a).2,Nd e.2 (by omega) P⟩,lE,gP ⟨oo,trivial⟩];rfl) (fun i v hi e _=>⟨by omega,JE e.2 _⟩) (fun g v _=>aE) (List.replicate d.2.1.length 0) ⟨by omega,QK _ _⟩
     refine o.trans ?_;cases hia:(List.range d.1.length).any fun i=>!S0 l.length (Z0 l) d.2.1.length (m7 d i) with
     | true=>simp
     | false =>
       refine(if_neg (by simp)).trans ?_;have b:=VQ (m7 d) d.2.1.length d.1.length;unfold FM;generalize fN (V0 (m7 d)) d.1.length (List.replicate d.2.1.length 0)=v0 at *
       rw[PT];have f:=Nb (n:=d.2.2.length) m (fun i (v:List Int)=>((i:Int),v)) (M3 (A6 d)) (fun i=>!S6 d.2.1.length (A6 d i)) (some false) (fun i v=>i<=d.2.2.length/\Af v d.2.1.length (d.1.length+i)) (J:=Mb) (F:=F0M d) (fun g i v hi e=>by
        have s:((i:Int)).toNat=i:=rfl;have w:∀t,PS (i:Int) g t=g (((i+1:Nat):Int),t):=fun t=>gP ⟨oo,trivial⟩;refine(if_pos (by grind)).trans ?_;rw[s,gP ⟨oo,trivial⟩,lE,L0K d c,vS,gP ⟨fun _=>rfl,trivial⟩,w,w];have V:((A6 d i).2.1 != 1&&(A6 d i).2.1 != 2||!m0 (A6 d i).2.2 0 ((d.2.1.length:Int)-1))=!S6 d.2.1.length (A6 d i):=by
         unfold S6;rw[Bool.not_and];congr 1;rw[Bool.eq_iff_iff];simp only[ba,bne_iff_ne,Bool.not_eq_true',<- Bool.not_eq_true,z8];omega
        show(if((A6 d i).2.1 != 1&&(A6 d i).2.1 != 2||!m0 (A6 d i).2.2 0 ((d.2.1.length:Int)-1))=true then some false else _)=_;rw[V];cases hpo:S6 d.2.1.length (A6 d i) with
        | false=>rfl
        | true =>
          have h:m0 (A6 d i).2.2 0 ((d.2.1.length:Int)-1)=true:=by
           unfold S6 at hpo;rw[ba] at hpo;exact hpo.2
          refine(if_neg (by simp)).trans ?_;show _=g (_,M3 (A6 d) i v);unfold M3;by_cases G:(A6 d i).2.1=1
          ·rw[if_pos (beq_iff_eq.2 G),if_pos G];exact gP (Nd e.2 (by omega) h)
          grind) (fun i v hi e _=>⟨by omega,by
          grind[M3,JE,VP]⟩) (fun g v _=>aE) v0 ⟨by omega,b⟩
       refine f.trans ?_;cases hpa:(List.range d.2.2.length).any fun i=>!S6 d.2.1.length (A6 d i) with
       | true=>simp
       | false =>
         refine(if_neg (by simp)).trans ?_;have u:∀v:List Int,v.length<=9223372036854775807->Mb v=some (v.all (·==1)):=fun v u=>by
          have T:PQ v=_:=CL u (fun i=>v.getD i 0 != 1) (fun g i hi=>HE hi u rfl) (fun g=>aE);have H:PR v=_:=HF T;rw[U8 v 0 (fun x=>x != 1)] at H;rw[Mb,H,vS,gP ⟨rfl,trivial⟩,q0n]
         have a:(fN (M3 (A6 d)) d.2.2.length v0).length<=9223372036854775807:=by
          have:∀n,(fN (M3 (A6 d)) n v0).length=v0.length:=by
           intro n
           induction n with
           | zero=>rfl
           | succ n ih =>
             grind[fN,M3,BW,List.length_set]
          rw[this,b.1]; omega
         grind
theorem r92(l:List m5)(d:r8)(hl:wf (.sl y64) l)(q:wf y31 d)(md:cnt y31 d<=1048576):Lw l d=some (HJ l d):=by
 have o:=q.1.1;have k:=q.2.2.1;have mi:d.1.length<=1048576:=Ca (cF md);have mn:d.2.1.length<=1048576:=Ca (cF (cS md));have mp:d.2.2.length<=1048576:=Ca (cS (cS md));show _=some (CK _ _ _ _ _ _ _ _ _);unfold Lw;rw[N0e l hl,N0d l d hl q,vS,vS,gP ⟨rfl,fun _=>rfl,trivial⟩];by_cases t:DH l=true/\d.1.length<=14/\d.2.1.length<=30/\d.2.2.length<=8/\((List.range d.1.length).any fun i=>!S0 l.length (Z0 l) d.2.1.length (m7 d i))=false/\((List.range d.2.2.length).any fun i=>!S6 d.2.1.length (A6 d i))=false
 ·obtain⟨P,V,X,h8,w,Q⟩:=t;have a1:decide (14 < (d.1.length:Int))=false:=decide_eq_false (by omega);have a2:decide (30 < (d.2.1.length:Int))=false:=decide_eq_false (by omega);have a3:decide (8 < (d.2.2.length:Int))=false:=decide_eq_false (by omega);rw[P,a1,a2,a3,w,Q];refine(if_neg (by simp)).trans ?_;have T:∀y,m0 y 0 ((l.length:Int)-1)=true->2<=Z0 l y:=fun y hy=>(QS P hy).1;have E:∀i,i<d.1.length->S0 l.length (Z0 l) d.2.1.length (m7 d i)=true:=fun i hi=>by
   grind
  have m:∀i,i<d.2.2.length->S6 d.2.1.length (A6 d i)=true:=fun i hi=>by
   grind
  have Vm:∀v:List Int,v.length<=9223372036854775807->Ls v=some (v.all (·==1)):=fun v u=>by
   rw[Ls];have a:=H2 (n:=v.length) u (fun i=>v.getD i 0 != 1) (some false) (e:=some true) (F:=A0a v) (fun g i hi=>by
    refine(BZ hi u ⟨oo,by omega,trivial⟩).trans ?_;rfl) (fun g=>aE)
   refine a.trans ?_;rw[U8 v 0 (fun x=>x != 1),<- q0n]
   grind
  have k7:∀v:List Int,Af v d.2.1.length d.1.length->Lt d v=some ((fN (M3 (A6 d)) d.2.2.length v).all (·==1)):=fun W f=>by
   rw[Lt];have a:=lF (n:=d.2.2.length) k (fun i (v:List Int)=>((i:Int),v)) (M3 (A6 d)) (fun i v=>i<=d.2.2.length/\Af v d.2.1.length (d.1.length+i)) (J:=Ls) (F:=F0A d) (fun g i v hi b=>by
    have r:((i:Int)).toNat=i:=rfl;have j8:∀v',Po (i:Int) g v'=g (((i+1:Nat):Int),v'):=fun v'=>gP ⟨oo,trivial⟩;have H:m0 (A6 d i).2.2 0 ((d.2.1.length:Int)-1)=true:=by
     have:=m i hi;unfold S6 at this;rw[ba] at this;exact this.2
    refine(if_pos (by grind)).trans ?_;rw[r,gP ⟨oo,trivial⟩,j8];show(if((A6 d i).2.1==1)=true then _ else _)=g (_,M3 (A6 d) i v);unfold M3;by_cases k1:(A6 d i).2.1=1
    ·rw[if_pos (beq_iff_eq.2 k1),if_pos k1];refine(gP ⟨oo,Nd b.2 (by omega) H⟩).trans ?_;rw[lE];exact j8 _
    grind) (fun i v hi b=>⟨by omega,by
    grind[M3,JE,VP]⟩) (fun g v _=>aE) W ⟨by omega,f⟩
   refine a.trans (Vm _ ?_);have:∀n,(fN (M3 (A6 d)) n W).length=W.length:=by
    intro n
    induction n with
    | zero=>rfl
    | succ n ih =>
      grind[fN,M3,BW,List.length_set]
   rw[this,f.1]; omega
  have k5:lp (Ua d) ((0:Int),List.replicate d.2.1.length 0)=some ((FM d.1.length d.2.2.length d.2.1.length (m7 d) (A6 d)).all (·==1)):=by
   have a:=lF (n:=d.1.length) o (fun i (v:List Int)=>((i:Int),v)) (V0 (m7 d)) (fun i v=>i<=d.1.length/\Af v d.2.1.length i) (J:=Lt d) (F:=Ua d) (fun g i v hi b=>by
    have r:((i:Int)).toNat=i:=rfl;have G:=Y8 (d:=b7 y139) hi q.1;obtain⟨g1,g2⟩:=Wl (E i hi) T;have h:(m7 d i).2.2.length<=9223372036854775807:=G.2.2.1;refine(if_pos (by grind)).trans ?_;rw[r,gP ⟨oo,trivial⟩,lE,Nc g1,gP ⟨(QT g1 h).1,(QT g1 h).2,Nd b.2 (by omega) g2⟩,lE,gP ⟨oo,trivial⟩];rfl) (fun i v hi b=>⟨by omega,JE b.2 _⟩) (fun g v _=>aE) (List.replicate d.2.1.length 0) ⟨by omega,QK _ _⟩
   refine a.trans (k7 _ (VQ _ _ _))
  have aA:wf (.sl .str) (d.1.map fun c:o4=>c.1):=JM o fun x G=>(q.1.2 x G).1;have Y:wf (.sl .str) (d.2.2.map fun c:s7=>c.1):=JM k fun x G=>(q.2.2.2 x G).1;have k2:∀v z:List ByteArray,wf (.sl .str) v->wf (.sl .str) z->Lu d v z=some ((D0 v.length fun i=>v.getD i (b7 .str))&&(D0 z.length fun i=>z.getD i (b7 .str))&&D0 d.2.1.length (fun i=>d.2.1.getD i (b7 .str))&&(FM d.1.length d.2.2.length d.2.1.length (m7 d) (A6 d)).all (·==1)):=fun v z u hz=>by
   rw[Lu,Wf _ u,Wf _ hz,Wf _ q.2.1,vS,vS,vS,gP ⟨rfl,fun _=>rfl,fun _=>rfl,trivial⟩,gP (Wm mn (by decide)),Int.toNat_natCast,k5];cases(D0 v.length fun i=>v.getD i (b7 .str)) <;> cases(D0 z.length fun i=>z.getD i (b7 .str)) <;> cases D0 d.2.1.length (fun i=>d.2.1.getD i (b7 .str)) <;> rfl
  have k3:∀v:List ByteArray,wf (.sl .str) v->Lv d v=some ((D0 v.length fun i=>v.getD i (b7 .str))&&D0 d.2.2.length (fun i=>(A6 d i).1)&&D0 d.2.1.length (fun i=>d.2.1.getD i (b7 .str))&&(FM d.1.length d.2.2.length d.2.1.length (m7 d) (A6 d)).all (·==1)):=fun v u=>by
   rw[Lv];have a:=lF (n:=d.2.2.length) k (fun i (s:List ByteArray)=>((i:Int),s)) (Y9 fun i=>(A6 d i).1) (fun i s=>s.length=i) (J:=Lu d v) (F:=F0B d v) (fun g i s hi b=>by
    have r:((i:Int)).toNat=i:=rfl;refine(if_pos (by grind)).trans ?_;rw[r,gP ⟨oo,⟨by grind,by grind⟩,trivial⟩,gP ⟨oo,trivial⟩];rfl) (fun i s hi b=>by grind[Y9,List.length_append]) (fun g s _=>aE) [] rfl
   refine a.trans ?_;rw[JN d.2.2 (b7 y202) (fun c:s7=>c.1),k2 _ _ u Y,JL d.2.2 (fun c:s7=>c.1) (b7 y202)]
  have a:=lF (n:=d.1.length) o (fun i (s:List ByteArray)=>((i:Int),s)) (Y9 fun i=>(m7 d i).1) (fun i s=>s.length=i) (J:=Lv d) (F:=F0C d) (fun g i s hi b=>by
   have r:((i:Int)).toNat=i:=rfl;refine(if_pos (by grind)).trans ?_;rw[r,gP ⟨oo,⟨by grind,by grind⟩,trivial⟩,gP ⟨oo,trivial⟩];rfl) (fun i s hi b=>by grind[Y9,List.length_append]) (fun g s _=>aE) [] rfl
  refine a.trans ?_;rw[JN d.1 (b7 y139) (fun c:o4=>c.1),k3 _ aA,JL d.1 (fun c:o4=>c.1) (b7 y139)];unfold CK;rw[w,Q,decide_eq_true V,decide_eq_true X,decide_eq_true h8];cases D0 d.1.length (fun i=>(m7 d i).1) <;> cases D0 d.2.1.length (fun i=>d.2.1.getD i (b7 .str)) <;> cases D0 d.2.2.length (fun i=>(A6 d i).1) <;> rfl
 ·have e0:(!DH l||decide (14 < (d.1.length:Int))||decide (30 < (d.2.1.length:Int))||decide (8 < (d.2.2.length:Int))||!(!((List.range d.1.length).any fun i=>!S0 l.length (Z0 l) d.2.1.length (m7 d i))&&!((List.range d.2.2.length).any fun i=>!S6 d.2.1.length (A6 d i))))=true:=by
   rw[<- Bool.not_eq_false];intro j;simp only[Bool.or_eq_false_iff,Bool.not_eq_false',decide_eq_false_iff_not,ba,Bool.not_eq_true'] at j;exact t ⟨j.1.1.1.1,by omega,by omega,by omega,j.2.1,j.2.2⟩
  refine(if_pos e0).trans ?_;refine congrArg some ?_
  symm
  rw[<- Bool.not_eq_true];intro j;unfold CK at j;simp only[ba,dq,Bool.not_eq_true'] at j;obtain⟨⟨⟨⟨⟨⟨⟨⟨⟨c1,c2⟩,c3⟩,c4⟩,_⟩,_⟩,_⟩,c5⟩,c6⟩,_⟩:=j;exact t ⟨c1,c2,c3,c4,c5,c6⟩
abbrev Nf(w:x9)(i:Nat):Bool:=(i==0&&(w.1.getD i 0 != -1||w.2.1.getD 0 0 != 0))||(decide (0<i)&&!m0 (w.1.getD i 0) 0 ((i:Int)-1))
theorem N0k(w:x9)(f:wf l7 w)(j:w.2.1.length=w.1.length):CB w=some (!(List.range w.1.length).any (Nf w)):=by
 have h:=f.1.1;have a:=H2 (n:=w.1.length) h (Nf w) (some false) (e:=some true) (F:=B0b w) (fun g i hi=>by
  have d:((i:Int)).toNat=i:=rfl;have c:((i:Int)==0)=(i==0):=by rw[Bool.eq_iff_iff,beq_iff_eq,beq_iff_eq]; omega
  have b:decide ((0:Int) < (i:Int))=decide (0<i):=by rw[decide_eq_decide]; omega
  refine(if_pos (by simpa using hi)).trans ?_;rw[d,c,b,Y7,vS,gP ⟨oo,trivial⟩,gP ⟨fun _=>oo,fun _=>oo,fun _=>rfl,trivial⟩,gP ⟨oo,trivial⟩];rfl) (fun g=>aE)
 refine a.trans ?_
 grind
theorem r84(w:x9)(n:Int)(d:wf l7 w):LO w n=some (Ag w n):=by
 obtain⟨⟨i,_⟩,⟨f,_⟩,⟨g,_⟩,h,_⟩:=id d;have e:∀xs:List Int,D5 xs=some (xs.length:Int):=fun _=>rfl;unfold LO;rw[e,e,e,e]
 repeat rw[vS]
 rw[gP ⟨rfl,trivial⟩,lE,Y7,HI _ _ _ f,HI _ _ _ g,HI _ _ _ h]
 repeat rw[vS]
 by_cases b:(m0 (w.1.length:Int) 1 8&&(w.2.1.length:Int)==(w.1.length:Int)&&(w.2.2.1.length:Int)==(w.1.length:Int))=true
 ·have c:=b;simp only[ba,beq_iff_eq,z8] at c;rw[N0k w d (by omega),vS,gP ⟨rfl,fun _=>rfl,fun _=>rfl,fun _=>rfl,fun _=>rfl,fun _=>rfl,fun _=>rfl,fun _=>oo,fun _=>rfl,trivial⟩,lE];refine congrArg some ?_;rw[b];unfold Ag;rw[decide_eq_true (show 1<=w.1.length by omega),decide_eq_true (show w.1.length<=8 by omega),decide_eq_true (show w.2.1.length=w.1.length by omega),decide_eq_true (show w.2.2.1.length=w.1.length by omega)];cases(List.range w.1.length).any (Nf w) <;> cases w.2.1.all (m0 · 0 1000) <;> cases w.2.2.1.all (m0 · 0 500) <;> cases(w.2.2.2.length:Int)==n <;> cases w.2.2.2.all (m0 · 0 ((w.1.length:Int)-1)) <;> rfl
 ·have c:(m0 (w.1.length:Int) 1 8&&(w.2.1.length:Int)==(w.1.length:Int)&&(w.2.2.1.length:Int)==(w.1.length:Int))=false:=by simpa using b
  rw[c,gP ⟨rfl,fun _=>rfl,fun _=>rfl,fun a=>by simp at a,fun a=>by simp at a,fun a=>by simp at a,fun a=>by simp at a,fun a=>by simp at a,fun a=>by simp at a,trivial⟩,lE];refine congrArg some ?_;rw[c];simp only[Bool.false_and]
  symm
  rw[<- Bool.not_eq_true];intro a;unfold Ag at a;simp only[ba,dq] at a;refine b ?_;simp only[ba,beq_iff_eq,z8];omega
theorem r93(w:x9)(n:Int)(t:wf l7 w):IZ w n=some (Ag w n):=by
 obtain⟨⟨m,_⟩,⟨v,_⟩,⟨u,_⟩,j,_⟩:=id t;unfold IZ;by_cases b:1<=w.1.length/\w.1.length<=8/\w.2.1.length=w.1.length/\w.2.2.1.length=w.1.length/\(w.2.2.2.length:Int)=n
 ·obtain⟨k,l,d,f,o⟩:=b;have a:(decide ((w.1.length:Int)<1)||decide (8 < (w.1.length:Int))||(w.2.1.length:Int) != (w.1.length:Int)||(w.2.2.1.length:Int) != (w.1.length:Int)||(w.2.2.2.length:Int) != n)=false:=by
   rw[<- Bool.not_eq_true]; simp; omega
  refine(if_neg (by rw[a]; simp)).trans ?_;have k3:=H2 (n:=w.2.2.2.length) j (fun i=>!m0 (w.2.2.2.getD i 0) 0 ((w.1.length:Int)-1)) (some false) (e:=some true) (F:=F0x w) (fun g i hi=>BZ hi j ⟨oo,oo,rfl,trivial⟩) (fun g=>aE);rw[U8 w.2.2.2 0 (fun x=>!m0 x 0 ((w.1.length:Int)-1))] at k3;have r:=H2 (n:=w.1.length) m (fun i=>(!m0 (w.2.2.1.getD i 0) 0 500||!m0 (w.2.1.getD i 0) 0 1000)||Nf w i) (some false) (e:=Pd w ()) (F:=F0y w) (fun g i hi=>by
   have s:((i:Int)).toNat=i:=rfl;have a:((i:Int)==0)=(i==0):=by rw[Bool.eq_iff_iff,beq_iff_eq,beq_iff_eq]; omega
   have q:decide ((0:Int) < (i:Int))=decide (0<i):=by rw[decide_eq_decide]; omega
   refine(if_pos (by simpa using hi)).trans ?_;rw[s,a,q,S9,S9,S9]
   repeat rw[vS]
   rw[gP ⟨oo,rfl,fun _=>oo,fun _=>rfl,trivial⟩,gP ⟨fun _=>oo,fun _=>oo,fun _=>oo,fun _=>oo,fun _=>rfl,trivial⟩,gP ⟨oo,trivial⟩]
   grind) (fun g=>aE)
  refine r.trans ?_;rw[QL,QL];have h:=U8 w.2.2.1 0 (fun x=>!m0 x 0 500);have c:=U8 w.2.1 0 (fun x=>!m0 x 0 1000);rw[f] at h;rw[d] at c;rw[h,c];unfold Pd;rw[k3];unfold Ag;rw[decide_eq_true k,decide_eq_true l,decide_eq_true d,decide_eq_true f,beq_iff_eq.2 o,<- Bm,<- Bm,<- Bm];cases(List.range w.1.length).any (Nf w) <;> cases w.2.1.any (fun x=>!m0 x 0 1000) <;> cases w.2.2.1.any (fun x=>!m0 x 0 500) <;> cases w.2.2.2.any (fun x=>!m0 x 0 ((w.1.length:Int)-1)) <;> rfl
 grind[decide,trans,Ag]
theorem QU(d:r8)(l:wf y31 d)(o:d.1.length<=14)(w:d.2.2.length<=8)(j:∀i,i<d.1.length->1<=(m7 d i).2.2.length/\(m7 d i).2.2.length<=5):BO d=some (L7 d.1.length d.2.2.length (m7 d) (A6 d)):=by
 have e:=l.1.1;have b:=l.2.2.1;unfold BO;have v:∀s:List B9,s.length<=70->LD d s=some (fN (P9 (A6 d)) d.2.2.length s):=fun m y=>by
  rw[LD];exact lF (n:=d.2.2.length) b (fun i (s:List B9)=>((i:Int),s)) (P9 (A6 d)) (fun i s=>s.length=m.length+i) (J:=fun s=>some s) (F:=F0I d) (fun g i s hi h=>by
   have f:((i:Int)).toNat=i:=rfl;refine(if_pos (by grind)).trans ?_;rw[f,gP ⟨oo,trivial⟩,lE,gP ⟨⟨by grind,by grind⟩,trivial⟩,gP ⟨oo,trivial⟩];rfl) (fun i s hi h=>by grind[P9,List.length_append]) (fun g s _=>aE) m rfl
 have c:=lF (n:=d.1.length) e (fun i (s:List B9)=>(s,(i:Int))) (P1 (m7 d)) (fun i s=>s.length<=5*i) (J:=LD d) (F:=F0K d) (fun g i s hi h=>by
  have f:((i:Int)).toNat=i:=rfl;have E:=(j i hi).2;have u:(m7 d i).2.2.length<=9223372036854775807:=by omega
  refine(if_pos (by grind)).trans ?_;rw[f,gP ⟨oo,trivial⟩,lE];have a:=lF (n:=(m7 d i).2.2.length) u (fun k (s:List B9)=>((k:Int),s)) (V2 (m7 d i) i) (fun k z=>z.length=s.length+k) (J:=Ud (i:Int) g) (F:=F0J (i:Int) (m7 d i) g) (fun q k z r hz=>by
   have t:((k:Int)).toNat=k:=rfl;refine(if_pos (by grind)).trans ?_;rw[t,gP ⟨oo,trivial⟩,gP ⟨oo,⟨by grind,by grind⟩,trivial⟩,lE];exact gP ⟨oo,trivial⟩) (fun k z r hz=>by grind[V2,List.length_append]) (fun q z _=>aE) s rfl
  refine a.trans ?_;exact gP ⟨oo,trivial⟩) (fun i s hi h=>by
  grind[P1,HC]) (fun g s _=>aE) [] (Nat.zero_le _)
 refine c.trans (v _ ?_);have:=QM (x:=m7 d) (ni:=d.1.length) (fun i hi=>(j i hi).2) d.1.length (Nat.le_refl _);omega
theorem DI(d:r8)(l:wf y31 d)(o:d.1.length<=14)(w:d.2.2.length<=8)(j:∀i,i<d.1.length->1<=(m7 d i).2.2.length/\(m7 d i).2.2.length<=5):I6 d=some (L7 d.1.length d.2.2.length (m7 d) (A6 d)):=by
 have e:=l.1.1;have b:=l.2.2.1;unfold I6;have v:∀s:List D2,s.length<=70->IQ d s=some (fN (P9 (A6 d)) d.2.2.length s):=fun m y=>by
  rw[IQ];exact lF (n:=d.2.2.length) b (fun i (s:List D2)=>((i:Int),s)) (P9 (A6 d)) (fun i s=>s.length=m.length+i) (J:=fun s=>some s) (F:=TJ d) (fun g i s hi h=>by
   have f:((i:Int)).toNat=i:=rfl;refine(if_pos (by grind)).trans ?_;rw[f,gP ⟨oo,oo,⟨by grind,by grind⟩,trivial⟩,lE];exact gP ⟨oo,trivial⟩) (fun i s hi h=>by grind[P9,List.length_append]) (fun g s _=>aE) m rfl
 have c:=lF (n:=d.1.length) e (fun i (s:List D2)=>((i:Int),s)) (P1 (m7 d)) (fun i s=>s.length<=5*i) (J:=IQ d) (F:=TL d) (fun g i s hi h=>by
  have f:((i:Int)).toNat=i:=rfl;have E:=(j i hi).2;have u:(m7 d i).2.2.length<=9223372036854775807:=by omega
  refine(if_pos (by grind)).trans ?_;rw[f,gP ⟨oo,trivial⟩,lE];have a:=lF (n:=(m7 d i).2.2.length) u (fun k (s:List D2)=>((k:Int),s)) (V2 (m7 d i) i) (fun k z=>z.length=s.length+k) (J:=OU (i:Int) g) (F:=TK (i:Int) (m7 d i) g) (fun q k z r hz=>by
   have t:((k:Int)).toNat=k:=rfl;refine(if_pos (by grind)).trans ?_;rw[t,gP ⟨oo,oo,⟨by grind,by grind⟩,trivial⟩,lE];exact gP ⟨oo,trivial⟩) (fun k z r hz=>by grind[V2,List.length_append]) (fun q z _=>aE) s rfl
  refine a.trans ?_;exact gP ⟨oo,trivial⟩) (fun i s hi h=>by
  grind[P1,HC]) (fun g s _=>aE) [] (Nat.zero_le _)
 refine c.trans (v _ ?_);have:=QM (x:=m7 d) (ni:=d.1.length) (fun i hi=>(j i hi).2) d.1.length (Nat.le_refl _);omega
abbrev p9(d:r8):List B4:=L7 d.1.length d.2.2.length (m7 d) (A6 d)
abbrev u0(d:r8)(i:Nat):B4:=(p9 d).getD i (b7 y151)
abbrev m3(b:j7)(i:Nat):x9:=b.2.2.getD i (b7 l7)
def p8(b:j7):Bool:=HJ b.1 b.2.1&&decide (b.2.2.length=b.2.1.2.1.length)&&!(List.range b.2.2.length).any fun i=>!Ag (m3 b i) (V3 (u0 b.2.1) i (p9 b.2.1).length)
structure DF(l:List m5)(d:r8):Prop where
 lib:DH l=true
 fac:DesignFacts l.length (Z0 l) d.1.length d.2.2.length d.2.1.length (m7 d) (A6 d)
 pin:∀i,i<d.1.length->1<=(m7 d i).2.2.length/\(m7 d i).2.2.length<=5
 plc:JF d.2.1.length (p9 d)
 len:(p9 d).length<=78
theorem T4{l:List m5}{d:r8}(h:HJ l d=true):DF l d:=by
 obtain⟨c,b⟩:=n0y h;have e:∀i,i<d.1.length->1<=(m7 d i).2.2.length/\(m7 d i).2.2.length<=5:=fun i hi=>by
  have a:=b.inst i hi;have g:=(Wl a (fun y k=>(QS c k).1)).1;unfold S0 at a;simp only[ba,beq_iff_eq] at a;have:=(QS c a.1.1).2;exact⟨g,by omega⟩
 have f:=b.net;refine⟨c,b,e,q0j f.2 (k0i f.1 d.1.length (Nat.le_refl _)) d.2.2.length (Nat.le_refl _),?_⟩;have:=QM (x:=m7 d) (ni:=d.1.length) (fun i hi=>(e i hi).2) d.1.length (Nat.le_refl _);have j:=b.ni14;have m:=b.np8;unfold p9 L7;rw[MT];omega
theorem Wn(b:j7)(h:wf k8 b)(r:cnt k8 b<=1048576):AF b=some (p8 b):=by
 have u:=h.1;have t:=h.2.1;have x:=h.2.2.1;have y:b.2.2.length<=1048576:=Ca (cS (cS r));unfold AF p8;rw[r82 b.1 b.2.1 u t (cF r) (cF (cS r)),vS,gP ⟨rfl,trivial⟩];cases hdo:HJ b.1 b.2.1 with
 | false=>exact if_pos rfl
 | true =>
   have c:=T4 hdo;by_cases a:b.2.2.length=b.2.1.2.1.length
   ·have l:((b.2.2.length:Int) != (b.2.1.2.1.length:Int))=false:=by rw[a]; simp
    rw[l,decide_eq_true a];refine(if_neg (by simp)).trans ?_;rw[gP (Wm y (by decide)),Int.toNat_natCast,QU b.2.1 t c.fac.ni14 c.fac.np8 c.pin,vS,gP ⟨rfl,trivial⟩,lE];have m:(p9 b.2.1).length<=9223372036854775807:=by have:=c.len; omega
    have f:∀i,i < (p9 b.2.1).length->m0 (u0 b.2.1 i).2.2.1 0 ((b.2.2.length:Int)-1)=true:=fun i hi=>by
     rw[a]; exact c.plc _ (H5 hi)
    have k:=lF (n:=(p9 b.2.1).length) m (fun i (v:List Int)=>((i:Int),v)) (DG (u0 b.2.1)) (fun i v=>i<=(p9 b.2.1).length/\Af v b.2.2.length i) (J:=PU b) (F:=G0B (p9 b.2.1) b) (fun g i v hi j=>by
     have o:((i:Int)).toNat=i:=rfl;have s:∀q,PV (i:Int) g q=g (((i+1:Nat):Int),q):=fun q=>gP ⟨oo,trivial⟩;refine(if_pos (by simpa using hi)).trans ?_;rw[o,gP ⟨oo,hi,trivial⟩,lE,s];show(if(!(u0 b.2.1 i).2.2.2)=true then _ else _)=g (_,DG (u0 b.2.1) i v);unfold DG;cases hdr:(u0 b.2.1 i).2.2.2 with
     | true=>rfl
     | false =>
       refine(if_pos rfl).trans ?_;refine(gP (Nd j.2 (by have:=c.len; omega) (f i hi))).trans ?_;rw[lE];exact s _) (fun i v hi j=>⟨by omega,by
     unfold DG;split
     ·exact JE j.2 _
     ·exact VP j.2 (by omega)⟩) (fun g v _=>aE) (List.replicate b.2.2.length 0) ⟨by omega,QK _ _⟩
    refine k.trans ?_;obtain⟨z,w⟩:=m0x (u0 b.2.1) b.2.2.length (p9 b.2.1).length f;generalize fN (DG (u0 b.2.1)) (p9 b.2.1).length (List.replicate b.2.2.length 0)=v at *
    rw[PU];have d:=H2 (n:=b.2.2.length) x (fun i=>!Ag (m3 b i) (V3 (u0 b.2.1) i (p9 b.2.1).length)) (some false) (e:=some true) (F:=G0A v b) (fun g i hi=>by
     have o:((i:Int)).toNat=i:=rfl;refine(if_pos (by simpa using hi)).trans ?_;rw[o,gP ⟨oo,trivial⟩,lE,w i hi,r84 _ _ (Y8 hi h.2.2),vS,gP ⟨oo,by omega,rfl,trivial⟩,gP ⟨oo,trivial⟩]) (fun g=>aE)
    refine d.trans ?_;cases(List.range b.2.2.length).any fun i=>!Ag (m3 b i) (V3 (u0 b.2.1) i (p9 b.2.1).length) <;> rfl
   ·have l:((b.2.2.length:Int) != (b.2.1.2.1.length:Int))=true:=by simp; omega
    rw[l,decide_eq_false a];exact if_pos rfl
theorem Wo(d:r8)(f:wf y31 d){l:List m5}(a:DF l d)(t:Int):U4 d t=some (fN (N6 (u0 d) t) (p9 d).length []):=by
 have k:=a.len;unfold U4;rw[DI d f a.fac.ni14 a.fac.np8 a.pin,vS,gP ⟨rfl,trivial⟩,lE];exact lF (n:=(p9 d).length) (by omega) (fun i (s:List Int)=>((i:Int),s)) (N6 (u0 d) t) (fun i s=>s.length<=i) (J:=fun s=>some s) (F:=TM (p9 d) t) (fun g i s hi c=>by
  have h:((i:Int)).toNat=i:=rfl;have e:∀s',IS (i:Int) g s'=g (((i+1:Nat):Int),s'):=fun j=>gP ⟨oo,trivial⟩;refine(if_pos (by simpa using hi)).trans ?_;have b:s.length<=i:=c;rw[h,gP ⟨oo,hi,fun _=>oo,fun _=>hi,trivial⟩,gP ⟨⟨by show s.length+1<=_; omega,by show(s.length+1)*8<=_; omega⟩,trivial⟩,e,e];show _=g (_,N6 (u0 d) t i s);unfold N6;show(if((u0 d i).2.2.1==t&&!(u0 d i).2.2.2)=true then _ else _)=_;split <;> rfl) (fun i s hi c=>by
  have b:s.length<=i:=c;unfold N6;split
  ·rw[List.length_append]; show s.length+1<=i+1; omega
  ·omega) (fun g s _=>aE) [] (Nat.le_refl _)
theorem JO(b:j7)(d:wf k8 b)(o:cnt k8 b<=1048576):U7 b=some (p8 b):=by
 have m:=d.1;have h:=d.2.1;have k:=d.2.2.1;unfold U7 p8;rw[r92 b.1 b.2.1 m h (cF (cS o)),vS,gP ⟨rfl,trivial⟩];cases hdo:HJ b.1 b.2.1 with
 | false=>exact if_pos rfl
 | true =>
   have j:=T4 hdo;by_cases a:b.2.2.length=b.2.1.2.1.length
   ·have f:((b.2.2.length:Int) != (b.2.1.2.1.length:Int))=false:=by rw[a]; simp
    rw[f,decide_eq_true a];refine(if_neg (by simp)).trans ?_;have c:=H2 (n:=b.2.2.length) k (fun i=>!Ag (m3 b i) (V3 (u0 b.2.1) i (p9 b.2.1).length)) (some false) (e:=some true) (F:=G0u b) (fun g i hi=>by
     have l:((i:Int)).toNat=i:=rfl;refine(if_pos (by simpa using hi)).trans ?_;rw[l,Wo b.2.1 h j,vS,MU,r93 _ _ (Y8 hi d.2.2),gP ⟨oo,rfl,rfl,trivial⟩,lE,MU,r93 _ _ (Y8 hi d.2.2),vS,gP ⟨oo,trivial⟩]) (fun g=>aE)
    refine c.trans ?_;cases(List.range b.2.2.length).any fun i=>!Ag (m3 b i) (V3 (u0 b.2.1) i (p9 b.2.1).length) <;> rfl
   ·have f:((b.2.2.length:Int) != (b.2.1.2.1.length:Int))=true:=by simp; omega
    rw[f,decide_eq_false a];exact if_pos rfl
theorem V5{b:j7}(h:p8 b=true):HJ b.1 b.2.1=true/\b.2.2.length=b.2.1.2.1.length/\∀i,i<b.2.2.length->Ag (m3 b i) (V3 (u0 b.2.1) i (p9 b.2.1).length)=true:=by
 unfold p8 at h;rw[ba,ba,dq] at h;refine⟨h.1.1,h.1.2,fun i hi=>?_⟩;have:=Bo.1 h.2 i hi
 rwa [Bool.not_eq_false'] at this
abbrev x8(d:r8)(t:Int):List Int:=fN (N6 (u0 d) t) (p9 d).length []
def FP(l:List m5)(d:r8)(p:B4):Int:=if p.1<0 then 0 else((l.getD (m7 d p.1.toNat).2.1.toNat (b7 y64)).2.2.1.getD p.2.1.toNat (b7 y233)).2.2.1
theorem QV{d:r8}{i:Nat}(h:i < (p9 d).length):u0 d i∈p9 d:=H5 h
theorem n0a{l:List m5}(h:DH l=true){i:Nat}(hi:i<l.length):Bq F5 (T3 l i)=true:=by
 have h:CJ _ _ _=true:=h;unfold CJ at h;rw[ba] at h;have:=Bo.1 h.1 i hi;rw[Bool.or_eq_false_iff,Bool.not_eq_false'] at this;exact this.1
theorem Wp{l:List m5}{d:r8}(c:DF l d){p:B4}(f:p∈p9 d):(p.1 = -1/\0<=p.2.1/\p.2.1.toNat<d.2.2.length) ∨
  (0<=p.1/\p.1.toNat<d.1.length/\0<=(m7 d p.1.toNat).2.1/\(m7 d p.1.toNat).2.1.toNat<l.length/\0<=p.2.1/\p.2.1.toNat < (l.getD (m7 d p.1.toNat).2.1.toNat (b7 y64)).2.2.1.length):=by
 rcases o0w d.1.length d.2.2.length (m7 d) (A6 d) p f with h | ⟨h1,h2,h3,h4⟩
 ·exact .inl h
 ·have a:=c.fac.inst p.1.toNat h2;unfold S0 at a;simp only[ba,beq_iff_eq] at a;have e:=z8.1 a.1.1;have b:=a.1.2;refine .inr ⟨h1,h2,e.1,by omega,h3,?_⟩;have b:((m7 d p.1.toNat).2.2.length:Int)=((l.getD (m7 d p.1.toNat).2.1.toNat (b7 y64)).2.2.1.length:Int):=b;omega
theorem D0z{l:List m5}{d:r8}(b:DF l d){p:B4}(c:p∈p9 d):0<=FP l d p/\FP l d p<=500:=by
 unfold FP;split
 ·exact⟨by decide,by decide⟩
 ·rename_i e;rcases Wp b c with h | ⟨h1,h2,h3,h4,h5,h6⟩
  ·omega
  ·have a:U9 F5 _ _ _ _ _ _ _ _ _=true:=n0a b.lib h4;unfold U9 AK at a;simp only[ba] at a;have:=Bo.1 a.1.1.1.1.2.2 p.2.1.toNat h6;rw[Bool.not_eq_false'] at this;unfold Bn at this;rw[ba] at this;exact z8.1 this.1
theorem Ng{d:r8}{t:Int}{k:Nat}(h:k < (x8 d t).length):0<=(x8 d t).getD k 0/\((x8 d t).getD k 0).toNat < (p9 d).length:=by
 obtain⟨j,a,b,_⟩:=MW (u0 d) t (p9 d).length _ (H5 (d:=0) h);rw[a];exact⟨Int.natCast_nonneg _,by simpa using b⟩
structure NetOk(b:j7)(i:Nat):Prop where
 df:DF b.1 b.2.1
 lt:i<b.2.2.length
 wf:n0S (m3 b i) ((x8 b.2.1 i).length:Int)
theorem Br{b:j7}(h:p8 b=true){i:Nat}(hi:i<b.2.2.length):NetOk b i:=by
 obtain⟨a,d,c⟩:=V5 h;refine⟨T4 a,hi,?_⟩;rw[MU];exact r0w (c i hi)
def w6(b:j7)(i k:Nat):Int:=(m3 b i).2.2.2.getD k 0
def X1(b:j7)(i k:Nat):Int:=FP b.1 b.2.1 (u0 b.2.1 ((x8 b.2.1 i).getD k 0).toNat)
def T5(b:j7)(i k:Nat):Int:=(m3 b i).1.getD k 0
def Cb(b:j7)(i k:Nat):Int:=(m3 b i).2.1.getD k 0
def z6(b:j7)(i:Nat):List Int:=H0Y (m3 b i).2.2.1 (m3 b i).1.length (x8 b.2.1 i).length (w6 b i) (X1 b i) (T5 b i)
theorem NetOk.sn{b:j7}{i:Nat}(h:NetOk b i):(m3 b i).2.2.2.length=(x8 b.2.1 i).length:=by have:=h.wf.snk; omega
theorem NetOk.s78{b:j7}{i:Nat}(h:NetOk b i):(x8 b.2.1 i).length<=78:=by
 have c:=h.df.len;have e:=w0k (u0 b.2.1) i (p9 b.2.1).length;have a:=MU (u0 b.2.1) i (p9 b.2.1).length;have d:((x8 b.2.1 i).length:Int)=V3 (u0 b.2.1) i (p9 b.2.1).length:=a;omega
theorem NetOk.capIn{b:j7}{i:Nat}(h:NetOk b i){k:Nat}(c:k < (x8 b.2.1 i).length):0<=w6 b i k/\(w6 b i k).toNat < (m3 b i).1.length/\0<=X1 b i k/\X1 b i k<=500:=by
 have a:=h.wf.snkIn k (by rw[h.sn]; exact c);have d:=D0z h.df (QV (Ng c).2);exact⟨a.1,a.2,d.1,d.2⟩
theorem NetOk.low{b:j7}{i:Nat}(h:NetOk b i):∀m,m<=(x8 b.2.1 i).length->Low (fN (BX (w6 b i) (X1 b i)) m (m3 b i).2.2.1) (m3 b i).1.length (500*((m3 b i).1.length:Int)+500*(m:Int)):=fun m a=>r0f (D0P h.wf.cap h.wf.capOk) m (fun k c=>h.capIn (by omega))
theorem NetOk.pull{b:j7}{i:Nat}(h:NetOk b i):∀k,k<=(m3 b i).1.length-1->JI (fN (W9 (T5 b i) (m3 b i).1.length) k (fN (BX (w6 b i) (X1 b i)) (x8 b.2.1 i).length (m3 b i).2.2.1)) (m3 b i).1.length k 43000:=by
 have a:=h.low _ (Nat.le_refl _);have f:=h.s78;have g:=h.wf.n8;have e:Low (fN (BX (w6 b i) (X1 b i)) (x8 b.2.1 i).length (m3 b i).2.2.1) (m3 b i).1.length 43000:=⟨a.len,a.pos,by have:=a.sum; omega⟩;exact m0G e (by decide) (fun k c d=>h.wf.par k c d)
theorem NetOk.loads{b:j7}{i:Nat}(h:NetOk b i):(z6 b i).length=(m3 b i).1.length/\∀j,0<=(z6 b i).getD j 0/\(z6 b i).getD j 0<=43000:=by
 have:=h.pull _ (Nat.le_refl _);exact⟨this.len,fun j=>⟨this.pos j,this.bd j⟩⟩
abbrev x6(b:j7)(i:Nat):m5:=b.1.getD (m7 b.2.1 i).2.1.toNat (b7 y64)
theorem FQ{b:j7}(a:DF b.1 b.2.1){i:Nat}(hi:i<b.2.1.1.length):ix (m7 b.2.1 i).2.1 b.1.length/\Bq F5 (x6 b i)=true/\(m7 b.2.1 i).2.2.length=(x6 b i).2.2.1.length:=by
 have:=a.fac.inst i hi;unfold S0 at this;rw[ba,ba,beq_iff_eq] at this;have c:=z8.1 this.1.1;have d:=this.1.2;have e:((m7 b.2.1 i).2.2.length:Int)=((x6 b i).2.2.1.length:Int):=d;exact⟨⟨c.1,by omega⟩,n0a a.lib (by omega),by omega⟩
theorem FR{c:m5}(h:Bq F5 c=true):2<=c.2.2.1.length/\c.2.2.1.length<=5/\c.2.2.2.1.length<=8/\∀j,j<c.2.2.2.1.length->0<=(m8 c j).2.1/\(m8 c j).2.1 < (c.2.2.1.length:Int)-1/\0<=(m8 c j).2.2.1/\(m8 c j).2.2.1 < (c.2.2.1.length:Int):=by
 have h:U9 F5 _ _ _ _ _ _ _ _ _=true:=h;unfold U9 Hz at h;simp only[ba,dq] at h;have b:=JB h.1.1.1.1.2;refine⟨b.1,b.2.1,h.1.1.1.2.1,fun j d=>?_⟩;have:=Bo.1 h.1.1.1.2.2 j d;rw[Bool.or_eq_false_iff,Bool.not_eq_false'] at this;have a:=this.1;unfold F5 at a;rw[ba,ba] at a;have f:=z8.1 a.1.1;have e:=z8.1 a.1.2;omega
theorem N0g(l:List m5)(d:r8)(a:DF l d){p:B4}(b:p∈p9 d):Ha d l p=some (FP l d p):=by
 unfold Ha FP;rcases Wp a b with h | ⟨h1,h2,h3,h4,h5,h6⟩
 ·rw[if_pos (by rw[h.1]; decide),if_pos (by omega)]
 ·refine(if_neg (by simp; omega)).trans ?_;rw[if_neg (by omega),gP ⟨oo,⟨h3,by show(m7 d p.1.toNat).2.1<_; omega⟩,⟨h5,by show p.2.1 < (((l.getD (m7 d p.1.toNat).2.1.toNat (b7 y64)).2.2.1.length:Nat):Int); omega⟩,trivial⟩];rfl
theorem N0h(d:r8)(f:wf y31 d){l:List m5}(a:DF l d)(t:Int):LF d t=some (x8 d t):=by
 have k:=a.len;unfold LF;rw[QU d f a.fac.ni14 a.fac.np8 a.pin,vS,gP ⟨rfl,trivial⟩,lE];exact lF (n:=(p9 d).length) (by omega) (fun i (s:List Int)=>(s,(i:Int))) (N6 (u0 d) t) (fun i s=>s.length<=i) (J:=fun s=>some s) (F:=A0Z t (p9 d)) (fun g i s hi c=>by
  have h:((i:Int)).toNat=i:=rfl;have e:∀s',Ps (i:Int) g s'=g (s',((i+1:Nat):Int)):=fun j=>gP ⟨oo,trivial⟩;refine(if_pos (by simpa using hi)).trans ?_;have b:s.length<=i:=c;rw[h,gP ⟨oo,hi,trivial⟩,lE,gP ⟨⟨by show s.length+1<=_; omega,by show(s.length+1)*8<=_; omega⟩,trivial⟩,e,e];show _=g (N6 (u0 d) t i s,_);unfold N6;show(if((u0 d i).2.2.1==t&&!(u0 d i).2.2.2)=true then _ else _)=_;split <;> rfl) (fun i s hi c=>by
  have b:s.length<=i:=c;unfold N6;split
  ·rw[List.length_append]; show s.length+1<=i+1; omega
  ·omega) (fun g s _=>aE) [] (Nat.le_refl _)
theorem N0i(xs:List Int)(h:xs.length<=1048576):Pu xs=some xs:=gP ⟨oo,trivial⟩
theorem r87(b:j7)(y:wf k8 b){i:Nat}(h:NetOk b i):BP b (i:Int)=some (z6 b i):=by
 have w:=y.2.1;have df:=h.df;have hb:=y.2.2.1;have hi:=h.lt;have n1:=h.wf.n1;have n8:=h.wf.n8;have Q:=h.sn;have hs:=h.s78;have E:=h.wf.cap;unfold BP;have W:((i:Int)).toNat=i:=rfl;rw[gP ⟨oo,trivial⟩,lE,W,N0i _ (by show(m3 b i).2.2.1.length<=_; omega),vS,gP ⟨rfl,trivial⟩,lE,QU b.2.1 w df.fac.ni14 df.fac.np8 df.pin,vS,gP ⟨rfl,trivial⟩,lE,N0h b.2.1 w df,vS,gP ⟨rfl,trivial⟩,lE];have m:=lF (n:=(x8 b.2.1 i).length) (by omega) (fun k (s:List Int)=>((k:Int),s)) (BX (w6 b i) (X1 b i)) (fun k v=>Low v (m3 b i).1.length (500*((m3 b i).1.length:Int)+500*(k:Int))) (J:=Pt (m3 b i)) (F:=F0G b (p9 b.2.1) (x8 b.2.1 i) (m3 b i)) (fun g k v c a=>by
  have G:((k:Int)).toNat=k:=rfl;obtain⟨u,q,r,X⟩:=h.capIn c;obtain⟨T,t⟩:=Ng c;have hv:=a.bd (by omega) (w6 b i k).toNat;have e:0<=(m3 b i).2.2.2.getD k 0:=u;have j:((m3 b i).2.2.2.getD k 0).toNat<v.length:=by rw[a.len]; exact q
  refine(if_pos (by simpa using c)).trans ?_;rw[G,gP ⟨oo,c,trivial⟩,N0g b.1 b.2.1 df (QV t),vS];rw[gP ⟨oo,⟨e,by omega⟩,j,⟨T,by omega⟩,t,rfl,⟨by show _<=v.getD (w6 b i k).toNat 0+X1 b i k; omega,by show v.getD (w6 b i k).toNat 0+X1 b i k<=_; omega⟩,⟨e,by omega⟩,j,trivial⟩,lE];exact gP ⟨oo,trivial⟩) (fun k v c a=>by
  obtain⟨u,q,r,X⟩:=h.capIn c;have:=a.add q r;refine⟨this.len,this.pos,Int.le_trans this.sum ?_⟩;rw[Int.natCast_add,Int.mul_add];simp only[Int.natCast_one];omega) (fun g s _=>aE) (m3 b i).2.2.1 (by
  have:=h.low 0 (Nat.zero_le _);exact this)
 refine m.trans ?_;have f:=(h.low _ (Nat.le_refl _)).len;have d:=h.pull 0 (Nat.zero_le _);have z:z6 b i=fN (W9 (T5 b i) (m3 b i).1.length) ((m3 b i).1.length-1) (fN (BX (w6 b i) (X1 b i)) (x8 b.2.1 i).length (m3 b i).2.2.1):=rfl;rw[z];have o:=h.pull;generalize fN (BX (w6 b i) (X1 b i)) (x8 b.2.1 i).length (m3 b i).2.2.1=v0 at f d o ⊢;rw[Pt,f,gP ⟨oo,trivial⟩];have H:(((m3 b i).1.length:Int)-1,v0)=(fun(k:Nat) (s:List Int)=>(((m3 b i).1.length:Int)-1-(k:Int),s)) 0 v0:=by simp
 rw[H];exact lF (n:=(m3 b i).1.length-1) (by omega) (fun(k:Nat) (s:List Int)=>(((m3 b i).1.length:Int)-1-(k:Int),s)) (W9 (T5 b i) (m3 b i).1.length) (fun k v=>JI v (m3 b i).1.length k 43000) (J:=fun s=>some s) (F:=Je (m3 b i)) (fun g k v c a=>by
  have V:=h.wf.par ((m3 b i).1.length-1-k) (by omega) (by omega);have l:0<=(m3 b i).1.getD ((m3 b i).1.length-1-k) 0/\((m3 b i).1.getD ((m3 b i).1.length-1-k) 0).toNat < (m3 b i).1.length-1-k:=V;have x:=a.len;have P:((m3 b i).1.length:Int)-1-(k:Int)=(((m3 b i).1.length-1-k:Nat):Int):=by omega
  have Y:((((m3 b i).1.length-1-k:Nat):Int)).toNat=(m3 b i).1.length-1-k:=rfl;have b1:=a.pos ((m3 b i).1.getD ((m3 b i).1.length-1-k) 0).toNat;have b2:=a.bd ((m3 b i).1.getD ((m3 b i).1.length-1-k) 0).toNat;have b3:=a.pos ((m3 b i).1.length-1-k);have b4:=a.bd ((m3 b i).1.length-1-k);have e8:((m3 b i).1.length:Int)-1-((k+1:Nat):Int)=(((m3 b i).1.length-1-k:Nat):Int)-1:=by omega
  show Je (m3 b i) g (((m3 b i).1.length:Int)-1-(k:Int),v)=g (((m3 b i).1.length:Int)-1-((k+1:Nat):Int),W9 (T5 b i) (m3 b i).1.length k v);rw[e8,P];refine(if_pos (decide_eq_true (by omega))).trans ?_;rw[Y,gP ⟨oo,⟨l.1,by omega⟩,by omega,oo,by omega,oo,⟨l.1,by omega⟩,by omega,trivial⟩,lE];exact gP ⟨oo,trivial⟩) (fun k v c a=>VU a c (h.wf.par _ (by omega) (by omega))) (fun g s _=>by
  have e9:((m3 b i).1.length:Int)-1-(((m3 b i).1.length-1:Nat):Int)=0:=by omega
  show Je (m3 b i) g (((m3 b i).1.length:Int)-1-(((m3 b i).1.length-1:Nat):Int),s)=some s;rw[e9];have:Je (m3 b i) g (0,s)=Ue s:=by
   rw[Je];exact if_neg (by decide)
  exact this.trans rfl) v0 d
def A7(b:j7)(i:Nat):List Int:=E0s (m3 b i).1.length (T5 b i) (Cb b i) (fun k=>(z6 b i).getD k 0)
def Z1(b:j7)(i:Nat):List Int:=fN (HD (A7 b i) (w6 b i)) (x8 b.2.1 i).length []
theorem NetOk.del{b:j7}{i:Nat}(h:NetOk b i):∀k,k<=(m3 b i).1.length-1->(fN (S7 (T5 b i) (Cb b i) (fun k=>(z6 b i).getD k 0)) k [0]).length=k+1/\∀j,0<=(fN (S7 (T5 b i) (Cb b i) (fun k=>(z6 b i).getD k 0)) k [0]).getD j 0/\(fN (S7 (T5 b i) (Cb b i) (fun k=>(z6 b i).getD k 0)) k [0]).getD j 0<=1000*43000*(k:Int) :=
 w0g (n:=(m3 b i).1.length) (fun k a=>h.wf.resIn k a) (fun k _=>h.loads.2 k) (by decide)
theorem NetOk.delays{b:j7}{i:Nat}(h:NetOk b i):(A7 b i).length=(m3 b i).1.length/\∀j,0<=(A7 b i).getD j 0/\(A7 b i).getD j 0<=301000000:=by
 have a:=h.del _ (Nat.le_refl _);have n1:=h.wf.n1;have n8:=h.wf.n8;refine⟨a.1.trans (by omega),fun j=>⟨(a.2 j).1,Int.le_trans (a.2 j).2 (by omega)⟩⟩
theorem N0f(b:j7)(w:wf k8 b){i:Nat}(h:NetOk b i):LH b (i:Int)=some (A7 b i):=by
 have hi:=h.lt;have T:=w.2.2.1;have n1:=h.wf.n1;have n8:=h.wf.n8;have V:=h.wf.res;obtain⟨P,u⟩:=h.loads;have H:((i:Int)).toNat=i:=rfl;unfold LH;rw[r87 b w h,vS,gP ⟨oo,rfl,trivial⟩,lE,H];show gd ((0<=((z6 b i).length:Int)/\((z6 b i).length:Int)=((z6 b i).length:Int)/\((z6 b i).length:Int).toNat*8<=281474976710656/\((z6 b i).length:Int)<=9223372036854775807)/\True) (lp (LG (m3 b i) (z6 b i)) (1,List.replicate ((z6 b i).length:Int).toNat 0))=_;rw[P,gP ⟨⟨by omega,rfl,by omega,by omega⟩,trivial⟩];have E:((1:Int),List.replicate ((m3 b i).1.length:Int).toNat (0:Int))=(fun(k:Nat) (s:List Int)=>(((k+1:Nat):Int),s++List.replicate ((m3 b i).1.length-1-k) 0)) 0 [0]:=by
  show((1:Int),List.replicate (m3 b i).1.length (0:Int))=_;have:(m3 b i).1.length=((m3 b i).1.length-1)+1:=by omega
  rw[this,List.replicate_succ];rfl
 rw[E];refine(lF (n:=(m3 b i).1.length-1) (by omega) (fun(k:Nat) (s:List Int)=>(((k+1:Nat):Int),s++List.replicate ((m3 b i).1.length-1-k) 0)) (S7 (T5 b i) (Cb b i) (fun k=>(z6 b i).getD k 0)) (fun k s=>s.length=k+1/\∀j,0<=s.getD j 0/\s.getD j 0<=1000*43000*(k:Int)) (J:=fun s=>some s) (F:=LG (m3 b i) (z6 b i)) (fun g k s z d=>?_) (fun k s z d=>?_) (fun g s d=>?_) [0] ?_)
 ·obtain⟨e,f⟩:=d;have t:=h.wf.par (k+1) (by omega) (by omega);have l:(s++List.replicate ((m3 b i).1.length-1-k) (0:Int)).length=(m3 b i).1.length:=by rw[List.length_append,List.length_replicate]; omega
  have y:(((k+1:Nat):Int)).toNat=k+1:=rfl;have x:=z0y (n:=(m3 b i).1.length) e t.2;have a:=h.wf.resIn (k+1) (by omega);have c:=u (k+1);have o:=MV a.1 a.2 c.1 c.2;have m:=f ((m3 b i).1.getD (k+1) 0).toNat;show LG (m3 b i) (z6 b i) g (((k+1:Nat):Int),s++List.replicate ((m3 b i).1.length-1-k) 0)=g (((k+1+1:Nat):Int),S7 (T5 b i) (Cb b i) (fun k=>(z6 b i).getD k 0) k s++List.replicate ((m3 b i).1.length-1-(k+1)) 0);have G:S7 (T5 b i) (Cb b i) (fun k=>(z6 b i).getD k 0) k s++List.replicate ((m3 b i).1.length-1-(k+1)) 0=(s++List.replicate ((m3 b i).1.length-1-k) 0).set (k+1) (s.getD ((m3 b i).1.getD (k+1) 0).toNat 0+(m3 b i).2.1.getD (k+1) 0*(z6 b i).getD (k+1) 0):=(z0x e (by omega)).symm;rw[G,<- x];generalize s++List.replicate ((m3 b i).1.length-1-k) (0:Int)=v at l x ⊢;refine(if_pos (by simp; omega)).trans ?_;rw[y,gP ⟨oo,⟨t.1,by omega⟩,by omega,oo,oo,by omega,oo,oo,oo,by omega,trivial⟩,lE];exact gP ⟨oo,trivial⟩
 ·obtain⟨e,f⟩:=d;have a:=h.wf.resIn (k+1) (by omega);have c:=u (k+1);have o:=MV a.1 a.2 c.1 c.2;have m:=f (T5 b i (k+1)).toNat;unfold S7;refine⟨by rw[List.length_append,e]; rfl,fun j=>?_⟩;have o:0<=Cb b i (k+1)*(z6 b i).getD (k+1) 0/\Cb b i (k+1)*(z6 b i).getD (k+1) 0<=1000*43000:=o;rcases Nat.lt_or_ge j s.length with r | r
  ·have:=f j;rw[JJ r]; omega
  ·rw[VV r];cases hjs:j-s.length with
   | zero=>simp only[List.getD_cons_zero]; omega
   | succ q=>simp only[List.getD_cons_succ,List.getD_nil]; omega
 ·have Q:(m3 b i).1.length-1-((m3 b i).1.length-1)=0:=by omega
  show LG (m3 b i) (z6 b i) g ((((m3 b i).1.length-1+1:Nat):Int),s++List.replicate ((m3 b i).1.length-1-((m3 b i).1.length-1)) 0)=some s;rw[Q,List.replicate_zero,List.append_nil,<- d.1];exact aE
 ·exact h.del 0 (Nat.zero_le _)
theorem r88(b:j7)(e:wf k8 b){i:Nat}(h:NetOk b i):Fy b (i:Int)=some (Z1 b i):=by
 have hi:=h.lt;have o:=e.2.2.1;have c:=h.sn;have m:=h.s78;obtain⟨r,q⟩:=h.delays;have j:((i:Int)).toNat=i:=rfl;unfold Fy;rw[N0f b e h,vS,gP ⟨rfl,trivial⟩,lE,gP ⟨oo,trivial⟩,lE,j];unfold Z1;rw[<- c];exact lF (n:=(m3 b i).2.2.2.length) (by omega) (fun(k:Nat) (s:List Int)=>(s,(k:Int))) (HD (A7 b i) (w6 b i)) (fun k s=>s.length=k) (J:=fun s=>some s) (F:=F0E (A7 b i) (m3 b i)) (fun g k s d a=>by
  have l:((k:Int)).toNat=k:=rfl;have f:=h.wf.snkIn k d;have a:s.length=k:=a;refine(if_pos (by simpa using d)).trans ?_;rw[l,gP ⟨oo,trivial⟩,gP ⟨⟨f.1,by omega⟩,by omega,⟨by show s.length+1<=_; omega,by show(s.length+1)*8<=_; omega⟩,trivial⟩,lE];exact gP ⟨oo,trivial⟩) (fun k s d a=>by
  have a:s.length=k:=a;unfold HD;rw[List.length_append,a]; rfl) (fun g s _=>aE) [] rfl
theorem HK{b:j7}{i k:Nat}(a:k < (x8 b.2.1 i).length):(Z1 b i).getD k 0=(A7 b i).getD (w6 b i k).toNat 0:=v0Y _ _ _ k a
theorem HL(b:j7)(i:Nat):(Z1 b i).length=(x8 b.2.1 i).length:=VW _ _ _
theorem N0j(a:A8):LJ a=some (I7 a.1 a.2.2.2.1):=by
 unfold LJ I7;split
 ·rfl
 split
 ·rfl
 split
 ·rfl
 split
 ·rfl
 split
 ·rfl
 ·rfl
theorem r85(b:j7)(u:DF b.1 b.2.1){i:Nat}(hi:i<b.2.1.1.length)(f:Int)(Y:0<=f)(W:f<=1000):Fz b (m7 b.2.1 i) f=some (AL f (m8 (x6 b i)) (x6 b i).2.2.2.1.length):=by
 obtain⟨P,w,X⟩:=FQ u hi;obtain⟨x,Q,q,o⟩:=FR w;unfold Fz;rw[gP ⟨P,trivial⟩,lE];show lp (Uj f (x6 b i)) ([],0)=_;generalize x6 b i=c at x Q q o;refine lF (n:=c.2.2.2.1.length) (by omega) (fun(j:Nat) (s:List w7)=>(s,(j:Int))) (S8 f (m8 c)) (fun j s=>s.length<=4*j) (J:=fun s=>some s) (F:=Uj f c) (fun g j s l e=>?_) (fun j s l e=>?_) (fun g s _=>aE) [] (Nat.le_refl _)
 ·have t:((j:Int)).toNat=j:=rfl;obtain⟨T,G,v,V⟩:=o j l;have e:s.length<=4*j:=e;refine(if_pos (by simpa using l)).trans ?_;rw[t,gP ⟨oo,trivial⟩,lE,N0j,vS,gP ⟨rfl,trivial⟩,lE];show lp (Ui f (m8 c j) (j:Int) (I7 (m8 c j).1 (m8 c j).2.2.2.1) g) (0,s)=g (S8 f (m8 c) j s,_);obtain⟨E,m⟩:=QO (m8 c j).1 (m8 c j).2.2.2.1;have H:S8 f (m8 c) j s=fN (Ai f (m8 c j).2.1 (m8 c j).2.2.1 (j:Int) (I7 (m8 c j).1 (m8 c j).2.2.2.1)) (I7 (m8 c j).1 (m8 c j).2.2.2.1).length s:=rfl;rw[H];generalize I7 (m8 c j).1 (m8 c j).2.2.2.1=tr at E m;generalize m8 c j=a at T G v V;refine(lF (n:=tr.length) (by omega) (fun(k:Nat) (s:List w7)=>((k:Int),s)) (Ai f a.2.1 a.2.2.1 (j:Int) tr) (fun k z=>z.length=s.length+k) (J:=fun z=>Uh (j:Int) g z) (F:=Ui f a (j:Int) tr g) (fun r k z h hz=>?_) (fun k z h hz=>?_) (fun r z _=>aE) s rfl).trans ?_
  ·have y:((k:Int)).toNat=k:=rfl;have ht:=m _ (H5 (d:=((0,0):Int×Int)) h);have hz:z.length=s.length+k:=hz;refine(if_pos (by simpa using h)).trans ?_;rw[y,gP ⟨oo,h,trivial⟩,lE];show gd _ _=_;rw[gP ⟨oo,oo,oo,⟨by show _<=2*(f+a.2.1)+(tr.getD k (0,0)).1; omega,by show 2*(f+a.2.1)+(tr.getD k (0,0)).1<=_; omega⟩,oo,oo,oo,⟨by show _<=2*(f+a.2.2.1)+(tr.getD k (0,0)).2; omega,by show 2*(f+a.2.2.1)+(tr.getD k (0,0)).2<=_; omega⟩,⟨by show z.length+1<=_; omega,by show(z.length+1)*32<=_; omega⟩,trivial⟩,lE];exact gP ⟨oo,trivial⟩
  ·have hz:z.length=s.length+k:=hz;unfold Ai;rw[List.length_append,hz]; rfl
  ·exact gP ⟨oo,trivial⟩
 ·have e:s.length<=4*j:=e;have:=VY f (m8 c) j s;show _<=4*(j+1);omega
def Bs(b:j7)(i:Nat)(s:Int×List w7):Int×List w7:=X0 (fun i=>(m7 b.2.1 i).2.2.length) (fun i=>m8 (x6 b i)) (fun i=>(x6 b i).2.2.2.1.length) i s
def I8(b:j7)(i:Nat):Int:=V4 (u0 b.2.1) i (p9 b.2.1).length
def JP(b:j7):List w7:=(fN (Bs b) b.2.1.1.length (0,[])).2
def lV(b:j7):List w7:=fN (Bp (I8 b) (fun i=>x8 b.2.1 i)) b.2.2.length (JP b)
def B0Q(b:j7):List Int:=fN (AM fun i=>(z6 b i).getD 0 0) b.2.2.length []
def w0f(b:j7):List (List Int):=fN (AM fun i=>Z1 b i) b.2.2.length []
def m9(b:j7):C6:=(b,p9 b.2.1,lV b,B0Q b,w0f b,[])
theorem Wq{b:j7}(a:DF b.1 b.2.1)(m:Nat)(c:m<=b.2.1.1.length):0<=(fN (Bs b) m (0,[])).1/\(fN (Bs b) m (0,[])).1<=5*(m:Int)/\(fN (Bs b) m (0,[])).2.length<=32*m :=
 n0i (n:=b.2.1.1.length) (fun i hi=>⟨(a.pin i hi).2,(FR (FQ a hi).2.1).2.2.1⟩) m c
def QW(b:j7)(i:Nat)(s:List Int×List (List Int)×List w7):List Int×List (List Int)×List w7:=(s.1++[(z6 b i).getD 0 0],s.2.1++[Z1 b i],Bp (I8 b) (fun i=>x8 b.2.1 i) i s.2.2)
theorem k0c(b:j7)(z:List w7):∀m,fN (QW b) m ([],[],z)=(fN (AM fun i=>(z6 b i).getD 0 0) m [],fN (AM fun i=>Z1 b i) m [],fN (Bp (I8 b) (fun i=>x8 b.2.1 i)) m z)
 | 0=>rfl
 | m+1=>by
   show QW b m (fN (QW b) m ([],[],z))=_;rw[k0c b z m]; rfl
theorem Ws(b:j7)(hw:wf k8 b)(hb:p8 b=true):CA b=some (m9 b):=by
 obtain⟨aF,V,aB⟩:=V5 hb;have d:=T4 aF;have hd:=hw.2.1;have aK:=d.fac.ni14;have aL:=d.fac.nn30;have aM:=d.len;have aI:b.2.1.1.length<=9223372036854775807:=by omega
 have eN:∀l,D5 l=some (l.length:Int):=fun _=>rfl;unfold CA;rw[QU b.2.1 hd d.fac.ni14 d.fac.np8 d.pin,vS,gP ⟨rfl,trivial⟩,lE];refine(lF (n:=b.2.1.1.length) aI (fun(i:Nat) (s:Int×List w7)=>(s.1,(i:Int),s.2)) (Bs b) (fun i s=>0<=s.1/\s.1<=5*(i:Int)/\s.2.length<=32*i) (J:=fun s=>LL (p9 b.2.1) b s.2) (F:=G0y b (p9 b.2.1)) (fun g i s hi j=>?_) (fun i s hi j=>?_) (fun g s _=>aE) (0,[]) ⟨Int.le_refl _,Int.le_refl _,Nat.le_refl _⟩).trans ?_
 ·have G:((i:Int)).toNat=i:=rfl;obtain⟨f,z⟩:=s;obtain⟨e,i2,i3⟩:=j;have e:0<=f:=e;have i2:f<=5*(i:Int):=i2;have i3:z.length<=32*i:=i3;have hp:=d.pin i hi;have aA:=MX f (m8 (x6 b i)) (x6 b i).2.2.2.1.length;have aD:=(FR (FQ d hi).2.1).2.2.1;refine(if_pos (by grind)).trans ?_;rw[G,gP ⟨oo,trivial⟩,lE];show gd ((Fz b (m7 b.2.1 i) f).isSome=true/\_/\True) _=_;rw[r85 b d hi f e (by omega),vS,gP ⟨rfl,oo,trivial⟩,lE];show gd ((D5 (m7 b.2.1 i).2.2).isSome=true/\c9 (f+vl (D5 (m7 b.2.1 i).2.2))/\True) _=_;rw[eN,vS,gP ⟨rfl,oo,trivial⟩,lE];exact gP ⟨oo,trivial⟩
 ·obtain⟨f,z⟩:=s;obtain⟨e,i2,i3⟩:=j;have e:0<=f:=e;have i2:f<=5*(i:Int):=i2;have i3:z.length<=32*i:=i3;have hp:=d.pin i hi;have aA:=MX f (m8 (x6 b i)) (x6 b i).2.2.2.1.length;have aD:=(FR (FQ d hi).2.1).2.2.1;refine⟨by show 0<=f+((m7 b.2.1 i).2.2.length:Int); omega,by show f+((m7 b.2.1 i).2.2.length:Int)<=_; omega,?_⟩;show(z++AL f (m8 (x6 b i)) (x6 b i).2.2.2.1.length).length<=_
  grind
 have hz:=(Wq d _ (Nat.le_refl _)).2.2;have Y:JP b=(fN (Bs b) b.2.1.1.length (0,[])).2:=rfl;unfold m9 lV B0Q w0f;rw[Y];generalize (fN (Bs b) b.2.1.1.length (0,[])).2=z at hz;show LL (p9 b.2.1) b z=_;have aJ:b.2.2.length<=30:=by omega
 rw[LL,gP ⟨⟨by omega,rfl,by omega,by omega⟩,trivial⟩,gP ⟨⟨by omega,rfl,by omega,by omega⟩,trivial⟩];show lp (Up (p9 b.2.1) b z) (0,List.replicate b.2.2.length [],List.replicate b.2.2.length 0)=_;have h:∀i,i < (p9 b.2.1).length->m0 (u0 b.2.1 i).2.2.1 0 ((b.2.2.length:Int)-1)=true:=fun i hi=>by rw[V]; exact d.plc _ (QV hi)
 have gf:=n0l (u0 b.2.1) b.2.2.length;refine(lF (n:=(p9 b.2.1).length) (by omega) (fun(i:Nat) (s:List (List Int)×List Int)=>((i:Int),s.1,s.2)) (Y6 (u0 b.2.1)) (fun i s=>s.1.length=b.2.2.length/\s.2.length=b.2.2.length/\∀k:Nat,(s.1.getD k []).length<=i) (J:=fun s=>Uo b (p9 b.2.1) z s) (F:=Up (p9 b.2.1) b z) (fun g i s hi j=>?_) (fun i s hi j=>?_) (fun g s _=>aE) (List.replicate b.2.2.length [],List.replicate b.2.2.length 0) ⟨List.length_replicate,List.length_replicate,fun k=>?_⟩).trans ?_
 ·obtain⟨a,c⟩:=s;obtain⟨Q,H,w⟩:=j;have Q:a.length=b.2.2.length:=Q;have H:c.length=b.2.2.length:=H;have w:∀k:Nat,(a.getD k []).length<=i:=w;have hp:=z8.1 (h i hi);have G:((i:Int)).toNat=i:=rfl;have j4:∀x y,Pv (i:Int) g (x,y)=g (((i+1:Nat):Int),y,x):=fun x y=>gP ⟨oo,trivial⟩;have g4:=w (u0 b.2.1 i).2.2.1.toNat;refine(if_pos (by grind)).trans ?_;rw[G,gP ⟨oo,hi,trivial⟩,lE];show(if(u0 b.2.1 i).2.2.2=true then _ else _)=g (_,(Y6 (u0 b.2.1) i (a,c)).1,(Y6 (u0 b.2.1) i (a,c)).2);unfold Y6;cases(u0 b.2.1 i).2.2.2 with
  | true =>
    rw[if_pos rfl,if_pos rfl];show gd (ix (u0 b.2.1 i).2.2.1 c.length/\_/\True) _=_;rw[gP ⟨oo,by grind,trivial⟩,j4]
  | false =>
    rw[if_neg (by simp),if_neg (by simp)];show gd (ix (u0 b.2.1 i).2.2.1 a.length/\_) _=_;rw[gP ⟨oo,by grind,⟨by grind,by grind⟩,⟨by grind,by grind⟩,⟨by grind,rfl⟩,trivial⟩,lE,j4]
 ·obtain⟨a,c⟩:=s;obtain⟨Q,H,w⟩:=j;have Q:a.length=b.2.2.length:=Q;have H:c.length=b.2.2.length:=H;have w:∀k:Nat,(a.getD k []).length<=i:=w;have hp:=z8.1 (h i hi);unfold Y6
  grind[List.length_set,Wa,List.length_append]
 ·grind
 obtain⟨gl,dl,u⟩:=gf (p9 b.2.1).length h;generalize fN (Y6 (u0 b.2.1)) (p9 b.2.1).length (List.replicate b.2.2.length [],List.replicate b.2.2.length 0)=s at gl dl u;obtain⟨a,c⟩:=s;have gl:a.length=b.2.2.length:=gl;have dl:c.length=b.2.2.length:=dl;have aG:∀k:Nat,k<b.2.2.length->a.getD k []=x8 b.2.1 k:=fun k E=>(u k E).1;have aC:∀k:Nat,k<b.2.2.length->c.getD k 0=I8 b k:=fun k E=>(u k E).2;show lp (Un c a b (p9 b.2.1)) (0,[],[],z)=_;refine(lF (n:=b.2.2.length) (by omega) (fun(i:Nat) (s:List Int×List (List Int)×List w7)=>((i:Int),s.1,s.2.1,s.2.2)) (QW b) (fun i s=>s.1.length=i/\s.2.1.length=i/\s.2.2.length<=500+160*i) (J:=fun s=>some (b,p9 b.2.1,s.2.2,s.1,s.2.1,[])) (F:=Un c a b (p9 b.2.1)) (fun g i s hi j=>?_) (fun i s hi j=>?_) (fun g s _=>aE) ([],[],z) ⟨rfl,rfl,by grind⟩).trans ?_
 ·obtain⟨o,q,r⟩:=s;obtain⟨e,i2,i3⟩:=j;have e:o.length=i:=e;have i2:q.length=i:=i2;have i3:r.length<=500+160*i:=i3;have m:=Br hb hi;have n1:=m.wf.n1;have W:=m.s78;have aN:=m.loads.1;have G:((i:Int)).toNat=i:=rfl;refine(if_pos (by grind)).trans ?_;rw[r87 b hw m,vS,gP ⟨rfl,oo,by omega,⟨by grind,by grind⟩,trivial⟩,lE,r88 b hw m,vS,gP ⟨rfl,⟨by grind,by grind⟩,trivial⟩,lE,gP ⟨oo,trivial⟩];have T:=aG i hi;have aH:=aC i hi;have P:=VZ (u0 b.2.1) i (p9 b.2.1).length;have P:0<=I8 b i/\I8 b i<=((p9 b.2.1).length:Int):=P;show lp (Hb c (i:Int) a q (Z1 b i) o (z6 b i) g) (0,r)=g (_,o++[(z6 b i).getD 0 0],q++[Z1 b i],Bp (I8 b) (fun i=>x8 b.2.1 i) i r);refine(lF (n:=(x8 b.2.1 i).length) (by omega) (fun(k:Nat) (s:List w7)=>((k:Int),s)) (BY (I8 b i) (x8 b.2.1 i)) (fun k y=>y.length=r.length+2*k) (J:=fun y=>Uk (i:Int) g (q++[Z1 b i],o++[(z6 b i).getD 0 0],y)) (F:=Hb c (i:Int) a q (Z1 b i) o (z6 b i) g) (fun v k y E hy=>?_) (fun k y E hy=>?_) (fun v y _=>?_) r rfl).trans ?_
  ·have hy:y.length=r.length+2*k:=hy;obtain⟨k1,k2⟩:=Ng E;have e4:((k:Int)).toNat=k:=rfl;show Hb c (i:Int) a q (Z1 b i) o (z6 b i) g v ((k:Int),y)=_;rw[Hb,G,T,if_pos (by grind),gP ⟨oo,trivial⟩];show _=v (_,BY (I8 b i) (x8 b.2.1 i) k y);refine(lF (n:=2) (by decide) (fun(t:Nat) (x:List w7)=>((t:Int),x)) (Wb (I8 b i) ((x8 b.2.1 i).getD k 0) (k:Int)) (fun t x=>x.length=y.length+t) (J:=fun x=>Um (k:Int) v x) (F:=LK c (i:Int) a (k:Int) v) (fun X t x ht hx=>?_) (fun t x ht hx=>?_) (fun X x _=>?_) y rfl).trans ?_
   ·have hx:x.length=y.length+t:=hx;show LK c (i:Int) a (k:Int) v X ((t:Int),x)=_;rw[LK,G,e4,T,aH,if_pos (decide_eq_true (by omega)),gP ⟨oo,by omega,oo,oo,oo,oo,⟨by grind,by grind⟩,trivial⟩,lE];exact gP ⟨oo,trivial⟩
   ·grind[Wb,List.length_append]
   ·grind[LK]
   ·exact gP ⟨oo,trivial⟩
  ·grind[Wc]
  ·show Hb c (i:Int) a q (Z1 b i) o (z6 b i) g v (((x8 b.2.1 i).length:Int),y)=_
   grind[Hb]
  ·exact gP ⟨oo,trivial⟩
 ·obtain⟨o,q,r⟩:=s;obtain⟨e,i2,i3⟩:=j;have e:o.length=i:=e;have i2:q.length=i:=i2;have i3:r.length<=500+160*i:=i3;have W:=(Br hb hi).s78;refine⟨by show(o++_).length=_; grind,by show(q++_).length=_; grind,?_⟩;show(Bp (I8 b) (fun i=>x8 b.2.1 i) i r).length<=_;unfold Bp
  grind[QP]
 ·rw[k0c]
end Go.Proofs.YtdjgagoledoaaaaGreatDoor
end
section
namespace Go.Proofs.Xd
open Go Go.Proofs Go.Proofs.Xl
def y9(x:Nat->D8):Nat->Nat
 | 0=>0
 | i+1=>y9 x i+(x i).2.2.length
theorem n0h(x:D8)(i:Int)(d:B4)(s:List B4):∀n k,k<n->(fN (V2 x i) n s).getD (s.length+k) d=(i,(k:Int),x.2.2.getD k 0,(k:Int)==(x.2.2.length:Int)-1)
 | n+1,k,h=>by
   have b:=HC x i s n;have a:=n0h x i d s n k
   grind[V2,fN]
theorem n0g(x:D8)(i:Int)(d:B4)(s:List B4):∀n j,j<s.length->(fN (V2 x i) n s).getD j d=s.getD j d
 | 0,_,_=>rfl
 | n+1,j,h=>by
   have b:=HC x i s n;have a:=n0g x i d s n j h
   grind[V2,fN,JJ]
theorem Nh(x:Nat->D8):∀n,(fN (P1 x) n []).length=y9 x n
 | 0=>rfl
 | n+1=>by
   have:=Nh x n;show(P1 x n (fN (P1 x) n [])).length=_;unfold P1;rw[HC];show(fN (P1 x) n []).length+_=_;rw[this]; rfl
theorem i0a(x:Nat->D8)(d:B4):∀n i k,i<n->k < (x i).2.2.length->(fN (P1 x) n []).getD (y9 x i+k) d=((i:Int),(k:Int),(x i).2.2.getD k 0,(k:Int)==((x i).2.2.length:Int)-1)
 | n+1,i,k,hi,hk=>by
   have a:=Nh x n;have b:=i0a x d n i k;show(P1 x n (fN (P1 x) n [])).getD _ d=_;generalize fN (P1 x) n []=z at a b;unfold P1;rcases Nat.lt_or_ge i n with h | h
   ·have c:y9 x i+k<z.length:=by
     rw[a];have:∀m,i<m->y9 x i+(x i).2.2.length<=y9 x m:=by
      intro m
      induction m with
      | zero=>omega
      | succ m b =>
        grind[y9,Nat.lt_or_ge]
     have:=this n h;omega
    grind[n0g]
   grind[n0h]
theorem m0H(y:Nat->N5)(d:B4)(s:List B4):∀n j,j<s.length->(fN (P9 y) n s).getD j d=s.getD j d
 | 0,_,_=>rfl
 | n+1,j,h=>by
   have b:=MT y s n;have a:=m0H y d s n j h
   grind[P9,fN,JJ]
theorem m0I(y:Nat->N5)(d:B4)(s:List B4):∀n k,k<n->(fN (P9 y) n s).getD (s.length+k) d=(-1,(k:Int),(y k).2.2,(y k).2.1==1)
 | n+1,k,h=>by
   have b:=MT y s n;have a:=m0I y d s n k
   grind[P9,fN]
theorem q0o(x:Nat->D8):∀n j,j<y9 x n->∃i k,i<n/\k < (x i).2.2.length/\j=y9 x i+k
 | n+1,j,h=>by
   have h:j<y9 x n+(x n).2.2.length:=h;rcases Nat.lt_or_ge j (y9 x n) with a | a
   ·obtain⟨i,k,d,b,c⟩:=q0o x n j a;exact⟨i,k,by omega,b,c⟩
   ·exact⟨n,j-y9 x n,by omega,by omega,by omega⟩
theorem Ni(x:Nat->D8){i n k:Nat}(hi:i<n)(a:k < (x i).2.2.length):y9 x i+k<y9 x n:=by
 induction n with
 | zero=>omega
 | succ n b =>
   grind[y9,Nat.lt_or_ge]
theorem JQ(ni np:Nat)(x:Nat->D8)(y:Nat->N5):(L7 ni np x y).length=y9 x ni+np:=by
 grind[L7,MT,Nh]
theorem QX(ni np:Nat)(x:Nat->D8)(y:Nat->N5)(d:B4){i k:Nat}(hi:i<ni)(a:k < (x i).2.2.length):(L7 ni np x y).getD (y9 x i+k) d=((i:Int),(k:Int),(x i).2.2.getD k 0,(k:Int)==((x i).2.2.length:Int)-1):=by
 grind[L7,m0H,Nh,Ni,i0a]
theorem h0Z(ni np:Nat)(x:Nat->D8)(y:Nat->N5)(d:B4){k:Nat}(a:k<np):(L7 ni np x y).getD (y9 x ni+k) d=(-1,(k:Int),(y k).2.2,(y k).2.1==1):=by
 grind[L7,Nh,m0I]
theorem s0b(ni np:Nat)(x:Nat->D8)(y:Nat->N5)(d:B4){i k:Nat}(hi:i<ni)(c:k < (x i).2.2.length){j:Nat}(b:j < (L7 ni np x y).length):(((L7 ni np x y).getD j d).1==(i:Int)&&((L7 ni np x y).getD j d).2.1==(k:Int))=decide (j=y9 x i+k):=by
 rw[Bool.eq_iff_iff,ba,beq_iff_eq,beq_iff_eq,dq];rw[JQ] at b;constructor
 ·rintro⟨a,f⟩;rcases Nat.lt_or_ge j (y9 x ni) with h | h
  ·grind[q0o,QX,Int.ofNat.inj]
  ·have e:j=y9 x ni+(j-y9 x ni):=by omega
   rw[e,h0Z ni np x y d (by omega)] at a;omega
 grind[QX]
def V6(P:Nat->Bool)(m:Nat):Nat:=fN (fun i s=>if P i=true then s+1 else s) m 0
theorem DJ(P:Nat->Bool)(m:Nat):V6 P (m+1)=if P m=true then V6 P m+1 else V6 P m:=rfl
theorem q0Y{P:Nat->Bool}:∀{m i:Nat},i<m->P i=true->1<=V6 P m
 | m+1,i,h,hp=>by
   rw[DJ];rcases Nat.lt_or_ge i m with a | a
   ·have:=q0Y a hp; split <;> omega
   grind
theorem Wt{P:Nat->Bool}:∀{m i j:Nat},i<j->j<m->P i=true->P j=true->2<=V6 P m
 | m+1,i,j,h1,h2,hi,hj=>by
   rw[DJ];rcases Nat.lt_or_ge j m with a | a
   ·have:=Wt h1 a hi hj; split <;> omega
   ·have:j=m:=by omega
    subst this;have:=q0Y h1 hi
    grind
theorem w0m{P:Nat->Bool}:∀{m:Nat},1<=V6 P m->∃i,i<m/\P i=true
 | 0,h=>by grind[V6,fN]
 | m+1,h=>by
   rw[DJ] at h;by_cases a:P m=true
   ·grind
   ·rw[if_neg a] at h;obtain⟨i,b,c⟩:=w0m h
    grind
def X2(pl:Nat->B4)(t:Int)(j:Nat):Bool:=(pl j).2.2.1==t&&(pl j).2.2.2
theorem n0u{pl:Nat->B4}{t:Int}:∀{m i:Nat},i<m->X2 pl t i=true->(∀j,i<j->j<m->X2 pl t j=false)->V4 pl t m=(i:Int)
 | m+1,i,h,hi,hn=>by
   have e:V4 pl t (m+1)=if X2 pl t m=true then(m:Int) else V4 pl t m:=rfl
   rw[e];rcases Nat.lt_or_ge i m with a | a
   ·rw[if_neg (by grind)];exact n0u a hi (fun j b c=>hn j b (by omega))
   grind
theorem w0b{pl:Nat->B4}{t:Int}{m:Nat}(h:V6 (X2 pl t) m=1):∃i,i<m/\X2 pl t i=true/\(∀j,j<m->X2 pl t j=decide (j=i))/\V4 pl t m=(i:Int):=by
 obtain⟨i,d,b⟩:=w0m (Nat.le_of_eq h.symm);have g:∀j,j<m->X2 pl t j=true->j=i:=fun j c f=>by
  rcases Nat.lt_trichotomy i j with a | a | a
  ·grind[Wt]
  ·omega
  grind[Wt]
 refine⟨i,d,b,fun j c=>?_,n0u d b (fun j e c=>?_)⟩
 ·grind
 grind
theorem q0Z(P:Nat->Bool)(m:Nat):∀n,V6 P (m+n)=V6 P m+V6 (fun i=>P (m+i)) n
 | 0=>rfl
 | n+1=>by
   rw[<- Nat.add_assoc,DJ,DJ,q0Z P m n];split <;> omega
theorem w0l{P:Nat->Bool}{n:Nat}(h:∀i,i<n->P i=false):V6 P (n+1)=if P n=true then 1 else 0:=by
 have:∀m,m<=n->V6 P m=0:=by
  intro m
  induction m with
  | zero=>intro _; rfl
  | succ m a=>intro b; rw[DJ,h m (by omega),if_neg (by simp),a (by omega)]
 rw[DJ,this n (Nat.le_refl _)]
theorem q0H{ni np:Nat}{x:Nat->D8}{y:Nat->N5}{d:B4}{a:Nat}(h:∀i,i<ni->1<=(x i).2.2.length/\m0 ((x i).2.2.getD ((x i).2.2.length-1) 0) 0 ((a:Int)-1)=true):∀n,n<=ni->(fN (V0 x) n (List.replicate a 0)).length=a/\∀t:Nat,t<a->(fN (V0 x) n (List.replicate a 0)).getD t 0=(V6 (X2 (fun j=>(L7 ni np x y).getD j d) t) (y9 x n):Nat)
 | 0,_=>⟨List.length_replicate,fun t g=>by
   show(List.replicate a (0:Int)).getD t 0=_;rw[gq,List.getElem?_replicate,if_pos g]; rfl⟩
 | n+1,hn=>by
   obtain⟨r,q⟩:=q0H (np:=np) (y:=y) (d:=d) h n (by omega);obtain⟨w,c⟩:=h n (by omega);have c:=z8.1 c;have e:fN (V0 x) (n+1) (List.replicate a 0)=V0 x n (fN (V0 x) n (List.replicate a 0)):=rfl;rw[e];generalize fN (V0 x) n (List.replicate a 0)=v at r q;unfold V0 BW;refine⟨by grind,fun t g=>?_⟩;rw[Wa (by omega)];show _=((V6 _ (y9 x n+(x n).2.2.length):Nat):Int);rw[q0Z];have f:∀k,k < (x n).2.2.length->X2 (fun j=>(L7 ni np x y).getD j d) t (y9 x n+k)=((x n).2.2.getD k 0==(t:Int)&&(k:Int)==((x n).2.2.length:Int)-1):=fun k f=>by
    grind[X2,L7,y9,QX]
   obtain⟨m,l⟩:∃m,(x n).2.2.length=m+1:=⟨(x n).2.2.length-1,by omega⟩;have b:(x n).2.2.length-1=m:=by omega
   rw[b] at c;rw[b,l,w0l (fun i hi=>by grind),f m (by omega),l];have u:((m:Int)==((m+1:Nat):Int)-1)=true:=by simp
   rw[u,Bool.and_true];have s:((x n).2.2.getD m 0==(t:Int))=decide (t=((x n).2.2.getD m 0).toNat):=by
    rw[Bool.eq_iff_iff,beq_iff_eq,dq];omega
   rw[s];by_cases o:t=((x n).2.2.getD m 0).toNat
   ·grind
   grind
theorem q0i{ni np:Nat}{x:Nat->D8}{y:Nat->N5}{d:B4}{a:Nat}(b:∀i,i<ni->1<=(x i).2.2.length/\m0 ((x i).2.2.getD ((x i).2.2.length-1) 0) 0 ((a:Int)-1)=true)(c:∀i,i<np->m0 (y i).2.2 0 ((a:Int)-1)=true):∀n,n<=np->(fN (M3 y) n (fN (V0 x) ni (List.replicate a 0))).length=a/\∀t:Nat,t<a->(fN (M3 y) n (fN (V0 x) ni (List.replicate a 0))).getD t 0=(V6 (X2 (fun j=>(L7 ni np x y).getD j d) t) (y9 x ni+n):Nat)
 | 0,_=>q0H b ni (Nat.le_refl _)
 | n+1,hn=>by
   obtain⟨k,g⟩:=q0i (d:=d) b c n (by omega);have o:=z8.1 (c n (by omega));have e:fN (M3 y) (n+1) (fN (V0 x) ni (List.replicate a 0))=M3 y n (fN (M3 y) n (fN (V0 x) ni (List.replicate a 0))):=rfl;rw[e];generalize fN (M3 y) n (fN (V0 x) ni (List.replicate a 0))=v at k g;have l:∀t:Nat,X2 (fun j=>(L7 ni np x y).getD j d) t (y9 x ni+n)=((y n).2.2==(t:Int)&&(y n).2.1==1):=fun t=>by
    grind[X2,L7,y9,h0Z]
   have h:∀t:Nat,((y n).2.2==(t:Int))=decide (t=(y n).2.2.toNat):=fun t=>by
    grind
   unfold M3;split
   ·rename_i f;unfold BW;refine⟨by grind,fun t m=>?_⟩;rw[Wa (by omega),<- Nat.add_assoc,DJ,l,h,f]
    grind
   grind[Nat.add_assoc,DJ]
def HM(f:Int)(a:D7)(j:Nat)(t:Nat):w7:=(2*(f+a.2.1)+((I7 a.1 a.2.2.2.1).getD t (0,0)).1,2*(f+a.2.2.1)+((I7 a.1 a.2.2.2.1).getD t (0,0)).2,1,(j:Int))
def DK(d s:Int)(k t:Nat):w7:=(2*d+(t:Int),2*s+(t:Int),2,(k:Int))
theorem k0D{f a b x:Int}{tr:List (Int×Int)}{s:List w7}{l:w7}:∀k,l∈fN (Ai f a b x tr) k s->l∈s∨∃t,t<k/\l=(2*(f+a)+(tr.getD t (0,0)).1,2*(f+b)+(tr.getD t (0,0)).2,1,x)
 | 0,h=>.inl h
 | k+1,h=>by
   rcases List.mem_append.1 (show l∈fN (Ai f a b x tr) k s++[_] from h) with h | h
   ·rcases k0D k h with h | ⟨t,ht,e⟩
    ·exact .inl h
    ·exact .inr ⟨t,by omega,e⟩
   ·exact .inr ⟨k,by omega,List.mem_singleton.1 h⟩
theorem n0G{f:Int}{a:Nat->D7}{s:List w7}{l:w7}:∀m,l∈fN (S8 f a) m s->l∈s∨∃j t,j<m/\t < (I7 (a j).1 (a j).2.2.2.1).length/\l=HM f (a j) j t
 | 0,h=>.inl h
 | m+1,h=>by
   rcases k0D _ (show l∈fN (Ai f _ _ (m:Int) _) _ (fN (S8 f a) m s) from h) with h | ⟨t,ht,e⟩
   ·rcases n0G m h with h | ⟨j,t,hj,ht,e⟩
    ·exact .inl h
    ·exact .inr ⟨j,t,by omega,ht,e⟩
   ·exact .inr ⟨m,t,by omega,ht,e⟩
theorem Wu{a:Nat->Nat}{b:Nat->Nat->D7}{d:Nat->Nat}{x:Nat->D8}(c:∀i,a i=(x i).2.2.length):∀m,(fN (X0 a b d) m (0,[])).1=(y9 x m:Int)
 | 0=>rfl
 | m+1=>by
   show(fN (X0 a b d) m (0,[])).1+(a m:Int)=((y9 x m+(x m).2.2.length:Nat):Int);rw[Wu c m,c m]; omega
theorem k0r{b:Nat->Nat}{a:Nat->Nat->D7}{c:Nat->Nat}{x:Nat->D8}(d:∀i,b i=(x i).2.2.length){l:w7}:∀m,l∈(fN (X0 b a c) m (0,[])).2->∃i j t,i<m/\j<c i/\t < (I7 (a i j).1 (a i j).2.2.2.1).length/\l=HM (y9 x i:Int) (a i j) j t
 | 0,h=>by cases h
 | m+1,h=>by
   rcases List.mem_append.1 (show l∈(fN (X0 b a c) m (0,[])).2++AL _ _ _ from h) with h | h
   ·obtain⟨i,j,t,hi,f⟩:=k0r d m h;exact⟨i,j,t,by omega,f⟩
   ·rcases n0G _ h with h | ⟨j,t,hj,ht,e⟩
    ·cases h
    ·rw[Wu d m] at e;exact⟨m,j,t,by omega,hj,ht,e⟩
theorem j0z{d:Int}{a:List Int}{z:List w7}{l:w7}:∀k,l∈fN (BY d a) k z->l∈z∨∃j t,j<k/\t<2/\l=DK d (a.getD j 0) j t
 | 0,h=>.inl h
 | k+1,h=>by
   have h:l∈(fN (BY d a) k z++[DK d (a.getD k 0) k 0])++[DK d (a.getD k 0) k 1]:=h;rcases List.mem_append.1 h with h | h
   ·rcases List.mem_append.1 h with h | h
    ·rcases j0z k h with h | ⟨j,t,hj,ht,e⟩
     ·exact .inl h
     ·exact .inr ⟨j,t,by omega,ht,e⟩
    ·exact .inr ⟨k,0,by omega,by omega,List.mem_singleton.1 h⟩
   ·exact .inr ⟨k,1,by omega,by omega,List.mem_singleton.1 h⟩
theorem m0S{d:Nat->Int}{a:Nat->List Int}{z:List w7}{l:w7}:∀m,l∈fN (Bp d a) m z->l∈z∨∃i j t,i<m/\j < (a i).length/\t<2/\l=DK (d i) ((a i).getD j 0) j t
 | 0,h=>.inl h
 | m+1,h=>by
   rcases j0z _ (show l∈fN (BY (d m) (a m)) _ (fN (Bp d a) m z) from h) with h | ⟨j,t,hj,ht,e⟩
   ·rcases m0S m h with h | ⟨i,j,t,hi,hr⟩
    ·exact .inl h
    ·exact .inr ⟨i,j,t,by omega,hr⟩
   ·exact .inr ⟨m,j,t,by omega,hj,ht,e⟩
theorem Wv(f a b x:Int)(tr:List (Int×Int))(s:List w7):∀k,fN (Ai f a b x tr) k s=s++fN (Ai f a b x tr) k []
 | 0=>(List.append_nil _).symm
 | k+1=>by
   show fN (Ai f a b x tr) k s++[_]=s++(fN (Ai f a b x tr) k []++[_]);rw[Wv f a b x tr s k,List.append_assoc]
theorem n0H(f:Int)(a:Nat->D7)(s:List w7):∀m,fN (S8 f a) m s=s++AL f a m
 | 0=>(List.append_nil _).symm
 | m+1=>by
   show S8 f a m (fN (S8 f a) m s)=s++S8 f a m (AL f a m);rw[n0H f a s m];unfold S8;rw[Wv,Wv _ _ _ _ _ (AL f a m),List.append_assoc]
end Go.Proofs.Xd
end
section
namespace Go.Proofs.YtdjgagoledoaaaaGreatDoor
open Go Go.Proofs Go.Proofs.Sv Go.Proofs.Xv Go.Proofs.Xl Go.Proofs.Xd
theorem Ww(l:List w7)(f t a b k i:Int)(g:0<=f/\f<=1000)(d:0<=t/\t<=1000)(e:0<=a/\a<=1)(c:0<=b/\b<=1)(h:l.length<=100000):Fs l f t a b k i=some (l++[(2*f+a,2*t+b,k,i)]) :=
 gP ⟨oo,oo,oo,oo,⟨by show l.length+1<=_; omega,by show(l.length+1)*32<=_; omega⟩,trivial⟩
def I0h(k s:Int)(x y:Nat):Bool:=if(k==1)=true then s==3||(s==1)==((x:Int)==(y:Int)) else if(k==2)=true then(x:Int)==0 else if(k==3)=true then(x:Int)==1 else false
def Bt(k s f t i:Int)(x y:Nat)(l:List w7):List w7:=if I0h k s x y=true then l++[(2*f+(x:Int),2*t+(y:Int),1,i)] else l
theorem r0m(k s f t i:Int)(x y:Nat)(l:List w7):(Bt k s f t i x y l).length<=l.length+1:=by
 unfold Bt;split
 ·rw[List.length_append]; exact Nat.le_refl _
 ·omega
theorem n0M(k s f t i:Int)(x:Nat)(l:List w7):∀n,(fN (Bt k s f t i x) n l).length<=l.length+n
 | 0=>Nat.le_refl _
 | n+1=>by
   have h:=n0M k s f t i x l n;have:=r0m k s f t i x n (fN (Bt k s f t i x) n l);show(Bt k s f t i x n (fN (Bt k s f t i x) n l)).length<=_;omega
theorem r73(a:A8)(l:List w7)(f t i:Int)(q:0<=f/\f<=1000)(o:0<=t/\t<=1000)(u:l.length<=90000):GV l a f t i=some (fN (fun x s=>fN (Bt a.1 a.2.2.2.1 f t i x) 2 s) 2 l):=by
 unfold GV;refine lF (n:=2) (by decide) (fun(x:Nat) (s:List w7)=>((x:Int),s)) (fun x s=>fN (Bt a.1 a.2.2.2.1 f t i x) 2 s) (fun x s=>s.length<=l.length+2*x) (J:=fun s=>some s) (F:=Pb f t i a) (fun g x s m b=>?_) (fun x s m b=>?_) (fun g s _=>by
  show Pb f t i a g (((2:Nat):Int),s)=_;rw[Pb];exact if_neg (by decide)) l (Nat.le_refl _)
 ·have b:s.length<=l.length+2*x:=b;refine(if_pos (decide_eq_true (by omega))).trans ?_;refine(lF (n:=2) (by decide) (fun(y:Nat) (s:List w7)=>((y:Int),s)) (Bt a.1 a.2.2.2.1 f t i x) (fun y s=>s.length<=l.length+2*x+y) (J:=fun s=>TS (x:Int) g s) (F:=OZ f t (x:Int) i a g) (fun c y s r b=>?_) (fun y s r b=>?_) (fun c s _=>by
   show OZ f t (x:Int) i a g c (((2:Nat):Int),s)=_;rw[OZ];exact if_neg (by decide)) s b).trans ?_
  ·have b:s.length<=l.length+2*x+y:=b;have k:∀v,OY (y:Int) c v=c (((y+1:Nat):Int),v):=fun v=>gP ⟨oo,trivial⟩;have j:∀v,Ft (y:Int) s f t (x:Int) i c v=c (((y+1:Nat):Int),if v=true then s++[(2*f+(x:Int),2*t+(y:Int),1,i)] else s):=fun v=>by
    cases v with
    | true=>rw[Ft,if_pos rfl,if_pos rfl,Ww s f t x y 1 i q o (by omega) (by omega) (by omega),gP ⟨rfl,trivial⟩,vS,lE,k]
    | false=>rw[Ft,if_neg (by simp),if_neg (by simp),k]
   refine(if_pos (decide_eq_true (by omega))).trans ?_;show _=c (((y+1:Nat):Int),Bt a.1 a.2.2.2.1 f t i x y s);unfold Bt I0h;rw[j,j,j,j];by_cases h:(a.1==1)=true
   ·rw[if_pos h,if_pos h]
   rw[if_neg h,if_neg h];by_cases d:(a.1==2)=true
   ·rw[if_pos d,if_pos d]
   rw[if_neg d,if_neg d];by_cases e:(a.1==3)=true
   ·rw[if_pos e,if_pos e]
   rw[if_neg e,if_neg e]
  ·have b:s.length<=l.length+2*x+y:=b;have:=r0m a.1 a.2.2.2.1 f t i x y s;omega
  ·exact gP ⟨oo,trivial⟩
 ·have b:s.length<=l.length+2*x:=b;have:=n0M a.1 a.2.2.2.1 f t i x s 2;omega
theorem VM{k s:Int}(h:(k=1/\(s=1∨s=2∨s=3))∨k=2∨k=3)(a A B i:Int)(l:List w7):fN (fun x z=>fN (Bt k s (a+A) (a+B) i x) 2 z) 2 l=fN (Ai a A B i (I7 k s)) (I7 k s).length l:=by
 rcases h with ⟨rfl,rfl | rfl | rfl⟩ | rfl | rfl <;> rfl
theorem k0w{b:Nat->Bool}{n m:Nat}(c:m<n)(a:b m=true)(d:∀j,j<m->b j=false):(List.range n).find? b=some m:=by
 rw[List.find?_range_eq_some];refine⟨a,List.mem_range.2 c,fun j e=>?_⟩;rw[d j e]; rfl
theorem r74(d:r8)(m:wf y31 d){l:List m5}(c:DF l d){i k:Nat}(hi:i<d.1.length)(f:k < (m7 d i).2.2.length):Y1 d (i:Int) (k:Int)=some ((y9 (m7 d) i+k:Nat):Int)/\y9 (m7 d) i+k < (p9 d).length:=by
 have q:=c.len;have a:y9 (m7 d) i+k < (p9 d).length:=by
  have:=Ni (m7 d) hi f;unfold p9;rw[JQ]; omega
 refine⟨?_,a⟩;unfold Y1;rw[DI d m c.fac.ni14 c.fac.np8 c.pin,vS,gP ⟨rfl,trivial⟩,lE];have h:∀j,j < (p9 d).length->((u0 d j).1==(i:Int)&&(u0 d j).2.1==(k:Int))=decide (j=y9 (m7 d) i+k):=fun j b=>s0b d.1.length d.2.2.length (m7 d) (A6 d) (b7 y151) hi f b;have e:=CL (n:=(p9 d).length) (by omega) (fun j=>(u0 d j).1==(i:Int)&&(u0 d j).2.1==(k:Int)) (F:=ZQ (p9 d) (i:Int) (k:Int)) (fun g j b=>by
  have o:((j:Int)).toNat=j:=rfl;refine(if_pos (by simpa using b)).trans ?_;rw[o,gP ⟨oo,b,(fun _=>oo),(fun _=>b),trivial⟩,gP ⟨oo,trivial⟩]) (fun g=>aE)
 refine e.trans ?_;rw[k0w a (by rw[h _ a,decide_eq_true rfl]) (fun j b=>by rw[h j (by omega)]; exact decide_eq_false (by omega))]
theorem w0c{b:j7}(l:p8 b=true){t:Nat}(q:t<b.2.2.length):V6 (X2 (u0 b.2.1) t) (p9 b.2.1).length=1:=by
 obtain⟨g,j,_⟩:=V5 l;have f:=T4 g;have e:CK _ _ _ _ _ _ _ _ _=true:=g;unfold CK at e;rw[ba] at e;have n:∀i,i<b.2.1.1.length->1<=(m7 b.2.1 i).2.2.length/\m0 ((m7 b.2.1 i).2.2.getD ((m7 b.2.1 i).2.2.length-1) 0) 0 ((b.2.1.2.1.length:Int)-1)=true:=fun i hi=>by
  have c:=(f.pin i hi).1;exact⟨c,f.fac.net.1 i hi _ (by omega)⟩
 obtain⟨o,m⟩:=q0i (d:=b7 y151) n (fun i hi=>f.fac.net.2 i hi) b.2.1.2.2.length (Nat.le_refl _);have a:=JG (p:=fun x=>x==1) e.2 (i:=t) (by
  unfold FM;rw[o]; omega)
 have c:(FM b.2.1.1.length b.2.1.2.2.length b.2.1.2.1.length (m7 b.2.1) (A6 b.2.1)).getD t 0=1:=beq_iff_eq.1 a;have h:=m t (by omega);unfold FM at c;rw[c] at h;have k:(p9 b.2.1).length=y9 (m7 b.2.1) b.2.1.1.length+b.2.1.2.2.length:=JQ _ _ _ _;rw[k];exact Int.ofNat.inj h.symm
theorem r75(b:j7)(o:wf k8 b)(e:p8 b=true){t:Nat}(l:t<b.2.2.length):Ld b.2.1 (t:Int)=some (I8 b t)/\0<=I8 b t/\(I8 b t).toNat < (p9 b.2.1).length:=by
 have a:=T4 (V5 e).1;have s:=a.len;obtain⟨i,k,f,h,q⟩:=w0b (w0c e l);have r:I8 b t=(i:Int):=q;refine⟨?_,by omega,by omega⟩;unfold Ld;rw[DI b.2.1 o.2.1 a.fac.ni14 a.fac.np8 a.pin,vS,gP ⟨rfl,trivial⟩,lE];have d:=CL (n:=(p9 b.2.1).length) (by omega) (X2 (u0 b.2.1) t) (F:=ZN (p9 b.2.1) (t:Int)) (fun g j c=>by
  have m:((j:Int)).toNat=j:=rfl;refine(if_pos (by simpa using c)).trans ?_;rw[m,gP ⟨oo,c,(fun _=>oo),(fun _=>c),trivial⟩,gP ⟨oo,trivial⟩];rfl) (fun g=>aE)
 refine d.trans ?_;rw[k0w k f (fun j c=>by rw[h j (by omega)]; exact decide_eq_false (by omega)),r]
theorem n0K{c:m5}(h:Bq F5 c=true){j:Nat}(a:j<c.2.2.2.1.length):F5 c.2.2.1.length (r5 c) (m8 c j)=true:=by
 grind[U9,F5,Hz]
theorem r0l{n:Nat}{p:Nat->N4}{a:D7}(h:F5 n p a=true)(c:a.1<=3):((a.1=1/\(a.2.2.2.1=1∨a.2.2.2.1=2∨a.2.2.2.1=3))∨a.1=2∨a.1=3)/\D9 a.2.2.2.2.1 true=true/\D9 a.2.2.2.2.2 true=true:=by
 unfold F5 at h;simp only[ba] at h;obtain⟨_,h⟩:=h;by_cases b:a.1=1
 ·rw[if_pos b] at h;simp only[ba] at h
  grind[z8]
 grind
theorem r0O{k s:Int}(h:3<k):I7 k s=[]:=by
 grind[I7]
theorem r0P{k s:Int}(h:0 < (I7 k s).length):k=1∨k=2∨k=3:=by
 grind[I7]
def HN(b:j7)(i:Nat)(s:List w7):List w7:=s++AL (y9 (m7 b.2.1) i) (m8 (x6 b i)) (x6 b i).2.2.2.1.length
theorem Wx(b:j7):∀n,fN (HN b) n []=(fN (Bs b) n (0,[])).2
 | 0=>rfl
 | n+1=>by
   show HN b n (fN (HN b) n [])=(fN (Bs b) n (0,[])).2++AL (fN (Bs b) n (0,[])).1 (m8 (x6 b n)) (x6 b n).2.2.2.1.length;have a:(fN (Bs b) n (0,[])).1=(y9 (m7 b.2.1) n:Int):=Wu (fun _=>rfl) n;rw[Wx b n,a]; rfl
theorem r0R{b:j7}(a:DF b.1 b.2.1){t:Int}{k:Nat}(c:k < (x8 b.2.1 t).length):0<=(x8 b.2.1 t).getD k 0/\(x8 b.2.1 t).getD k 0<=1000:=by
 have:=Ng c;have:=a.len;omega
theorem Nj(b:j7)(T:wf k8 b)(r:p8 b=true):u32 b=some (lV b):=by
 obtain⟨E,m,w⟩:=V5 r;have d:=T4 E;have Q:=T.2.1;have Y:=d.fac.ni14;have aA:=d.fac.nn30;have aB:=d.len;unfold u32;refine(lF (n:=b.2.1.1.length) (by omega) (fun(i:Nat) (s:List w7)=>((i:Int),s)) (HN b) (fun i s=>s.length<=32*i) (J:=Pc b) (F:=ZV b) (fun g i s hi c=>?_) (fun i s hi c=>?_) (fun g s _=>aE) [] (Nat.le_refl _)).trans ?_
 ·have c:s.length<=32*i:=c;have e3:((i:Int)).toNat=i:=rfl;obtain⟨W,t,x3⟩:=FQ d hi;obtain⟨c1,c2,c3,c4⟩:=FR t;have a:=fun k e=>r74 b.2.1 Q d (i:=i) (k:=k) hi e;refine(if_pos (by grind)).trans ?_;rw[e3,gP ⟨oo,W,trivial⟩,lE];refine(lF (n:=(x6 b i).2.2.2.1.length) (by omega) (fun(j:Nat) (z:List w7)=>((j:Int),z)) (S8 (y9 (m7 b.2.1) i) (m8 (x6 b i))) (fun j z=>z.length<=s.length+4*j) (J:=TU (i:Int) g) (F:=ZU (x6 b i) b (i:Int) g) (fun o j z G hz=>?_) (fun j z G hz=>?_) (fun o z _=>aE) s (Nat.le_refl _)).trans ?_
  ·have hz:z.length<=s.length+4*j:=hz;have u:((j:Int)).toNat=j:=rfl;obtain⟨a1,a2,a3,a4⟩:=c4 j G;have ha:=n0K t G;have P:∀v,Le (j:Int) o v=o (((j+1:Nat):Int),v):=fun v=>gP ⟨oo,trivial⟩;refine(if_pos (by grind)).trans ?_;rw[u,gP ⟨oo,trivial⟩];show(if decide ((m8 (x6 b i) j).1<=3)=true then _ else _)=o (((j+1:Nat):Int),S8 (y9 (m7 b.2.1) i) (m8 (x6 b i)) j z);by_cases e:(m8 (x6 b i) j).1<=3
   ·refine(if_pos (decide_eq_true e)).trans ?_;obtain⟨k1,k2,k3⟩:=r0l ha e;obtain⟨A,hA⟩:∃A:Nat,(m8 (x6 b i) j).2.1=(A:Int):=⟨(m8 (x6 b i) j).2.1.toNat,by omega⟩;obtain⟨B,hB⟩:∃B:Nat,(m8 (x6 b i) j).2.2.1=(B:Int):=⟨(m8 (x6 b i) j).2.2.1.toNat,by omega⟩;obtain⟨fA,lA⟩:=a A (by omega);obtain⟨fB,lB⟩:=a B (by omega);have V:=r73 (m8 (x6 b i) j) z ((y9 (m7 b.2.1) i+A:Nat):Int) ((y9 (m7 b.2.1) i+B:Nat):Int) (j:Int) (by omega) (by omega) (by omega);have X:=VM k1 (y9 (m7 b.2.1) i:Int) (A:Int) (B:Int) (j:Int) z;rw[<- Int.natCast_add,<- Int.natCast_add] at X;rw[X] at V;show gd (ix (j:Int) (x6 b i).2.2.2.1.length/\ix (j:Int) (x6 b i).2.2.2.1.length/\(Y1 b.2.1 (i:Int) (m8 (x6 b i) j).2.1).isSome=true/\ix (j:Int) (x6 b i).2.2.2.1.length/\(Y1 b.2.1 (i:Int) (m8 (x6 b i) j).2.2.1).isSome=true/\(GV z (m8 (x6 b i) j) (vl (Y1 b.2.1 (i:Int) (m8 (x6 b i) j).2.1)) (vl (Y1 b.2.1 (i:Int) (m8 (x6 b i) j).2.2.1)) (j:Int)).isSome=true/\True) (lt (vl (GV z (m8 (x6 b i) j) (vl (Y1 b.2.1 (i:Int) (m8 (x6 b i) j).2.1)) (vl (Y1 b.2.1 (i:Int) (m8 (x6 b i) j).2.2.1)) (j:Int))) fun v=>Le (j:Int) o v)=_;rw[hA,hB,fA,fB,vS,vS,V,vS,gP ⟨oo,oo,rfl,oo,rfl,rfl,trivial⟩,lE,P]
    grind[S8]
   ·refine(if_neg (by grind)).trans ?_;rw[P];unfold S8;rw[r0O (by omega)];rfl
  ·grind[VY]
  ·rw[n0H];exact gP ⟨oo,trivial⟩
 ·have c:s.length<=32*i:=c;obtain⟨W,t,x3⟩:=FQ d hi;have c3:=(FR t).2.2.1;have:=MX (y9 (m7 b.2.1) i) (m8 (x6 b i)) (x6 b i).2.2.2.1.length
  grind[HN,List.length_append]
 ·have f:(fN (HN b) b.2.1.1.length []).length<=500:=by
   have:=Wq d b.2.1.1.length (Nat.le_refl _);rw[Wx];omega
  have H:fN (HN b) b.2.1.1.length []=JP b:=Wx b _;unfold lV;rw[H] at f ⊢;generalize JP b=z at f ⊢;unfold Pc;rw[m];refine lF (n:=b.2.1.2.1.length) (by omega) (fun(i:Nat) (s:List w7)=>((i:Int),s)) (Bp (I8 b) (fun i=>x8 b.2.1 i)) (fun i s=>s.length<=500+160*i) (J:=fun s=>some s) (F:=ZT b) (fun g i s hi c=>?_) (fun i s hi c=>?_) (fun g s _=>aE) z f
  ·have c:s.length<=500+160*i:=c;have h:i<b.2.2.length:=by omega
   have q:=(Br r h).s78;obtain⟨d1,d2,d3⟩:=r75 b T r h;have es:U4 b.2.1 (i:Int)=some (x8 b.2.1 i):=Wo b.2.1 Q d _;refine(if_pos (by grind)).trans ?_;rw[d1,vS,gP ⟨rfl,trivial⟩,lE,es,vS,gP ⟨rfl,trivial⟩,lE];refine(lF (n:=(x8 b.2.1 i).length) (by omega) (fun(k:Nat) (y:List w7)=>((k:Int),y)) (BY (I8 b i) (x8 b.2.1 i)) (fun k y=>y.length=s.length+2*k) (J:=TT (i:Int) g) (F:=ZS (I8 b i) (x8 b.2.1 i) (i:Int) g) (fun g8 k y e x=>?_) (fun k y e x=>?_) (fun g8 y _=>aE) s rfl).trans ?_
   ·have x:y.length=s.length+2*k:=x;have u:((k:Int)).toNat=k:=rfl;have l:=r0R d e;have p1:=Ww y (I8 b i) ((x8 b.2.1 i).getD k 0) 0 0 2 (k:Int) (by omega) l oo oo (by omega);have p2:=Ww (y++[(2*I8 b i+0,2*(x8 b.2.1 i).getD k 0+0,2,(k:Int))]) (I8 b i) ((x8 b.2.1 i).getD k 0) 1 1 2 (k:Int) (by omega) l oo oo (by grind);refine(if_pos (by grind)).trans ?_;rw[u,p1,vS,gP ⟨oo,e,rfl,trivial⟩,lE,p2,vS,gP ⟨oo,e,rfl,trivial⟩,lE];exact gP ⟨oo,trivial⟩
   ·grind[Wc]
   ·exact gP ⟨oo,trivial⟩
  ·have c:s.length<=500+160*i:=c;have q:=(Br r (show i<b.2.2.length by omega)).s78;unfold Bp
   grind[QP]
theorem R3{b:j7}(d:p8 b=true):(lV b).length<=6000:=by
 have a:=T4 (V5 d).1;have e:=a.fac.ni14;have j:=Wq a b.2.1.1.length (Nat.le_refl _);have g:=q0y (I8 b) (fun i=>x8 b.2.1 i) (JP b) (n:=b.2.2.length) (c:=78) (fun i hi=>(Br d hi).s78) b.2.2.length (Nat.le_refl _);have h:=(V5 d).2.1;have f:=a.fac.nn30;have k:(JP b).length=(fN (Bs b) b.2.1.1.length (0,[])).2.length:=rfl
 grind[lV]
theorem Wy{b:j7}{l:w7}(h:l∈lV b):(∃i j t,i<b.2.1.1.length/\j < (x6 b i).2.2.2.1.length/\t < (I7 (m8 (x6 b i) j).1 (m8 (x6 b i) j).2.2.2.1).length/\l=HM (y9 (m7 b.2.1) i:Int) (m8 (x6 b i) j) j t) ∨
  ∃i k t,i<b.2.2.length/\k < (x8 b.2.1 i).length/\t<2/\l=DK (I8 b i) ((x8 b.2.1 i).getD k 0) k t:=by
 rcases m0S _ h with h | h
 ·exact .inl (k0r (fun _=>rfl) _ h)
 grind
end Go.Proofs.YtdjgagoledoaaaaGreatDoor
end
section
namespace Go.Proofs.Xd
open Go Go.Proofs.Xv Go.Proofs.Xl
theorem z0N{xs:List Int}(h:F8 xs=true):∀i,0<i->i<xs.length->xs.getD (i-1) 0<xs.getD i 0:=by
 simp only[F8,ba,dq] at h;intro i a hi;have:=Bo.1 h.2 i hi;simp only[Bool.and_eq_false_iff,decide_eq_false_iff_not] at this;omega
theorem w0z{xs:List Int}(h:F8 xs=true):∀k i,i+k<xs.length->0<k->xs.getD i 0<xs.getD (i+k) 0:=by
 intro k
 induction k with
 | zero=>intro i _ d; omega
 | succ k c =>
   intro i hi _;have a:=z0N h (i+(k+1)) (by omega) hi;have e:i+(k+1)-1=i+k:=by omega
   rw[e] at a;by_cases b:k=0
   ·subst b; exact a
   ·have:=c i (by omega) (by omega); omega
theorem CM{xs:List Int}(h:F8 xs=true){i j:Nat}(a:i<j)(b:j<xs.length):xs.getD i 0<xs.getD j 0:=by
 have:=w0z h (j-i) i (by omega) (by omega);have e:i+(j-i)=j:=by omega
 rwa [e] at this
theorem Nk{xs:List Int}(h:F8 xs=true){i:Nat}(hi:i<xs.length):0<=xs.getD i 0/\xs.getD i 0<=100000:=by
 simp only[F8,ba,dq] at h;have a:=h.1.2;rw[List.all_eq_true] at a;have e:xs.getD i 0=xs[i]:=by rw[gq,List.getElem?_eq_getElem hi]; rfl
 rw[e];exact z8.1 (a _ (List.getElem_mem hi))
theorem p0I{t:DC}(h:C8 t=true){i:Nat}(hi:i<t.2.2.length) : -1000000<=t.2.2.getD i 0/\t.2.2.getD i 0<=1000000:=by
 simp only[C8,ba,dq] at h;have a:=h.2;rw[List.all_eq_true] at a;have e:t.2.2.getD i 0=t.2.2[i]:=by rw[gq,List.getElem?_eq_getElem hi]; rfl
 rw[e];exact z8.1 (a _ (List.getElem_mem hi))
theorem w0A{xs:List Int}(h:F8 xs=true){x:Int}(_:xs.getD 0 0<=x)(n:x<=xs.getD (xs.length-1) 0):∃p,p<xs.length/\(∀i,i<p->xs.getD i 0<x)/\(∀i,p<=i->i<xs.length->x<=xs.getD i 0):=by
 have c:∀m,m<=xs.length->(∃p,p<m/\(∀i,i<p->xs.getD i 0<x)/\x<=xs.getD p 0)∨∀i,i<m->xs.getD i 0<x:=by
  intro m
  induction m with
  | zero=>exact fun _=>.inr fun i hi=>by omega
  | succ m k =>
    intro o;rcases k (by omega) with ⟨p,e,a,b⟩ | a
    ·exact .inl ⟨p,by omega,a,b⟩
    ·by_cases g:x<=xs.getD m 0
     ·exact .inl ⟨m,by omega,a,g⟩
     ·exact .inr fun i hi=>by
       by_cases d:i=m
       ·subst d; omega
       ·exact a i (by omega)
 have l:=CI h;rcases c xs.length (Nat.le_refl _) with ⟨p,e,a,b⟩ | a
 ·refine⟨p,e,a,fun i j hi=>?_⟩;by_cases f:p=i
  ·subst f; exact b
  ·have:=CM h (by omega:p<i) hi; omega
 ·have:=a (xs.length-1) (by omega); omega
theorem FT{a ρ:Type}{F:(a->Option ρ)->a->Option ρ}{s:a}{r:Option ρ}(k:Nat)(b:k<=9223372036854775807)(h:∀n,I9 F (n+k) s=r):lp F s=r:=by
 have e:V7=(V7-k)+k:=by have:=QY b; omega
 unfold lp;rw[e];exact h _
theorem D0I(i j:Nat):((i:Int)+(j:Int)).fdiv ((2:Int) ^ Int.toNat (1:Int))=((((i+j) / 2:Nat)):Int):=by
 have e:(2:Int) ^ Int.toNat (1:Int)=2:=by decide
 rw[e,Int.fdiv_eq_ediv_of_nonneg _ (by omega)];omega
theorem J6{x y A B:Int}(e : -A<=x)(c:x<=A)(a:0<=y)(f:y<=B)(b:0<=A) : -(A*B)<=x*y/\x*y<=A*B:=by
 have h:x*y<=A*y:=Int.mul_le_mul_of_nonneg_right c a;have g:A*y<=A*B:=Int.mul_le_mul_of_nonneg_left f b;have d : -A*y<=x*y:=Int.mul_le_mul_of_nonneg_right e a;rw[Int.neg_mul] at d;omega
theorem QZ{p q b a:Nat}(c:p<b)(e:q<a):p*a+q<b*a:=by
 have d:(p+1)*a<=b*a:=Nat.mul_le_mul_right _ c;rw[Nat.add_mul,Nat.one_mul] at d;omega
end Go.Proofs.Xd
end
section
namespace Go.Proofs.Xd
open Go Go.Proofs Go.Proofs.Xl
def u4(a b m:Int):Int:=if(decide (a.tmod b<0)&&m==0)=true then a.tdiv b-1 else if(decide (0<a.tmod b)&&m==1)=true then a.tdiv b+1 else a.tdiv b
theorem FU{a b K:Int}(m:Int)(c:0<b)(o : -(K*b)<=a)(j:a<=K*b) : -K<=u4 a b m/\u4 a b m<=K:=by
 have e:=Int.mul_tdiv_add_tmod a b;have k:=Int.tmod_lt_of_pos a c;have n:=Int.lt_tmod_of_pos a c;have l:b*K=K*b:=Int.mul_comm _ _;have g:∀q:Int,b*q<b*K+b->q<=K:=fun q h=>by
  have:b*q<b*(K+1):=by rw[Int.mul_add,Int.mul_one]; exact h
  have:=Int.lt_of_mul_lt_mul_left this (Int.le_of_lt c);omega
 have d:∀q:Int,-(b*K)-b<b*q -> -K<=q:=fun q h=>by
  have:b*(-K-1)<b*q:=by rw[Int.mul_sub,Int.mul_one,Int.mul_neg]; exact h
  have:=Int.lt_of_mul_lt_mul_left this (Int.le_of_lt c);omega
 have i:∀q:Int,b*q<b*K->q<K:=fun q h=>Int.lt_of_mul_lt_mul_left h (Int.le_of_lt c);have f:∀q:Int,-(b*K)<b*q -> -K<q:=fun q h=>by
  have:b*(-K)<b*q:=by rw[Int.mul_neg]; exact h
  exact Int.lt_of_mul_lt_mul_left this (Int.le_of_lt c)
 have s:=g (a.tdiv b) (by omega);have r:=d (a.tdiv b) (by omega);unfold u4;split
 ·rename_i h;rw[ba,dq] at h;have:=f (a.tdiv b) (by omega);omega
 ·split
  ·rename_i h;rw[ba,dq] at h;have:=i (a.tdiv b) (by omega);omega
  ·omega
theorem Wz{b ρ:Type}{F:(b->Option ρ)->b->Option ρ}{J:b->Option ρ}(d:b->Nat)(I:b->Prop)(c:b->Bool)(nx:b->b)
  (i:∀g s,I s->F g s=if c s=true then g (nx s) else J s) (l:∀s,I s->c s=true->I (nx s)/\d (nx s)<d s) (s:b) (a:I s) (t:d s<=9223372036854775806):∃s',I s'/\c s'=false/\lp F s=J s':=by
 have f:∀(n:Nat) (s:b),d s<=n->I s->∃s',I s'/\c s'=false/\∀k,I9 F (k+(n+1)) s=J s':=by
  intro n
  induction n with
  | zero =>
    intro s o a;cases hc:c s with
    | true=>have:=(l s a hc).2; omega
    | false=>exact⟨s,a,hc,fun k=>by show F (I9 F k) s=_; rw[i _ _ a,hc]; rfl⟩
  | succ n r =>
    intro s o a;cases hc:c s with
    | true =>
      obtain⟨h,j⟩:=l s a hc;obtain⟨s',e,q,m⟩:=r (nx s) (by omega) h;refine⟨s',e,q,fun k=>?_⟩;show F (I9 F (k+(n+1))) s=_;rw[i _ _ a,hc,if_pos rfl];exact m k
    | false=>exact⟨s,a,hc,fun k=>by show F (I9 F (k+(n+1))) s=_; rw[i _ _ a,hc]; rfl⟩
 obtain⟨s',h,j,e⟩:=f (d s) s (Nat.le_refl _) a;exact⟨s',h,j,FT (d s+1) (by omega) e⟩
def Bu(n r:Int):Prop:=0<=r/\r*r<=n/\n < (r+1)*(r+1)
theorem D0m{a b:Int}(c:0<=a)(h:a<=b):a*a<=b*b:=Int.mul_le_mul h h c (Int.le_trans c h)
theorem WA{a b:Int}(c:0<=a)(h:a<b):a*a<b*b:=by
 have:=Int.mul_le_mul (show a+1<=b by omega) (show a+1<=b by omega) (by omega) (by omega);have e:(a+1)*(a+1)=a*a+2*a+1:=by rw[Int.add_mul,Int.mul_add,Int.one_mul,Int.mul_one]; omega
 omega
theorem q0z{a b:Int}(d:0<=b)(h:a*a<b*b):a<b:=by
 by_cases c:a<b
 ·exact c
 ·have:=D0m d (show b<=a by omega); omega
theorem WB{l h:Int}(b:0<=l)(a:l<h):(l+h+1).tdiv 2=(l+h+1) / 2/\l < (l+h+1) / 2/\(l+h+1) / 2<=h:=by
 refine⟨Int.tdiv_eq_ediv_of_nonneg (by omega),by omega,by omega⟩
end Go.Proofs.Xd
end
section
namespace Go.Proofs.YtdjgagoledoaaaaGreatDoor
open Go Go.Proofs Go.Proofs.Xv Go.Proofs.Xl Go.Proofs.Xd
theorem V8(a b m:Int)(h : -1000000000000000000<=a)(i:a<=1000000000000000000)(d:0<b):BQ a b m=some (u4 a b m)/\W4 a b m=some (u4 a b m):=by
 have k:a.tdiv b<=1000000000000000000 /\ -1000000000000000000<=a.tdiv b:=by
  have j:(a.tdiv b).natAbs<=a.natAbs:=by
   rw[Int.natAbs_tdiv];exact Nat.div_le_self _ _
  omega
 have f:c9 (a.tdiv b-1)/\True:=⟨oo,trivial⟩;have g:c9 (a.tdiv b+1)/\True:=⟨oo,trivial⟩;unfold BQ W4 u4;rw[gP (V:=0<b/\0<b/\True) ⟨d,d,trivial⟩,gP (V:=0<b/\True) ⟨d,trivial⟩,gP (V:=0<b/\True) ⟨d,trivial⟩,gP f,gP g,Bool.and_comm (m==0),Bool.and_comm (m==1)];by_cases c:(decide (a.tmod b<0)&&m==0)=true
 ·rw[if_pos c,if_pos c]; exact⟨rfl,rfl⟩
 ·by_cases e:(decide (0<a.tmod b)&&m==1)=true
  ·rw[if_neg c,if_pos e,if_neg c,if_pos e]; exact⟨rfl,rfl⟩
  ·rw[if_neg c,if_neg e,if_neg c,if_neg e]; exact⟨rfl,rfl⟩
end Go.Proofs.YtdjgagoledoaaaaGreatDoor
end
section
namespace Go.Proofs.YtdjgagoledoaaaaGreatDoor
open Go Go.Proofs Go.Proofs.Sv Go.Proofs.Xv Go.Proofs.Xl Go.Proofs.Xd
theorem M0M(l:List m5)(d:r8)(a:DF l d){p:B4}(b:p∈p9 d):GP l d p=some (FP l d p):=by
 unfold GP FP;rcases Wp a b with h | ⟨h1,h2,h3,h4,h5,h6⟩
 ·grind
 ·refine(if_neg (by grind)).trans ?_;rw[if_neg (by omega),gP ⟨oo,⟨h3,by grind⟩,⟨h5,by grind⟩,trivial⟩];rfl
theorem N0c(xs:List Int)(h:xs.length<=1048576):J8 xs=some xs:=gP ⟨oo,trivial⟩
theorem L0G(b:j7)(y:wf k8 b){i:Nat}(h:NetOk b i):AE b (i:Int)=some (z6 b i):=by
 have w:=y.2.1;have df:=h.df;have hb:=y.2.2.1;have hi:=h.lt;have n1:=h.wf.n1;have n8:=h.wf.n8;have Q:=h.sn;have hs:=h.s78;have E:=h.wf.cap;unfold AE;have X:((i:Int)).toNat=i:=rfl;have W:U4 b.2.1 (i:Int)=some (x8 b.2.1 i):=Wo b.2.1 w df _;rw[gP ⟨oo,trivial⟩,lE,X,N0c _ (by grind),vS,gP ⟨rfl,trivial⟩,lE,DI b.2.1 w df.fac.ni14 df.fac.np8 df.pin,vS,gP ⟨rfl,trivial⟩,lE,W,vS,gP ⟨rfl,trivial⟩,lE];have m:=lF (n:=(x8 b.2.1 i).length) (by omega) (fun k (s:List Int)=>((k:Int),s)) (BX (w6 b i) (X1 b i)) (fun k v=>Low v (m3 b i).1.length (500*((m3 b i).1.length:Int)+500*(k:Int))) (J:=OW (m3 b i)) (F:=Zw b (p9 b.2.1) (x8 b.2.1 i) (m3 b i)) (fun g k v c a=>by
  have G:((k:Int)).toNat=k:=rfl;obtain⟨u,q,r,Y⟩:=h.capIn c;obtain⟨T,t⟩:=Ng c;have hv:=a.bd (by omega) (w6 b i k).toNat;have e:0<=(m3 b i).2.2.2.getD k 0:=u;have j:((m3 b i).2.2.2.getD k 0).toNat<v.length:=by rw[a.len]; exact q
  refine(if_pos (by grind)).trans ?_;rw[G,M0M b.1 b.2.1 df (QV t),vS];rw[gP ⟨oo,⟨e,by omega⟩,j,oo,c,⟨T,by omega⟩,t,rfl,⟨by grind[w6,X1],by grind[w6,X1]⟩,⟨e,by omega⟩,j,trivial⟩,lE];exact gP ⟨oo,trivial⟩) (fun k v c a=>by
  obtain⟨u,q,r,Y⟩:=h.capIn c;have:=a.add q r;refine⟨this.len,this.pos,Int.le_trans this.sum ?_⟩;omega) (fun g s _=>aE) (m3 b i).2.2.1 (by
  have:=h.low 0 (Nat.zero_le _);exact this)
 refine m.trans ?_;have f:=(h.low _ (Nat.le_refl _)).len;have d:=h.pull 0 (Nat.zero_le _);have z:z6 b i=fN (W9 (T5 b i) (m3 b i).1.length) ((m3 b i).1.length-1) (fN (BX (w6 b i) (X1 b i)) (x8 b.2.1 i).length (m3 b i).2.2.1):=rfl;rw[z];have o:=h.pull;generalize fN (BX (w6 b i) (X1 b i)) (x8 b.2.1 i).length (m3 b i).2.2.1=v0 at f d o ⊢;rw[OW,f,gP ⟨oo,trivial⟩];have H:(((m3 b i).1.length:Int)-1,v0)=(fun(k:Nat) (s:List Int)=>(((m3 b i).1.length:Int)-1-(k:Int),s)) 0 v0:=by simp
 rw[H];exact lF (n:=(m3 b i).1.length-1) (by omega) (fun(k:Nat) (s:List Int)=>(((m3 b i).1.length:Int)-1-(k:Int),s)) (W9 (T5 b i) (m3 b i).1.length) (fun k v=>JI v (m3 b i).1.length k 43000) (J:=fun s=>some s) (F:=IT (m3 b i)) (fun g k v c a=>by
  have V:=h.wf.par ((m3 b i).1.length-1-k) (by omega) (by omega);have l:0<=(m3 b i).1.getD ((m3 b i).1.length-1-k) 0/\((m3 b i).1.getD ((m3 b i).1.length-1-k) 0).toNat < (m3 b i).1.length-1-k:=V;have x:=a.len;have P:((m3 b i).1.length:Int)-1-(k:Int)=(((m3 b i).1.length-1-k:Nat):Int):=by omega
  have e7:((((m3 b i).1.length-1-k:Nat):Int)).toNat=(m3 b i).1.length-1-k:=rfl;have b1:=a.pos ((m3 b i).1.getD ((m3 b i).1.length-1-k) 0).toNat;have b2:=a.bd ((m3 b i).1.getD ((m3 b i).1.length-1-k) 0).toNat;have b3:=a.pos ((m3 b i).1.length-1-k);have b4:=a.bd ((m3 b i).1.length-1-k);have e8:((m3 b i).1.length:Int)-1-((k+1:Nat):Int)=(((m3 b i).1.length-1-k:Nat):Int)-1:=by omega
  show IT (m3 b i) g (((m3 b i).1.length:Int)-1-(k:Int),v)=g (((m3 b i).1.length:Int)-1-((k+1:Nat):Int),W9 (T5 b i) (m3 b i).1.length k v);rw[e8,P];refine(if_pos (decide_eq_true (by omega))).trans ?_;rw[e7,gP ⟨oo,⟨l.1,by omega⟩,by omega,oo,by omega,oo,⟨l.1,by omega⟩,by omega,trivial⟩,lE];exact gP ⟨oo,trivial⟩) (fun k v c a=>VU a c (h.wf.par _ (by omega) (by omega))) (fun g s _=>by
  have e9:((m3 b i).1.length:Int)-1-(((m3 b i).1.length-1:Nat):Int)=0:=by omega
  show IT (m3 b i) g (((m3 b i).1.length:Int)-1-(((m3 b i).1.length-1:Nat):Int),s)=some s;rw[e9];have:IT (m3 b i) g (0,s)=TO s:=by
   rw[IT];exact if_neg (by decide)
  exact this.trans rfl) v0 d
theorem L0F(b:j7)(l:wf k8 b){i:Nat}(h:NetOk b i):Cy b (i:Int)=some (A7 b i):=by
 have hi:=h.lt;have z:=l.2.2.1;have n1:=h.wf.n1;have n8:=h.wf.n8;have E:=h.wf.res;obtain⟨y,f⟩:=h.loads;have r:((i:Int)).toNat=i:=rfl;unfold Cy;rw[L0G b l h,vS,gP ⟨oo,trivial⟩,lE,gP ⟨rfl,trivial⟩,lE,r];have u:((1:Int),[(0:Int)])=(fun(k:Nat) (s:List Int)=>(((k+1:Nat):Int),s)) 0 [0]:=rfl;rw[u];refine(lF (n:=(m3 b i).1.length-1) (by omega) (fun(k:Nat) (s:List Int)=>(((k+1:Nat):Int),s)) (S7 (T5 b i) (Cb b i) (fun k=>(z6 b i).getD k 0)) (fun k s=>s.length=k+1/\∀j,0<=s.getD j 0/\s.getD j 0<=1000*43000*(k:Int)) (J:=fun s=>some s) (F:=TP (m3 b i) (z6 b i)) (fun g k s q d=>?_) (fun k s q d=>?_) (fun g s d=>?_) [0] ?_)
 ·obtain⟨w,e⟩:=d;have o:=h.wf.par (k+1) (by omega) (by omega);have t:(((k+1:Nat):Int)).toNat=k+1:=rfl;have a:=h.wf.resIn (k+1) (by omega);have c:=f (k+1);have x:=MV a.1 a.2 c.1 c.2;have m:=e ((m3 b i).1.getD (k+1) 0).toNat;refine(if_pos (by grind)).trans ?_;rw[t,gP ⟨oo,⟨o.1,by omega⟩,by omega,oo,oo,by omega,oo,oo,⟨by grind,by grind⟩,trivial⟩,lE];exact gP ⟨oo,trivial⟩
 ·obtain⟨w,e⟩:=d;have a:=h.wf.resIn (k+1) (by omega);have c:=f (k+1);have x:=MV a.1 a.2 c.1 c.2
  grind[T5,S7,List.length_append,Cb,z6,Nat.lt_or_ge,JJ,VV,List.getD_cons_zero,List.getD_cons_succ,List.getD_nil]
 ·have v:(m3 b i).1.length-1+1=(z6 b i).length:=by omega
  show TP (m3 b i) (z6 b i) g ((((m3 b i).1.length-1+1:Nat):Int),s)=some s;rw[v];exact aE
 grind
def Ra(b:j7)(i:Nat)(m:Int):List Int:=fN (AM fun k=>u4 ((A7 b i).getD (w6 b i k).toNat 0) 1000 m) (x8 b.2.1 i).length []
theorem M0Y(b:j7)(e:wf k8 b){i:Nat}(h:NetOk b i)(m:Int):GU b (i:Int) m=some (Ra b i m):=by
 have hi:=h.lt;have w:=e.2.2.1;have a:=h.sn;have v:=h.s78;obtain⟨t,o⟩:=h.delays;have q:((i:Int)).toNat=i:=rfl;unfold GU;rw[L0F b e h,vS,gP ⟨rfl,trivial⟩,lE];unfold Ra;rw[<- a];refine lF (n:=(m3 b i).2.2.2.length) (by omega) (fun(k:Nat) (s:List Int)=>((k:Int),s)) (AM fun k=>u4 ((A7 b i).getD (w6 b i k).toNat 0) 1000 m) (fun k s=>s.length=k) (J:=fun s=>some s) (F:=ZF (A7 b i) b (i:Int) m) (fun g k s c d=>?_) (fun k s c d=>?_) (fun g s _=>?_) [] rfl
 ·have r:((k:Int)).toNat=k:=rfl;have j:0<=(b.2.2.getD i (b7 l7)).2.2.2.getD k 0/\((b.2.2.getD i (b7 l7)).2.2.2.getD k 0).toNat < (A7 b i).length:=by rw[t]; exact h.wf.snkIn k c
  have l:k < (b.2.2.getD i (b7 l7)).2.2.2.length:=c;have d:s.length=k:=d;have u:=o ((m3 b i).2.2.2.getD k 0).toNat;have f:=(V8 ((A7 b i).getD ((m3 b i).2.2.2.getD k 0).toNat 0) 1000 m (by omega) (by omega) (by decide)).2;refine(gP ⟨oo,trivial⟩).trans ?_;refine(if_pos (by grind)).trans ?_;rw[q,r,f,vS,gP ⟨oo,oo,⟨j.1,by omega⟩,by omega,rfl,⟨by grind,by grind⟩,trivial⟩,lE];exact gP ⟨oo,trivial⟩
 ·grind[AM,List.length_append]
 ·refine(gP ⟨oo,trivial⟩).trans ?_;exact aE
theorem u0H{b:j7}{i k:Nat}{m:Int}(a:k < (x8 b.2.1 i).length):(Ra b i m).getD k 0=u4 ((A7 b i).getD (w6 b i k).toNat 0) 1000 m:=MY _ 0 _ k a
theorem u0G(b:j7)(i:Nat)(m:Int):(Ra b i m).length=(x8 b.2.1 i).length:=FO _ _
end Go.Proofs.YtdjgagoledoaaaaGreatDoor
end
section
namespace Go.Proofs.Xd
open Go Go.Proofs Go.Proofs.Xl
def HO(n:Int)(s:Int×Int):Int×Int:=if decide ((s.1+s.2+1).tdiv 2*(s.1+s.2+1).tdiv 2<=n)=true then((s.1+s.2+1).tdiv 2,s.2) else(s.1,(s.1+s.2+1).tdiv 2-1)
theorem v0x{F:(Int×Int->Option Int)->Int×Int->Option Int}{J:Int->Option Int}{n H:Int}(y:0<=n)(l:n < (H+1)*(H+1))(d:0<=H)(m:H<=3000000000)
  (q:∀g (s:Int×Int),0<=s.1->s.1<=s.2->s.2<=H->F g s=if decide (s.1<s.2)=true then g (HO n s) else J s.1):∃r,Bu n r/\r<=H/\lp F (0,H)=J r:=by
 obtain⟨f,⟨u,i2,i3,i4,i5⟩,b,i⟩:=Wz (J:=fun s:Int×Int=>J s.1) (fun s=>(s.2-s.1).toNat) (fun s=>0<=s.1/\s.1<=s.2/\s.2<=H/\s.1*s.1<=n/\n < (s.2+1)*(s.2+1)) (fun s=>decide (s.1<s.2)) (HO n)
  (fun g s c=>q g s c.1 c.2.1 c.2.2.1) (fun s c b=>by
    obtain⟨h,w,v,j,k⟩:=c;have b:=of_decide_eq_true b;obtain⟨o,x,t⟩:=WB h b;unfold HO;rw[o];split
    ·rename_i a;have a:=of_decide_eq_true a;exact⟨⟨by show 0<=(s.1+s.2+1) / 2; omega,t,v,a,k⟩,by show(s.2-(s.1+s.2+1) / 2).toNat < (s.2-s.1).toNat; omega⟩
    ·rename_i a;have a:n < (s.1+s.2+1) / 2*((s.1+s.2+1) / 2):=by
      rw[dq] at a;omega
     refine⟨⟨h,by show s.1<=(s.1+s.2+1) / 2-1; omega,by show(s.1+s.2+1) / 2-1<=H; omega,j,?_⟩,by show((s.1+s.2+1) / 2-1-s.1).toNat < (s.2-s.1).toNat; omega⟩;show n < ((s.1+s.2+1) / 2-1+1)*((s.1+s.2+1) / 2-1+1);rw[Int.sub_add_cancel];exact a) (0,H) ⟨Int.le_refl _,d,Int.le_refl _,by show(0:Int)*0<=n; omega,l⟩ (by show(H-0).toNat<=_; omega)
 have b:=of_decide_eq_false b;have e:f.1=f.2:=by omega
 exact⟨f.1,⟨u,i4,by rw[e]; exact i5⟩,by omega,i⟩
theorem u0P{n R Z:Int}(h:Bu n R)(k:Bu (4*n) Z):(Z=2*R∨Z=2*R+1)/\(R*R=n->Z=2*R/\Z*Z=4*n)/\(R*R<n->(Z=2*R/\Z*Z<4*n)∨(Z=2*R+1/\Z*Z<4*n)):=by
 obtain⟨c,i,d⟩:=h;obtain⟨l,m,j⟩:=k;have a:(2*R)*(2*R)=4*(R*R):=by rw[Int.mul_assoc,<- Int.mul_assoc R 2 R,Int.mul_comm R 2,Int.mul_assoc 2 R R]; omega
 have f:(2*R+2)*(2*R+2)=4*((R+1)*(R+1)):=by
  rw[show 2*R+2=2*(R+1) by omega,Int.mul_assoc,<- Int.mul_assoc (R+1) 2 (R+1),Int.mul_comm (R+1) 2,Int.mul_assoc 2 (R+1) (R+1)]; omega
 have g:(2*R+1)*(2*R+1)=4*(R*R)+4*R+1:=by
  rw[Int.add_mul,Int.mul_add,a]; omega
 have o:2*R<Z+1:=q0z (by omega) (by omega);have e:Z<2*R+2:=q0z (by omega) (by omega);have hz:Z=2*R∨Z=2*R+1:=by omega
 refine⟨hz,fun b=>?_,fun b=>?_⟩
 ·rcases hz with rfl | rfl
  ·exact⟨rfl,by omega⟩
  ·omega
 ·rcases hz with rfl | rfl
  ·exact .inl ⟨rfl,by omega⟩
  ·exact .inr ⟨rfl,by omega⟩
theorem DL{a b:Int}(c:0<=a)(d:0<b):u4 a b 0=a / b:=by
 unfold u4;rw[Int.tdiv_eq_ediv_of_nonneg c,Int.tmod_eq_emod_of_nonneg c,if_neg,if_neg]
 ·simp
 ·have:=Int.emod_nonneg a (Int.ne_of_gt d);simp;omega
theorem Bv{a b:Int}(c:0<=a)(_:0<b):u4 a b 1=if 0<a % b then a / b+1 else a / b:=by
 unfold u4;rw[Int.tdiv_eq_ediv_of_nonneg c,Int.tmod_eq_emod_of_nonneg c,if_neg (by simp)];by_cases h:0<a % b
 ·rw[if_pos h,if_pos (by simp[h])]
 ·rw[if_neg h,if_neg (by simp[h])]
def N7(n m R:Int):Int:=if(m==1&&decide (R*R<n))=true then R.tdiv 500+1 else u4 R 500 m
def DM(N m Z:Int):Int:=if(m==1&&decide (Z*Z<N))=true then Z+1 else Z
theorem w0Z{n R Z m:Int}(h:Bu n R)(k:Bu (4*n) Z)(g:m=0∨m=1):N7 n m R=u4 (DM (4*n) m Z) 1000 m:=by
 obtain⟨i,c,d⟩:=u0P h k;have a:=h.1;have f:=h.2.1;unfold N7 DM;rcases g with rfl | rfl
 ·rw[if_neg (by simp),if_neg (by simp),DL a (by decide),DL k.1 (by decide)];omega
 ·by_cases b:R*R<n
  ·rw[if_pos (by simp[b]),Int.tdiv_eq_ediv_of_nonneg a];rcases d b with ⟨e,hz⟩ | ⟨e,hz⟩
   ·rw[if_pos (by simp[hz]),Bv (by omega) (by decide),e];split <;> omega
   ·rw[if_pos (by simp[hz]),Bv (by omega) (by decide),e];split <;> omega
  ·obtain⟨e,hz⟩:=c (by omega);rw[if_neg (by simp[b]),if_neg (by simp[hz]),Bv a (by decide),Bv k.1 (by decide),e];split <;> split <;> omega
end Go.Proofs.Xd
end
section
namespace Go.Proofs.YtdjgagoledoaaaaGreatDoor
open Go Go.Proofs Go.Proofs.Sv Go.Proofs.Xv Go.Proofs.Xl Go.Proofs.Xd
theorem p0H{q r:Int}(h:0<=q)(a:r=0∨r=1):(2*q+r).tdiv 2=q/\((2*q+r).tmod 2=0∨(2*q+r).tmod 2=1):=by
 grind
structure Nl(b:j7)(l:w7)(a:D7)(n:Nat):Prop where
 kind:l.2.2.1=1
 pix:ix (l.2.1.tdiv 2) (p9 b.2.1).length
 plt:(l.2.1.tdiv 2).toNat < (p9 b.2.1).length
 iix:ix (u0 b.2.1 (l.2.1.tdiv 2).toNat).1 b.2.1.1.length
 cix:ix (m7 b.2.1 (u0 b.2.1 (l.2.1.tdiv 2).toNat).1.toNat).2.1 b.1.length
 aix:ix l.2.2.2 (b.1.getD (m7 b.2.1 (u0 b.2.1 (l.2.1.tdiv 2).toNat).1.toNat).2.1.toNat (b7 y64)).2.2.2.1.length
 arc:(b.1.getD (m7 b.2.1 (u0 b.2.1 (l.2.1.tdiv 2).toNat).1.toNat).2.1.toNat (b7 y64)).2.2.2.1.getD l.2.2.2.toNat (b7 y67)=a
 net:(u0 b.2.1 (l.2.1.tdiv 2).toNat).2.2.1=(n:Int)
 nlt:n<b.2.2.length
 trs:l.2.1.tmod 2=0∨l.2.1.tmod 2=1
 del:D9 a.2.2.2.2.1 true=true
 slw:D9 a.2.2.2.2.2 true=true
structure I0Q(b:j7)(l:w7)(n k:Nat):Prop where
 kind:l.2.2.1=2
 pix:ix (l.2.1.tdiv 2) (p9 b.2.1).length
 plt:(l.2.1.tdiv 2).toNat < (p9 b.2.1).length
 net:(u0 b.2.1 (l.2.1.tdiv 2).toNat).2.2.1=(n:Int)
 nlt:n<b.2.2.length
 idx:l.2.2.2=(k:Int)
 klt:k < (x8 b.2.1 n).length
theorem x0G{k s:Int}{t:Nat}(h:t < (I7 k s).length):(((I7 k s).getD t (0,0)).2=0∨((I7 k s).getD t (0,0)).2=1):=by
 grind[QO,H5]
theorem HP{b:j7}(F:p8 b=true){l:w7}(h:l∈lV b):(∃a n,Nl b l a n)∨∃n k,I0Q b l n k:=by
 obtain⟨H,z,_⟩:=V5 F;have x:=T4 H;rcases Wy h with ⟨i,j,t,hi,E,v,rfl⟩ | ⟨i,k,t,hi,hk,v,rfl⟩
 ·obtain⟨Q,y,x3⟩:=FQ x hi;obtain⟨Y,c2,V,P⟩:=FR y;obtain⟨a1,a2,X,a4⟩:=P j E;obtain⟨B,T⟩:∃B:Nat,(m8 (x6 b i) j).2.2.1=(B:Int):=⟨(m8 (x6 b i) j).2.2.1.toNat,by omega⟩;have g:B < (m7 b.2.1 i).2.2.length:=by omega
  have lB:y9 (m7 b.2.1) i+B < (p9 b.2.1).length:=by
   have:=Ni (m7 b.2.1) hi g;unfold p9;rw[JQ]; omega
  have f:=QX b.2.1.1.length b.2.1.2.2.length (m7 b.2.1) (A6 b.2.1) (b7 y151) hi g;have f:u0 b.2.1 (y9 (m7 b.2.1) i+B)=((i:Int),(B:Int),(m7 b.2.1 i).2.2.getD B 0,(B:Int)==((m7 b.2.1 i).2.2.length:Int)-1):=f;have hn:=z8.1 (x.fac.net.1 i hi B g);obtain⟨n,w⟩:∃n:Nat,(m7 b.2.1 i).2.2.getD B 0=(n:Int):=⟨((m7 b.2.1 i).2.2.getD B 0).toNat,by omega⟩;have u:(m8 (x6 b i) j).1<=3:=by have:=r0P (Nat.lt_of_le_of_lt (Nat.zero_le _) v); omega
  obtain⟨_,G,k3⟩:=r0l (n0K y E) u;have e:=p0H (q:=((y9 (m7 b.2.1) i+B:Nat):Int)) (Int.natCast_nonneg _) (x0G v);have o:(HM (y9 (m7 b.2.1) i:Int) (m8 (x6 b i) j) j t).2.1=2*((y9 (m7 b.2.1) i+B:Nat):Int)+((I7 (m8 (x6 b i) j).1 (m8 (x6 b i) j).2.2.2.1).getD t (0,0)).2:=by
   show 2*((y9 (m7 b.2.1) i:Int)+(m8 (x6 b i) j).2.2.1)+_=_;rw[T,Int.natCast_add]
  refine .inl ⟨m8 (x6 b i) j,n,?_⟩;have c:((HM (y9 (m7 b.2.1) i:Int) (m8 (x6 b i) j) j t).2.1.tdiv 2)=((y9 (m7 b.2.1) i+B:Nat):Int):=by rw[o]; exact e.1
  have m:((y9 (m7 b.2.1) i+B:Nat):Int).toNat=y9 (m7 b.2.1) i+B:=rfl;refine⟨rfl,?_,?_,?_,?_,?_,?_,?_,by omega,by rw[o]; omega,G,k3⟩
  ·rw[c]; exact oo
  ·omega
  ·rw[c,m,f]; exact⟨Int.natCast_nonneg _,by omega⟩
  ·rw[c,m,f]; exact Q
  ·rw[c,m,f]; exact⟨Int.natCast_nonneg _,by show(j:Int) < ((x6 b i).2.2.2.1.length:Int); omega⟩
  ·rw[c,m,f]; rfl
  ·rw[c,m,f]; exact w
 ·obtain⟨q,s,h2,W,_⟩:=MW (u0 b.2.1) i (p9 b.2.1).length _ (H5 (d:=0) hk);have s:(x8 b.2.1 i).getD k 0=(q:Int):=s;have o:(DK (I8 b i) ((x8 b.2.1 i).getD k 0) k t).2.1=2*(q:Int)+(t:Int):=by
   show 2*(x8 b.2.1 i).getD k 0+_=_;rw[s]
  have e:=p0H (q:=(q:Int)) (r:=(t:Int)) (Int.natCast_nonneg _) (by omega);have c:((DK (I8 b i) ((x8 b.2.1 i).getD k 0) k t).2.1.tdiv 2)=(q:Int):=by rw[o]; exact e.1
  have m:((q:Int)).toNat=q:=rfl;refine .inr ⟨i,k,rfl,?_,?_,?_,hi,rfl,hk⟩
  ·rw[c]; exact oo
  ·omega
  grind
theorem CN{l:List DC}{p:Bool}(h:D9 l p=true){x:Int}(b:x=0∨x=1):ix x l.length/\C8 (l.getD x.toNat (b7 y70))=true:=by
 unfold D9 at h;rw[ba,dq] at h;have a:x.toNat<l.length:=by omega
 refine⟨oo,?_⟩
 grind
section
variable {b:j7}
theorem HQ{l:w7}{a:D7}{n:Nat}(h:Nl b l a n):BS (m9 b) l=some a:=by
 unfold BS;refine(gP ⟨by decide,h.pix,h.iix,trivial⟩).trans ?_;rw[lE];refine(gP ⟨h.cix,h.aix,trivial⟩).trans ?_;rw[lE];exact congrArg some h.arc
theorem Z2{l:w7}{n:Nat}(a:ix (l.2.1.tdiv 2) (p9 b.2.1).length)(c:(u0 b.2.1 (l.2.1.tdiv 2).toNat).2.2.1=(n:Int)):CE (m9 b) l=some (n:Int):=by
 unfold CE;refine(gP ⟨by decide,a,trivial⟩).trans ?_;rw[lE];exact congrArg some c
theorem L0I(f:wf k8 b)(e:p8 b=true){l:w7}{a:D7}{n:Nat}(h:Nl b l a n):GR b l=some (a,(z6 b n).getD 0 0):=by
 have c:=T4 (V5 e).1;have d:=Br e h.nlt;have n1:=d.wf.n1;have g:=d.loads.1;unfold GR;rw[DI b.2.1 f.2.1 c.fac.ni14 c.fac.np8 c.pin,vS,gP ⟨rfl,by decide,h.pix,h.plt,trivial⟩,lE];show gd (ix (u0 b.2.1 (l.2.1.tdiv 2).toNat).1 b.2.1.1.length/\ix (m7 b.2.1 (u0 b.2.1 (l.2.1.tdiv 2).toNat).1.toNat).2.1 b.1.length/\ix l.2.2.2 (b.1.getD (m7 b.2.1 (u0 b.2.1 (l.2.1.tdiv 2).toNat).1.toNat).2.1.toNat (b7 y64)).2.2.2.1.length/\(AE b (u0 b.2.1 (l.2.1.tdiv 2).toNat).2.2.1).isSome=true/\ix (0:Int) (vl (AE b (u0 b.2.1 (l.2.1.tdiv 2).toNat).2.2.1)).length/\Int.toNat (0:Int) < (vl (AE b (u0 b.2.1 (l.2.1.tdiv 2).toNat).2.2.1)).length/\True) (lt (vl (AE b (u0 b.2.1 (l.2.1.tdiv 2).toNat).2.2.1),(b.1.getD (m7 b.2.1 (u0 b.2.1 (l.2.1.tdiv 2).toNat).1.toNat).2.1.toNat (b7 y64)).2.2.2.1.getD l.2.2.2.toNat (b7 y67)) fun x=>match x with | (v2,v3)=>some (v3,v2.getD (Int.toNat (0:Int)) (0:Int)))=_;rw[h.net,L0G b f d,vS,gP ⟨h.iix,h.cix,h.aix,rfl,⟨by decide,by omega⟩,by omega,trivial⟩,lE,h.arc];rfl
theorem L0H(c:wf k8 b)(d:p8 b=true){l:w7}{n k:Nat}(h:I0Q b l n k):BL b l=some (n:Int):=by
 have a:=T4 (V5 d).1;unfold BL;rw[DI b.2.1 c.2.1 a.fac.ni14 a.fac.np8 a.pin,vS,gP ⟨rfl,by decide,h.pix,h.plt,trivial⟩,lE];exact congrArg some h.net
end
theorem WC{n:Int}(e:0<=n)(i:n<=1000000000000000000):∃r,Bu n r/\r<=3000000000/\Mf n=some r:=by
 unfold Mf;refine v0x (J:=fun r=>some r) (n:=n) (H:=3000000000) e (by omega) (by decide) (by decide) (fun g s b c d=>?_);obtain⟨lo,hi⟩:=s;have b:0<=lo:=b;have c:lo<=hi:=c;have d:hi<=3000000000:=d;show UK n g (lo,hi)=if decide (lo<hi)=true then g (HO n (lo,hi)) else some lo
 rw[UK];by_cases a:lo<hi
 ·obtain⟨f,h,j⟩:=WB b a;have k:=J6 (A:=3000000000) (B:=3000000000) (x:=(lo+hi+1).tdiv 2) (y:=(lo+hi+1).tdiv 2) (by omega) (by omega) (by omega) (by omega) (by decide);rw[if_pos (decide_eq_true a),if_pos (decide_eq_true a),gP ⟨oo,oo,by decide,trivial⟩,gP ⟨oo,trivial⟩];unfold HO;show(if _ then _ else _)=g (if decide ((lo+hi+1).tdiv 2*(lo+hi+1).tdiv 2<=n)=true then((lo+hi+1).tdiv 2,hi) else(lo,(lo+hi+1).tdiv 2-1));split
  ·rfl
  ·exact gP ⟨oo,trivial⟩
 ·rw[if_neg (by grind),if_neg (by grind)];rfl
theorem M0O{n m:Int}(i:0<=n)(q:n<=2000000000000000000)(_:m=0∨m=1):∃r,Bu n r/\r<=2000000000/\Cw n m=some (DM n m r):=by
 unfold Cw;obtain⟨r,e,a,h⟩:=v0x (J:=fun r=>KY m n r) (F:=OT n m) (n:=n) (H:=2000000000) i (by omega) (by decide) (by decide) (fun g s c d f=>by
  obtain⟨lo,hi⟩:=s;have c:0<=lo:=c;have d:lo<=hi:=d;have f:hi<=2000000000:=f;show OT n m g (lo,hi)=if decide (lo<hi)=true then g (HO n (lo,hi)) else KY m n lo
  rw[OT];by_cases b:lo<hi
  ·obtain⟨l,o,t⟩:=WB c b;have u:=J6 (A:=3000000000) (B:=3000000000) (x:=(lo+hi+1).tdiv 2) (y:=(lo+hi+1).tdiv 2) (by omega) (by omega) (by omega) (by omega) (by decide);rw[if_pos (decide_eq_true b),if_pos (decide_eq_true b),gP ⟨oo,oo,by decide,trivial⟩,gP ⟨oo,trivial⟩];unfold HO;show(if _ then _ else _)=g (if decide ((lo+hi+1).tdiv 2*(lo+hi+1).tdiv 2<=n)=true then((lo+hi+1).tdiv 2,hi) else(lo,(lo+hi+1).tdiv 2-1));split
   ·rfl
   ·exact gP ⟨oo,trivial⟩
  grind)
 refine⟨r,e,a,h.trans ?_⟩;have j:=e.1;have k:=J6 (A:=2000000000) (B:=2000000000) (x:=r) (y:=r) (by omega) (by omega) (by omega) (by omega) (by decide);rw[KY,gP ⟨(fun _=>oo),trivial⟩];unfold DM;split
 ·rw[gP ⟨oo,trivial⟩]; rfl
 ·rfl
theorem Rb(s d:Int):500*s*500*s=250000*(s*s)/\1000000*s*s=1000000*(s*s)/\4*d*d=4*(d*d):=by
 grind
theorem K0r{s d m:Int}(i:0<=s)(X:s<=1000000)(j:0<=d)(W:d<=301000000)(f:m=0∨m=1):∃r z,W7 s d m=some r/\Cw (1000000*s*s+4*d*d) m=some z/\W4 z 1000 m=some r/\0<=r/\r<=3000000001:=by
 obtain⟨G,Q,T⟩:=Rb s d;have Y:=J6 (A:=1000000) (B:=1000000) (x:=s) (y:=s) (by omega) (by omega) (by omega) (by omega) (by decide);have V:=J6 (A:=301000000) (B:=301000000) (x:=d) (y:=d) (by omega) (by omega) (by omega) (by omega) (by decide);have l:0<=s*s:=Int.mul_nonneg i i;have w:0<=d*d:=Int.mul_nonneg j j;obtain⟨R,g,k,t⟩:=WC (n:=250000*(s*s)+d*d) (by omega) (by omega);obtain⟨Z,h,E,P⟩:=M0O (n:=4*(250000*(s*s)+d*d)) (m:=m) (by omega) (by omega) f;have c:=g.1;have v:=h.1;have q:=w0Z g h f;have o:1000000*s*s+4*d*d=4*(250000*(s*s)+d*d):=by omega
 have H:0<=DM (4*(250000*(s*s)+d*d)) m Z/\DM (4*(250000*(s*s)+d*d)) m Z<=3000000000:=by
  unfold DM;split <;> omega
 have u:=FU (a:=DM (4*(250000*(s*s)+d*d)) m Z) (b:=1000) (K:=3000000) m (by decide) (by omega) (by omega);have F:=J6 (A:=3000000000) (B:=3000000000) (x:=R) (y:=R) (by omega) (by omega) (by omega) (by omega) (by decide);have e:0<=N7 (250000*(s*s)+d*d) m R:=by
  unfold N7;rcases f with rfl | rfl
  ·rw[if_neg (by simp),DL c (by decide)]; omega
  ·split
   ·rw[Int.tdiv_eq_ediv_of_nonneg c]; omega
   ·rw[Bv c (by decide)]; split <;> omega
 refine⟨N7 (250000*(s*s)+d*d) m R,DM (4*(250000*(s*s)+d*d)) m Z,?_,by rw[o]; exact P,?_,e,by omega⟩
 ·unfold W7;rw[G,t,vS,gP ⟨oo,oo,oo,oo,oo,trivial⟩,gP ⟨rfl,trivial⟩,lE,gP ⟨(fun _=>oo),trivial⟩];unfold N7;split
  ·have:R.tdiv 500=R / 500:=Int.tdiv_eq_ediv_of_nonneg c;exact gP ⟨by decide,oo,trivial⟩
  ·rw[(V8 R 500 m (by omega) (by omega) (by decide)).1,vS,gP ⟨rfl,trivial⟩,lE]
 ·rw[q];exact(V8 _ 1000 m (by omega) (by omega) (by decide)).2
end Go.Proofs.YtdjgagoledoaaaaGreatDoor
end
section
namespace Go.Proofs.YtdjgagoledoaaaaGreatDoor
open Go Go.Proofs Go.Proofs.Xv Go.Proofs.Xl Go.Proofs.Xd
theorem M0L(a b:Int):Mg a b=some (decide (a<b)):=by
 unfold Mg;have e:∀a,Hh a=some (a != a):=fun _=>rfl;rw[e,e,gP ⟨rfl,fun _=>rfl,trivial⟩,vS,vS];simp
theorem Nn{xs:List Int}{x:Int}(w:xs.length<=4611686018427387903){p:Nat}(s:p<xs.length)(u:∀i,i<p->xs.getD i 0<x)(r:∀i,p<=i->i<xs.length->x<=xs.getD i 0):Mi xs x=some ((p:Int),xs.getD p 0==x):=by
 have g:∀(m i j:Nat),i<=p->p<=j->j<=xs.length->j-i<m->I9 (Mh xs x) m ((i:Int),(j:Int))=some ((p:Int),xs.getD p 0==x):=by
  intro m
  induction m with
  | zero=>intro i j _ _ _ h; omega
  | succ m q =>
    intro i j hi t k y;show Mh xs x (I9 (Mh xs x) m) ((i:Int),(j:Int))=_;rw[Mh];by_cases c:i<j
    ·have f:(i+j) / 2<xs.length:=by omega
     have l:((((i+j) / 2:Nat)):Int).toNat=(i+j) / 2:=rfl;rw[if_pos (by simpa using c),D0I,gP ⟨oo,oo,⟨⟨by decide,by decide⟩,by omega,by omega⟩,oo,trivial⟩,l,M0L,gP ⟨oo,rfl,trivial⟩,vS];by_cases o:xs.getD ((i+j) / 2) 0<x
     ·rw[if_pos (by simpa using o),gP ⟨oo,trivial⟩];have d:(i+j) / 2<p:=by
       apply Nat.lt_of_not_le;intro b;have:=r _ b f; omega
      have:=q ((i+j) / 2+1) j (by omega) t k (by omega);simpa using this
     ·rw[if_neg (by simpa using o)];have d:p<=(i+j) / 2:=by
       apply Nat.le_of_not_lt;intro b;have:=u _ b; omega
      exact q i ((i+j) / 2) hi d (by omega) (by omega)
    ·have e:i=p:=by omega
     subst e;rw[if_neg (by simpa using c),UL];have l:((i:Int)).toNat=i:=rfl;have v:decide ((i:Int) < (xs.length:Int))=true:=by simpa using s
     have n:∀a,Hg a=some (a != a):=fun _=>rfl;rw[l,v,n,n,gP ⟨fun _=>oo,fun _=>oo,fun _=>rfl,fun _=>rfl,trivial⟩,vS,vS];simp
 unfold Mi;have:=g V7 0 xs.length (by omega) (by omega) (Nat.le_refl _) (by simp only[V7]; omega);exact this
def A3(xs:List Int)(x:Int):Int:=min (max x (xs.getD 0 0)) (xs.getD (xs.length-1) 0)
theorem M0W{xs:List Int}(x:Int)(h:F8 xs=true):∃(p:Nat) (a b:Int),p<xs.length/\Dr xs x=some ((p:Int),a,b) /\
  ((a=1/\b=0/\O9 xs x=some ([((p:Int),1)],1)) ∨
    (p+1<xs.length/\0<a/\0<b/\a+b<=100000/\O9 xs x=some ([((p:Int),a),((p:Int)+1,b)],a+b))):=by
 obtain⟨l1,l4⟩:=CI h;have o:((xs.length:Int)-1).toNat=xs.length-1:=by omega
 have V:xs.getD 0 0<=A3 xs x:=by
  have:xs.getD 0 0<=xs.getD (xs.length-1) 0:=by
   by_cases f:xs.length=1
   ·rw[f]; exact Int.le_refl _
   ·have:=CM h (by omega:0<xs.length-1) (by omega); omega
  unfold A3; omega
 have P:A3 xs x<=xs.getD (xs.length-1) 0:=by unfold A3; omega
 obtain⟨p,e,u,y⟩:=w0A h V P;have c:∀(q:Nat) (r:Option (Int×Int×Int)),(∀g,Dq xs (A3 xs x) g (q:Int)=r)->(∀i,q<i->i<xs.length->A3 xs x<xs.getD i 0)->q<xs.length->lp (Dq xs (A3 xs x)) ((xs.length:Int)-1)=r:=by
  intro q r E d l;have s:∀(m k:Nat),q+k<xs.length->k<m->I9 (Dq xs (A3 xs x)) m ((q+k:Nat):Int)=r:=by
   intro m
   induction m with
   | zero=>intro k _ h; omega
   | succ m Q =>
     intro k H hm;show Dq xs (A3 xs x) (I9 (Dq xs (A3 xs x)) m) ((q+k:Nat):Int)=r;by_cases z:k=0
     ·subst z; exact E _
     ·have hg:=d (q+k) (by omega) H;have j:(((q+k:Nat):Int)).toNat=q+k:=rfl;have v:¬(A3 xs x=xs.getD (q+k) 0):=by omega
      have X:¬(xs.getD (q+k) 0<A3 xs x):=by omega
      rw[Dq,if_pos (by simp; omega),gP ⟨oo,trivial⟩,j,if_neg (by simpa using v),gP ⟨oo,trivial⟩,if_neg (by simpa using X),gP ⟨oo,trivial⟩];have G:(((q+k:Nat):Int))-1=((q+(k-1):Nat):Int):=by omega
      rw[G];exact Q (k-1) (by omega) (by omega)
  have:=s V7 (xs.length-1-q) (by omega) (by simp only[V7]; omega);have T:((q+(xs.length-1-q):Nat):Int)=(xs.length:Int)-1:=by omega
  rw[T] at this;exact this
 have j:∀n:Nat,((n:Int)).toNat=n:=fun _=>rfl;by_cases t:xs.getD p 0=A3 xs x
 ·refine⟨p,1,0,e,?_,.inl ⟨rfl,rfl,?_⟩⟩
  ·unfold Dr;rw[gP ⟨oo,trivial⟩,gP ⟨oo,oo,trivial⟩,o];change lt (A3 xs x) _=_;rw[lE,gP ⟨oo,trivial⟩];refine c p _ (fun g=>?_) (fun i hi f=>?_) e
   ·rw[Dq,if_pos (by simp),gP ⟨oo,trivial⟩,j,if_pos (by simpa using t.symm)]
   ·have:=CM h hi f; omega
  ·unfold O9;rw[gP ⟨oo,oo,oo,trivial⟩,o];change lt (A3 xs x) _=_;rw[lE,Nn (by omega) e u y,gP ⟨rfl,trivial⟩,vS,lE,if_pos (by simpa using t)]
 ·have d:A3 xs x<xs.getD p 0:=by have:=y p (Nat.le_refl _) e; omega
  have F:0<p:=by
   apply Nat.pos_of_ne_zero;intro z; subst z; omega
  obtain⟨q,rfl⟩:∃q,p=q+1:=⟨p-1,by omega⟩;have l:=u q (by omega);have b1:=Nk h e;have Y:=Nk h (by omega:q<xs.length);refine⟨q,xs.getD (q+1) 0-A3 xs x,A3 xs x-xs.getD q 0,by omega,?_,.inr ⟨e,by omega,by omega,by omega,?_⟩⟩
  ·unfold Dr;rw[gP ⟨oo,trivial⟩,gP ⟨oo,oo,trivial⟩,o];change lt (A3 xs x) _=_;rw[lE,gP ⟨oo,trivial⟩];refine c q _ (fun g=>?_) (fun i hi f=>?_) (by omega)
   ·have w:((q:Int)+1).toNat=q+1:=by omega
    have v:¬(A3 xs x=xs.getD q 0):=by omega
    rw[Dq,if_pos (by simp),gP ⟨oo,trivial⟩,j,if_neg (by simpa using v),gP ⟨oo,trivial⟩,if_pos (by simpa using l),w,gP ⟨oo,oo,oo,oo,oo,trivial⟩]
   ·by_cases E:i=q+1
    ·subst E; exact d
    ·have:=CM h (by omega:q+1<i) f; omega
  ·have w:(((q+1:Nat):Int)-1).toNat=q:=by omega
   have W:((q+1:Nat):Int)-1=(q:Int):=by omega
   unfold O9;rw[gP ⟨oo,oo,oo,trivial⟩,o];change lt (A3 xs x) _=_;rw[lE,Nn (by omega) e u y,gP ⟨rfl,trivial⟩,vS,lE,if_neg (by simpa using t),w,j,gP ⟨oo,oo,oo,oo,oo,oo,oo,oo,oo,oo,trivial⟩,lE,W];congr 2;omega
end Go.Proofs.YtdjgagoledoaaaaGreatDoor
end

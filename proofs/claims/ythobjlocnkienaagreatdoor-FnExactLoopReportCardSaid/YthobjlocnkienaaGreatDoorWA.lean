/- Plain words on names: no program in sight. -/
import Derived.Test.YthobjlocnkienaaGreatDoorXA
import Derived.Lib.SlTrimSet
import Derived.Lib.Bytealg
import Derived.Test.YthobjlocnkienaaGreatDoorXF
section
namespace Go.Proofs.Sv
open Go
def lowB(c:Int):Bool:=decide (c≥97)&&decide (c<=122)
def digB(c:Int):Bool:=decide (c≥48)&&decide (c<=57)
def chB(c:Int)(i:Nat):Bool:=lowB c||(digB c&&decide (0<i))
def nmTo(s:ByteArray):Nat->Bool
 | 0=>true
 | k+1=>nmTo s k&&chB (byteAt s k) k
def nmB(s:ByteArray):Bool:=nmTo s s.size&&decide ((s.size:Int)≥1)&&decide ((s.size:Int)<=8)
theorem nmTo_mono(s:ByteArray)(k:Nat):∀j,k<=j->nmTo s j=true->nmTo s k=true:=by
 intro j hj h
 induction j with
 | zero=>have:k=0:=by omega
         subst this; rfl
 | succ j ih =>
   by_cases hk:k=j+1
   ·subst hk; exact h
   ·simp only[nmTo,ba] at h;exact ih (by omega) h.1
def low26:List UInt8:=[97,98,99,100,101,102,103,104,105,106,107,108,109,110,111,112,113,114,115,116,117,118,119,120,121,122]
def low36:List UInt8:=[97,98,99,100,101,102,103,104,105,106,107,108,109,110,111,112,113,114,115,116,117,118,119,120,121,122,48,49,50,51,52,53,54,55,56,57]
theorem low26_fin:∀n:Fin 256,low26.contains (UInt8.ofNat n.val)=lowB (n.val:Int):=by decide +kernel
theorem low36_fin:∀n:Fin 256,low36.contains (UInt8.ofNat n.val)=(lowB (n.val:Int)||digB (n.val:Int)):=by decide +kernel
theorem low26_mem(b:UInt8):low26.contains b=lowB (b.toNat:Int):=by
 have:=low26_fin ⟨b.toNat,b.toNat_lt⟩;simpa using this
theorem low36_mem(b:UInt8):low36.contains b=(lowB (b.toNat:Int)||digB (b.toNat:Int)):=by
 have:=low36_fin ⟨b.toNat,b.toNat_lt⟩;simpa using this
theorem indexByte_mem(c:UInt8):∀l:List UInt8,decide (0<=Lib.indexByte l c)=l.contains c
 | []=>by simp[Lib.indexByte]
 | b :: l=>by
   have ih:=indexByte_mem c l;have hg:=Lib.indexByte_ge l c;unfold Lib.indexByte;by_cases hb:b=c
   ·subst hb; simp
   ·have hb':¬c=b:=fun h=>hb h.symm;have e1:(b==c)=false:=by simpa using hb
    rw[e1,List.contains_cons,show(c==b)=false by simpa using hb',<- ih];by_cases h1:Lib.indexByte l c = -1
    ·simp[h1]
    ·have:(Lib.indexByte l c == -1)=false:=by simpa using h1
     rw[this];simp only[Bool.false_eq_true,if_false,Bool.false_or];rw[Bool.eq_iff_iff]; simp only[dq]; omega
theorem dropWhile_nil{α:Type}(p:α->Bool):∀l:List α,l.dropWhile p=[]↔∀x∈l,p x=true
 | []=>by simp
 | x :: r=>by
   rw[List.dropWhile_cons];by_cases h:p x=true
   ·simp[h,dropWhile_nil p r]
   ·simp[h]
theorem mem_takeWhile{α:Type}(p:α->Bool)(x:α):∀l:List α,x∈l.takeWhile p->p x=true
 | [],h=>by cases h
 | y :: r,h=>by
   rw[List.takeWhile_cons] at h;by_cases hy:p y=true
   ·rw[if_pos hy] at h;rcases List.mem_cons.1 h with rfl | h
    ·exact hy
    ·exact mem_takeWhile p x r h
   ·rw[if_neg hy] at h; cases h
theorem trimS_nil(l cs:List UInt8):Lib.trimS l cs=[]↔∀b∈l,cs.contains b=true:=by
 unfold Lib.trimS Lib.trimLeftS Lib.trimRightS;rw[dropWhile_nil];constructor
 ·intro h b hb;have e:l=(l.reverse.dropWhile (cs.contains ·)).reverse++(l.reverse.takeWhile (cs.contains ·)).reverse:=by
   rw[<- List.reverse_append,List.takeWhile_append_dropWhile,List.reverse_reverse]
  rw[e] at hb;rcases List.mem_append.1 hb with hb | hb
  ·exact h b hb
  ·have:=List.mem_reverse.1 hb;exact mem_takeWhile (cs.contains ·) b _ this
 ·intro h b hb;exact h b (by have:=(List.dropWhile_sublist _).mem (List.mem_reverse.1 hb); exact List.mem_reverse.1 this)
theorem nmTo_all(s:ByteArray)(h0:lowB (byteAt s 0)=true):∀k,k<=s.size->(nmTo s k=true↔∀i,i<k->(lowB (byteAt s i)||digB (byteAt s i))=true)
 | 0,_=>by simp[nmTo]
 | k+1,hk=>by
   have ih:=nmTo_all s h0 k (by omega);simp only[nmTo,ba,ih];constructor
   ·rintro⟨h1,h2⟩ i hi;by_cases hik:i=k
    ·subst hik;unfold chB at h2;cases hl:lowB (byteAt s i) with
     | true=>simp
     | false=>rw[hl] at h2; simp only[Bool.false_or,ba] at h2; simp[h2.1]
    ·exact h1 i (by omega)
   ·intro h;refine⟨fun i hi=>h i (by omega),?_⟩;have:=h k (by omega);unfold chB;by_cases hk0:k=0
    ·subst hk0; simp[h0]
    ·have hp:decide (0<k)=true:=by simp; omega
     rw[hp]; simpa using this
theorem trim_all(s:ByteArray):Lib.trimS s.data.toList low36=[]↔∀i,i<s.size->(lowB (byteAt s i)||digB (byteAt s i))=true:=by
 rw[trimS_nil];have hl:s.data.toList.length=s.size:=by simp
 constructor
 ·intro h i hi;have hi':i<s.data.toList.length:=by rw[hl]; exact hi
  have:=h s.data.toList[i] (List.getElem_mem hi');rw[low36_mem] at this;unfold byteAt;rw[gq,List.getElem?_eq_getElem hi'];exact this
 ·intro h b hb;obtain⟨i,hi,rfl⟩:=List.getElem_of_mem hb;have:=h i (by rw[<- hl]; exact hi);unfold byteAt at this;rw[gq,List.getElem?_eq_getElem hi] at this;rw[low36_mem]; exact this
theorem nmB_trim(s:ByteArray)(h1:1<=s.size)(h8:s.size<=8):nmB s=((Lib.trimS s.data.toList low36==[])&&decide (0<=Lib.indexByte low26 (byteAt s 0).toNat.toUInt8)):=by
 have e0:(byteAt s 0).toNat.toUInt8=s.data.toList.getD 0 0:=by unfold byteAt; simp
 rw[e0,indexByte_mem,low26_mem];show nmB s=(_&&lowB (byteAt s 0));have g1:decide ((s.size:Int)≥1)=true:=by simp; omega
 have g2:decide ((s.size:Int)<=8)=true:=by simp; omega
 unfold nmB;rw[g1,g2,Bool.and_true,Bool.and_true];cases h0:lowB (byteAt s 0) with
 | false =>
   rw[Bool.and_false];cases hn:nmTo s s.size with
   | false=>rfl
   | true =>
     have:=nmTo_mono s 1 s.size h1 hn;simp[nmTo,chB,h0] at this
 | true =>
   rw[Bool.and_true,Bool.eq_iff_iff,nmTo_all s h0 s.size (Nat.le_refl _),beq_iff_eq,trim_all]
end Go.Proofs.Sv
end
section
namespace Go.Proofs.Xd
open Go Go.Proofs.Xv Go.Proofs.Xl
abbrev DTbl:=List Int×List Int×List Int
abbrev DArc:=Int×Int×Int×Int×List DTbl×List DTbl
abbrev DPin:=ByteArray×Int×Int×Bool
abbrev DInst:=ByteArray×Int×List Int
abbrev DPort:=ByteArray×Int×Int
abbrev DWire:=List Int×List Int×List Int×List Int
def inB(x l h:Int):Bool:=decide (l<=x)&&decide (x<=h)
theorem inB_iff{x l h:Int}:inB x l h=true↔l<=x/\x<=h:=by simp[inB]
def incB(xs:List Int):Bool:=!(List.range xs.length).any fun i=>decide (0<i)&&decide (xs.getD i 0<=xs.getD (i-1) 0)
def isAxis(xs:List Int):Bool:=decide (1<=xs.length)&&decide (xs.length<=4)&&xs.all (inB · 0 100000)&&incB xs
def isTable(t:DTbl):Bool:=isAxis t.1&&isAxis t.2.1&&decide (t.2.2.length=t.1.length*t.2.1.length)&&t.2.2.all (inB · (-1000000) 1000000)
theorem axis_len{xs:List Int}(h:isAxis xs=true):1<=xs.length/\xs.length<=4:=by
 simp only[isAxis,ba,dq] at h;exact⟨h.1.1.1,h.1.1.2⟩
theorem table_len{t:DTbl}(h:isTable t=true):1<=t.1.length/\t.1.length<=4/\1<=t.2.1.length/\t.2.1.length<=4/\t.2.2.length=t.1.length*t.2.1.length/\1<=t.2.2.length/\t.2.2.length<=16:=by
 simp only[isTable,ba,dq] at h;obtain⟨⟨⟨h1,h2⟩,h3⟩,_⟩:=h;obtain⟨a1,a2⟩:=axis_len h1;obtain⟨b1,b2⟩:=axis_len h2;have c1:1*1<=t.1.length*t.2.1.length:=Nat.mul_le_mul a1 b1;have c2:t.1.length*t.2.1.length<=4*4:=Nat.mul_le_mul a2 b2;exact⟨a1,a2,b1,b2,h3,by omega,by omega⟩
def minN(xs:List Int):Int:=fN (fun i m=>min m (xs.getD (i+1) 0)) (xs.length-1) (xs.getD 0 0)
def areTables(l:List DTbl)(p:Bool):Bool:=decide (l.length=2)&&l.all fun t=>isTable t&&!(p&&decide (minN t.2.2<0))
theorem all_any{α:Type}(l:List α)(p:α->Bool):(!l.any fun x=>!p x)=l.all p:=by
 induction l with
 | nil=>rfl
 | cons a r ih=>simp only[List.any_cons,List.all_cons,Bool.not_or,Bool.not_not,ih]
end Go.Proofs.Xd
end
section
namespace Go.Proofs.Xd
open Go Go.Proofs.Sv Go.Proofs.Xv Go.Proofs.Xl
theorem nmTo_any(s:ByteArray):∀n,nmTo s n=!(List.range n).any fun i=>!chB (byteAt s i) i
 | 0=>rfl
 | n+1=>by
   rw[nmTo,nmTo_any s n,List.range_succ,List.any_append,Bool.not_or];simp
def dupB(f:Nat->ByteArray)(i:Nat):Bool:=(List.range i).any fun k=>decide (f k=f i)
def namesB(n:Nat)(f:Nat->ByteArray):Bool:=!(List.range n).any fun i=>!nmB (f i)||dupB f i
theorem namesB_congr{n:Nat}{f g:Nat->ByteArray}(h:∀i,i<n->f i=g i):namesB n f=namesB n g:=by
 unfold namesB;congr 1;refine any_congr' fun i hi=>?_;rw[h i hi];congr 1;unfold dupB;refine any_congr' fun k hk=>?_;rw[h i hi,h k (by omega)]
theorem take_any(l:List ByteArray)(d:ByteArray)(i:Nat)(h:i<l.length):((l.take i).any fun y=>decide (l.getD i d=y))=dupB (fun k=>l.getD k d) i:=by
 have hl:(l.take i).length=i:=by rw[List.length_take]; omega
 rw[<- any_getD (l.take i) d (fun y=>decide (l.getD i d=y)),hl];unfold dupB;refine any_congr' fun k hk=>?_;have:(l.take i).getD k d=l.getD k d:=by
  rw[gq,gq,List.getElem?_take_of_lt hk]
 rw[this,decide_eq_decide];exact eq_comm
theorem namesB_iff{n:Nat}{f:Nat->ByteArray}:namesB n f=true↔∀i,i<n->nmB (f i)=true/\dupB f i=false:=by
 unfold namesB;rw[Bool.not_eq_true',<- Bool.not_eq_true,List.any_eq_true];constructor
 ·intro h i hi;have:¬(!nmB (f i)||dupB f i)=true:=fun hc=>h ⟨i,List.mem_range.2 hi,hc⟩;simpa using this
 ·rintro h ⟨i,h1,h2⟩;obtain⟨h3,h4⟩:=h i (List.mem_range.1 h1);rw[h3,h4] at h2;cases h2
theorem getD_map'{α β:Type}(f:α->β)(l:List α)(i:Nat)(d:α)(e:β)(h:i<l.length):(l.map f).getD i e=f (l.getD i d):=by
 rw[gq,gq,List.getElem?_map,List.getElem?_eq_getElem h]; rfl
theorem range_map{α β:Type}(l:List α)(d:α)(f:α->β):(List.range l.length).map (fun i=>f (l.getD i d))=l.map f:=by
 apply List.ext_getElem?;intro i;rw[List.getElem?_map,List.getElem?_map];by_cases h:i<l.length
 ·rw[List.getElem?_range h,List.getElem?_eq_getElem h];show some (f (l.getD i d))=some (f l[i]);rw[gq,List.getElem?_eq_getElem h]; rfl
 ·rw[List.getElem?_eq_none (by simpa using h),List.getElem?_eq_none (by omega)]; rfl
def pinB(n:Nat)(q:DPin)(i:Nat):Bool:=inB q.2.2.1 0 500&&(if i+1=n then q.2.1==2&&q.2.2.1==0&&!q.2.2.2 else q.2.1==1)
def pinsOk(n:Nat)(p:Nat->DPin):Bool:=decide (2<=n)&&decide (n<=5)&&namesB n (fun i=>(p i).1)&&!(List.range n).any fun i=>!pinB n (p i) i
def clkN(n:Nat)(p:Nat->DPin):Int:=fN (fun i s=>if(p i).2.2.2=true then s+1 else s) n 0
def clkI(n:Nat)(p:Nat->DPin):Int:=match(List.range n).find? (fun i=>(p i).2.2.2) with | some i=>(i:Int) | none => -1
def dupA(a:Nat->DArc)(i:Nat):Bool:=(List.range i).any fun k=>(a k).1==(a i).1&&(a k).2.1==(a i).2.1&&(a k).2.2.1==(a i).2.2.1
def isArcS(n:Nat)(p:Nat->DPin)(a:DArc):Bool :=
 inB a.2.1 0 ((n:Int)-1-1)&&inB a.2.2.1 0 ((n:Int)-1) &&
 if a.1=1 then !(p a.2.1.toNat).2.2.2&&a.2.2.1==(n:Int)-1&&inB a.2.2.2.1 1 3&&areTables a.2.2.2.2.1 true&&areTables a.2.2.2.2.2 true
 else if a.1=2∨a.1=3 then(p a.2.1.toNat).2.2.2&&a.2.2.1==(n:Int)-1&&a.2.2.2.1==0&&areTables a.2.2.2.2.1 true&&areTables a.2.2.2.2.2 true
 else if a.1=4∨a.1=5 then(p a.2.1.toNat).2.2.2&&decide (a.2.2.1 < (n:Int)-1)&&!(p a.2.2.1.toNat).2.2.2&&a.2.2.2.1==0&&areTables a.2.2.2.2.1 false&&(a.2.2.2.2.2.length:Int)==0
 else false
def isArcI(n:Nat)(p:Nat->DPin)(a:DArc):Bool :=
 if a.1=4∨a.1=5 then a.2.2.2.1==0&&(a.2.2.2.2.2.length:Int)==0&&areTables a.2.2.2.2.1 false&&a.2.1==clkI n p&&decide (0<=a.2.1)&&inB a.2.2.1 0 ((n:Int)-1-1)&&a.2.2.1 != a.2.1
 else areTables a.2.2.2.2.1 true&&areTables a.2.2.2.2.2 true&&a.2.2.1==(n:Int)-1&&inB a.2.1 0 ((n:Int)-1-1) &&
  if a.1=1 then !(p a.2.1.toNat).2.2.2&&inB a.2.2.2.1 1 3
  else if a.1=2∨a.1=3 then(p a.2.1.toNat).2.2.2&&a.2.2.2.1==0
  else false
theorem clkN_le(p:Nat->DPin):∀n,0<=clkN n p/\clkN n p<=n
 | 0=>⟨Int.le_refl _,Int.le_refl _⟩
 | n+1=>by
   have:=clkN_le p n;unfold clkN at *
   rw[fN];split <;> omega
theorem clkN_one{p:Nat->DPin}:∀{n i:Nat},i<n->(p i).2.2.2=true->1<=clkN n p
 | n+1,i,hi,h=>by
   have h0:=(clkN_le p n).1;have ih:i<n->1<=clkN n p:=fun h'=>clkN_one h' h;unfold clkN at *
   rw[fN];rcases Nat.lt_succ_iff_lt_or_eq.1 hi with h' | rfl
   ·have:=ih h';split <;> omega
   ·rw[if_pos h]; omega
theorem clkN_two{p:Nat->DPin}:∀{n i j:Nat},i<j->j<n->(p i).2.2.2=true->(p j).2.2.2=true->2<=clkN n p
 | n+1,i,j,hij,hj,h,k=>by
   have ih:j<n->2<=clkN n p:=fun h'=>clkN_two hij h' h k;have h1:i<n->1<=clkN n p:=fun h'=>clkN_one h' h;unfold clkN at *
   rw[fN];rcases Nat.lt_succ_iff_lt_or_eq.1 hj with h' | rfl
   ·have:=ih h';split <;> omega
   ·have:=h1 hij;rw[if_pos k]; omega
theorem clkI_eq{p:Nat->DPin}{n i:Nat}(hn:clkN n p<=1)(hi:i<n):(p i).2.2.2=decide (clkI n p=(i:Int)):=by
 unfold clkI;cases h:(List.range n).find? (fun i=>(p i).2.2.2) with
 | none =>
   rw[List.find?_eq_none] at h;have:=h i (List.mem_range.2 hi);rw[Bool.not_eq_true] at this;rw[this];exact(decide_eq_false (by show ¬(-1:Int)=i; omega)).symm
 | some j =>
   have h1:=List.find?_some h;have h2:=List.mem_range.1 (List.mem_of_find?_eq_some h);show _=decide ((j:Int)=(i:Int));by_cases e:j=i
   ·subst e;rw[decide_eq_true rfl]; exact h1
   ·rw[decide_eq_false (by omega),<- Bool.not_eq_true];intro hc;rcases Nat.lt_or_gt_of_ne e with h' | h'
    ·have:=clkN_two (p:=p) h' hi h1 hc; omega
    ·have:=clkN_two (p:=p) h' h2 hc h1; omega
theorem clkI_lt{p:Nat->DPin}{n:Nat}:clkI n p<n:=by
 unfold clkI;cases h:(List.range n).find? (fun i=>(p i).2.2.2) with
 | none=>show(-1:Int)<n; omega
 | some j =>
   have h2:=List.mem_range.1 (List.mem_of_find?_eq_some h);show(j:Int)<n; omega
theorem pins_last{p:Nat->DPin}{n:Nat}(h:pinsOk n p=true):2<=n/\n<=5/\(p (n-1)).2.2.2=false:=by
 unfold pinsOk at h;simp only[ba,dq] at h;obtain⟨⟨⟨h1,h2⟩,_⟩,h3⟩:=h;have:=not_any.1 h3 (n-1) (by omega);rw[Bool.not_eq_false'] at this;unfold pinB at this;rw[if_pos (by omega)] at this;simp only[ba,Bool.not_eq_true'] at this;exact⟨h1,h2,this.2.2⟩
theorem arc_eq{p:Nat->DPin}{n:Nat}(h:pinsOk n p=true)(hc:clkN n p<=1)(a:DArc):isArcI n p a=isArcS n p a:=by
 obtain⟨h2,h5,hl⟩:=pins_last h;obtain⟨kd,fr,to,se,de,sl⟩:=a;rw[Bool.eq_iff_iff];unfold isArcI isArcS;dsimp only;have hcl:∀x:Int,0<=x->x<=(n:Int)-1->(p x.toNat).2.2.2=decide (clkI n p=x):=fun x h0 h1=>by
  rw[clkI_eq hc (by omega)];rw[decide_eq_decide]; omega
 have hlast:clkI n p≠(n:Int)-1:=fun e=>by
  have:=hcl ((n:Int)-1) (by omega) (by omega);have e2:((n:Int)-1).toNat=n-1:=by omega
  rw[e2,hl,decide_eq_true e] at this;cases this
 have hlt:=clkI_lt (p:=p) (n:=n);by_cases k45:kd=4∨kd=5
 ·rw[if_pos k45,if_neg (by omega),if_neg (by omega),if_pos k45];simp only[ba,inB_iff,dq,beq_iff_eq,bne_iff_ne,Bool.not_eq_true'];constructor
  ·rintro⟨⟨⟨⟨⟨⟨a1,a2⟩,a3⟩,a4⟩,a5⟩,a6⟩,a7⟩;have e1:=hcl fr a5 (by omega);have e2:=hcl to a6.1 (by omega);exact⟨⟨⟨a5,by omega⟩,by omega,by omega⟩,⟨⟨⟨⟨⟨by rw[e1]; exact decide_eq_true a4.symm,by omega⟩,by rw[e2]; exact decide_eq_false (by omega)⟩,a1⟩,a3⟩,a2⟩⟩
  ·rintro⟨⟨⟨a5,a6⟩,b1,b2⟩,⟨⟨⟨⟨⟨c1,c2⟩,c3⟩,c4⟩,c5⟩,c6⟩⟩;rw[hcl fr a5 (by omega),dq] at c1;rw[hcl to b1 (by omega),decide_eq_false_iff_not] at c3;exact⟨⟨⟨⟨⟨⟨c4,c6⟩,c5⟩,c1.symm⟩,a5⟩,b1,by omega⟩,by omega⟩
 ·rw[if_neg k45];by_cases k1:kd=1
  ·rw[if_pos k1,if_pos k1];simp only[ba,inB_iff,beq_iff_eq];constructor
   ·rintro⟨⟨⟨⟨a1,a2⟩,a3⟩,a4⟩,a5,a6⟩;exact⟨⟨a4,by omega,by omega⟩,⟨⟨⟨a5,a3⟩,a6⟩,a1⟩,a2⟩
   ·rintro⟨⟨a4,_⟩,⟨⟨⟨a5,a3⟩,a6⟩,a1⟩,a2⟩;exact⟨⟨⟨⟨a1,a2⟩,a3⟩,a4⟩,a5,a6⟩
  ·rw[if_neg k1,if_neg k1];by_cases k23:kd=2∨kd=3
   ·rw[if_pos k23,if_pos k23];simp only[ba,inB_iff,beq_iff_eq];constructor
    ·rintro⟨⟨⟨⟨a1,a2⟩,a3⟩,a4⟩,a5,a6⟩;exact⟨⟨a4,by omega,by omega⟩,⟨⟨⟨a5,a3⟩,a6⟩,a1⟩,a2⟩
    ·rintro⟨⟨a4,_⟩,⟨⟨⟨a5,a3⟩,a6⟩,a1⟩,a2⟩;exact⟨⟨⟨⟨a1,a2⟩,a3⟩,a4⟩,a5,a6⟩
   ·rw[if_neg k23,if_neg k23,if_neg k45,Bool.and_false,Bool.and_false]
def hasB(m:Nat)(a:Nat->DArc)(k:Int):Bool:=(List.range m).any fun i=>(a i).1==k
def kindB(k:Int)(n:Nat)(p:Nat->DPin)(m:Nat)(a:Nat->DArc)(tr:List Int):Bool :=
 if k=1 then clkN n p==0&&(tr.length:Int)==1*2 ^ (n-1)&&tr.all (inB · 0 1)
 else if k=2 then clkN n p==1&&(tr.length:Int)==0&&!hasB m a 1&&!(hasB m a 2==hasB m a 3)
 else if k=3 then clkN n p==1&&(tr.length:Int)==0&&hasB m a 1&&hasB m a 2&&!hasB m a 3
 else false
theorem kind_clk{k:Int}{n:Nat}{p:Nat->DPin}{m:Nat}{a:Nat->DArc}{tr:List Int}(h:kindB k n p m a tr=true):clkN n p<=1:=by
 unfold kindB at h;split at h
 ·simp only[ba,beq_iff_eq] at h; omega
 ·split at h
  ·simp only[ba,beq_iff_eq] at h; omega
  ·split at h
   ·simp only[ba,beq_iff_eq] at h; omega
   ·cases h
def arcsB(q:DArc->Bool)(m:Nat)(a:Nat->DArc):Bool:=decide (m<=8)&&!(List.range m).any fun i=>!q (a i)||dupA a i
def cellB(q:Nat->(Nat->DPin)->DArc->Bool)(nm:ByteArray)(k:Int)(n:Nat)(p:Nat->DPin)(m:Nat)(a:Nat->DArc)(tr:List Int)(lk en:Int):Bool :=
 nmB nm&&pinsOk n p&&arcsB (q n p) m a&&inB lk 0 100000&&inB en 0 100000&&kindB k n p m a tr
theorem cell_eq(nm:ByteArray)(k:Int)(n:Nat)(p:Nat->DPin)(m:Nat)(a:Nat->DArc)(tr:List Int)(lk en:Int):cellB isArcI nm k n p m a tr lk en=cellB isArcS nm k n p m a tr lk en:=by
 unfold cellB;cases hp:pinsOk n p with
 | false=>simp
 | true =>
   cases hk:kindB k n p m a tr with
   | false=>simp
   | true =>
     have:isArcI n p=isArcS n p:=funext fun x=>arc_eq hp (kind_clk hk) x;rw[this]
theorem take_anyG{α:Type}(l:List α)(d:α)(q:α->Bool)(i:Nat)(h:i<=l.length):(l.take i).any q=(List.range i).any fun k=>q (l.getD k d):=by
 have hl:(l.take i).length=i:=by rw[List.length_take]; omega
 rw[<- any_getD (l.take i) d q,hl];refine any_congr' fun k hk=>?_;rw[gq,gq,List.getElem?_take_of_lt hk]
theorem arcS_kind{n:Nat}{p:Nat->DPin}{a:DArc}(h:isArcS n p a=true):1<=a.1/\a.1<=5:=by
 unfold isArcS at h;rw[ba] at h;obtain⟨_,h⟩:=h;split at h
 ·omega
 ·split at h
  ·omega
  ·split at h
   ·omega
   ·cases h
theorem pow_in{n:Nat}(h:n<=5) : -9223372036854775808<=(1:Int)*2 ^ (n-1)/\(1:Int)*2 ^ (n-1)<=9223372036854775807:=by
 have:∀k:Fin 6,-9223372036854775808<=(1:Int)*2 ^ (k.val-1)/\(1:Int)*2 ^ (k.val-1)<=9223372036854775807:=by decide
 exact this ⟨n,by omega⟩
def cntK(a:Nat->DArc)(k:Int)(m:Nat):Int:=fN (fun i s=>if(a i).1=k then s+1 else s) m 0
theorem cntK_le(a:Nat->DArc)(k:Int):∀m,0<=cntK a k m/\cntK a k m<=m
 | 0=>⟨Int.le_refl _,Int.le_refl _⟩
 | m+1=>by
   have:=cntK_le a k m;unfold cntK at *
   rw[fN];split <;> omega
theorem cntK_has(a:Nat->DArc)(k:Int):∀m,hasB m a k=decide (0<cntK a k m)
 | 0=>rfl
 | m+1=>by
   have ih:=cntK_has a k m;have h0:=(cntK_le a k m).1;unfold hasB cntK at *
   rw[List.range_succ,List.any_append,ih,fN];simp only[List.any_cons,List.any_nil,Bool.or_false];by_cases h:(a m).1=k
   ·rw[if_pos h,beq_iff_eq.2 h,Bool.or_true];exact(decide_eq_true (by omega)).symm
   ·rw[if_neg h,beq_eq_false_iff_ne.2 h,Bool.or_false]
def kindsF(a:Nat->DArc)(i:Nat)(v:List Int):List Int:=v.set (a i).1.toNat (v.getD (a i).1.toNat 0+1)
theorem kinds_fold(a:Nat->DArc):∀m,(∀i,i<m->1<=(a i).1/\(a i).1<=5)->(fN (kindsF a) m (List.replicate 6 0)).length=6/\∀k:Nat,k<6->(fN (kindsF a) m (List.replicate 6 0)).getD k 0=cntK a k m
 | 0,_=>⟨by simp[fN],fun k hk=>by
   have:∀k:Fin 6,(List.replicate 6 (0:Int)).getD k.val 0=0:=by decide
   exact this ⟨k,hk⟩⟩
 | m+1,h=>by
   obtain⟨h1,h2⟩:=kinds_fold a m (fun i hi=>h i (by omega));obtain⟨h3,h4⟩:=h m (by omega);rw[fN];unfold kindsF at *
   refine⟨by rw[List.length_set]; exact h1,fun k hk=>?_⟩;have e:cntK a k (m+1)=if(a m).1=k then cntK a k m+1 else cntK a k m:=by unfold cntK; rw[fN]
   rw[e,gq,List.getElem?_set];by_cases hk':(a m).1.toNat=k
   ·rw[if_pos hk',if_pos (by rw[h1]; omega),if_pos (by omega)];rw[Option.getD_some,hk',h2 k hk]
   ·rw[if_neg hk',if_neg (by omega),<- gq,h2 k hk]
def incAt(v:List Int)(x:Int):List Int:=v.set x.toNat (v.getD x.toNat 0+1)
def lowAt(v:List Int)(n b:Nat):Prop:=v.length=n/\∀k:Nat,0<=v.getD k 0/\v.getD k 0<=(b:Int)
theorem lowAt_rep(n b:Nat):lowAt (List.replicate n 0) n b:=by
 refine⟨List.length_replicate,fun k=>?_⟩;rw[gq,List.getElem?_replicate];split <;> (show(0:Int)<=0/\(0:Int)<=b; omega)
theorem lowAt_inc{v:List Int}{n b:Nat}(h:lowAt v n b)(x:Int):lowAt (incAt v x) n (b+1):=by
 refine⟨by unfold incAt; rw[List.length_set]; exact h.1,fun k=>?_⟩;have hx:=h.2 x.toNat;have hk:=h.2 k;unfold incAt;rw[gq,List.getElem?_set];by_cases e:x.toNat=k
 ·rw[if_pos e];split
  ·rw[Option.getD_some]; omega
  ·show(0:Int)<=0/\(0:Int)<=_; omega
 ·rw[if_neg e,<- gq]; omega
theorem lowAt_up{v:List Int}{n b b':Nat}(h:lowAt v n b)(hb:b<=b'):lowAt v n b':=⟨h.1,fun k=>by have:=h.2 k; omega⟩
theorem lowAt_ix{v:List Int}{n b:Nat}(h:lowAt v n b){x:Int}(hx:inB x 0 ((n:Int)-1)=true):ix x v.length/\x.toNat<v.length:=by
 rw[inB_iff] at hx;rw[ix,h.1];omega
def libB(n:Nat)(ok:Nat->Bool)(nm:Nat->ByteArray):Bool:=!((List.range n).any fun i=>!ok i||dupB nm i)&&decide (n<=8)
theorem lib_eq{n:Nat}{ok:Nat->Bool}{nm:Nat->ByteArray}(h:∀i,i<n->ok i=true->nmB (nm i)=true):(if((List.range n).any fun i=>!ok i)=true then false else decide (n<=8)&&namesB n nm)=libB n ok nm:=by
 unfold libB namesB;have e:((List.range n).any fun i=>!ok i||dupB nm i)=(((List.range n).any fun i=>!ok i)||(List.range n).any fun i=>dupB nm i):=any_or _ _;rw[e];cases ha:(List.range n).any fun i=>!ok i with
 | true=>rfl
 | false =>
   have hall:=(not_any (n:=n) (c:=fun i=>!ok i)).1 (by rw[ha]; rfl);have:((List.range n).any fun i=>!nmB (nm i)||dupB nm i)=(List.range n).any fun i=>dupB nm i:=any_congr' fun i hi=>by
    have:=hall i hi;rw[Bool.not_eq_false'] at this;rw[h i hi this]; rfl
   rw[this,if_neg (by simp),Bool.false_or,Bool.and_comm]
def instB(nc:Nat)(pins:Int->Nat)(nn:Nat)(x:DInst):Bool:=inB x.2.1 0 ((nc:Int)-1)&&(x.2.2.length:Int)==(pins x.2.1:Int)&&x.2.2.all fun y=>inB y 0 ((nn:Int)-1)
def portB(nn:Nat)(x:DPort):Bool:=inB x.2.1 1 2&&inB x.2.2 0 ((nn:Int)-1)
def instF(x:Nat->DInst)(i:Nat)(v:List Int):List Int:=incAt v ((x i).2.2.getD ((x i).2.2.length-1) 0)
def portF(x:Nat->DPort)(i:Nat)(v:List Int):List Int:=if(x i).2.1=1 then incAt v (x i).2.2 else v
def driveN(ni np nn:Nat)(x:Nat->DInst)(y:Nat->DPort):List Int:=fN (portF y) np (fN (instF x) ni (List.replicate nn 0))
theorem instF_low(x:Nat->DInst)(nn:Nat):∀i,lowAt (fN (instF x) i (List.replicate nn 0)) nn i
 | 0=>lowAt_rep nn 0
 | i+1=>lowAt_inc (instF_low x nn i) _
def designB(lib:Bool)(nc:Nat)(pins:Int->Nat)(ni np nn:Nat)(x:Nat->DInst)(y:Nat->DPort)(nets:Nat->ByteArray):Bool :=
 lib&&decide (ni<=14)&&decide (nn<=30)&&decide (np<=8)&&namesB ni (fun i=>(x i).1)&&namesB nn nets&&namesB np (fun i=>(y i).1) &&
  !((List.range ni).any fun i=>!instB nc pins nn (x i))&&!((List.range np).any fun i=>!portB nn (y i))&&(driveN ni np nn x y).all (·==1)
def wireB(w:DWire)(n:Int):Bool :=
 decide (1<=w.1.length)&&decide (w.1.length<=8)&&decide (w.2.1.length=w.1.length)&&decide (w.2.2.1.length=w.1.length)&&(w.2.2.2.length:Int)==n &&
  w.2.1.all (inB · 0 1000)&&w.2.2.1.all (inB · 0 500)&&w.2.2.2.all (inB · 0 ((w.1.length:Int)-1)) &&
  !(List.range w.1.length).any fun i=>(i==0&&(w.1.getD i 0 != -1||w.2.1.getD 0 0 != 0))||(decide (0<i)&&!inB (w.1.getD i 0) 0 ((i:Int)-1))
abbrev DPlace:=Int×Int×Int×Bool
def instP(x:DInst)(i:Int)(k:Nat)(s:List DPlace):List DPlace:=s++[(i,(k:Int),x.2.2.getD k 0,(k:Int)==(x.2.2.length:Int)-1)]
def portP(y:Nat->DPort)(i:Nat)(s:List DPlace):List DPlace:=s++[(-1,(i:Int),(y i).2.2,(y i).2.1==1)]
def placesF(x:Nat->DInst)(i:Nat)(s:List DPlace):List DPlace:=fN (instP (x i) i) (x i).2.2.length s
def placesN(ni np:Nat)(x:Nat->DInst)(y:Nat->DPort):List DPlace:=fN (portP y) np (fN (placesF x) ni [])
theorem instP_len(x:DInst)(i:Int)(s:List DPlace):∀k,(fN (instP x i) k s).length=s.length+k
 | 0=>rfl
 | k+1=>by
   rw[fN,instP,List.length_append,instP_len x i s k]; rfl
theorem portP_len(y:Nat->DPort)(s:List DPlace):∀k,(fN (portP y) k s).length=s.length+k
 | 0=>rfl
 | k+1=>by
   rw[fN,portP,List.length_append,portP_len y s k]; rfl
def sinkF(pl:Nat->DPlace)(i:Nat)(v:List Int):List Int:=if(pl i).2.2.2=false then incAt v (pl i).2.2.1 else v
def cntP(pl:Nat->DPlace)(t:Int)(m:Nat):Int:=fN (fun i s=>if((pl i).2.2.1==t&&!(pl i).2.2.2)=true then s+1 else s) m 0
theorem cntP_le(pl:Nat->DPlace)(t:Int):∀m,0<=cntP pl t m/\cntP pl t m<=m
 | 0=>⟨Int.le_refl _,Int.le_refl _⟩
 | m+1=>by
   have:=cntP_le pl t m;unfold cntP at *
   rw[fN];split <;> omega
theorem sink_fold(pl:Nat->DPlace)(n:Nat):∀m,(∀i,i<m->inB (pl i).2.2.1 0 ((n:Int)-1)=true)->(fN (sinkF pl) m (List.replicate n 0)).length=n/\∀k:Nat,k<n->(fN (sinkF pl) m (List.replicate n 0)).getD k 0=cntP pl k m
 | 0,_=>⟨by simp[fN],fun k hk=>by
   show(List.replicate n (0:Int)).getD k 0=0;rw[gq,List.getElem?_replicate,if_pos hk]; rfl⟩
 | m+1,h=>by
   obtain⟨h1,h2⟩:=sink_fold pl n m (fun i hi=>h i (by omega));have h3:=inB_iff.1 (h m (by omega));rw[fN];generalize fN (sinkF pl) m (List.replicate n 0)=v at *
   unfold sinkF;have e:∀k:Nat,cntP pl k (m+1)=if((pl m).2.2.1==(k:Int)&&!(pl m).2.2.2)=true then cntP pl k m+1 else cntP pl k m:=fun k=>by unfold cntP; rw[fN]
   cases hd:(pl m).2.2.2 with
   | true =>
     refine⟨by rw[if_neg (by simp)]; exact h1,fun k hk=>?_⟩;rw[if_neg (by simp),h2 k hk,e,hd,if_neg (by simp)]
   | false =>
     rw[if_pos rfl];unfold incAt;refine⟨by rw[List.length_set]; exact h1,fun k hk=>?_⟩;rw[e,hd,gq,List.getElem?_set];by_cases hk':(pl m).2.2.1.toNat=k
     ·rw[if_pos hk',if_pos (by rw[h1]; omega),if_pos (by simp; omega),Option.getD_some,hk',h2 k hk]
     ·rw[if_neg hk',if_neg (by simp; omega),<- gq,h2 k hk]
def sinkL(pl:Nat->DPlace)(t:Int)(i:Nat)(s:List Int):List Int:=if((pl i).2.2.1==t&&!(pl i).2.2.2)=true then s++[(i:Int)] else s
theorem sinkL_len(pl:Nat->DPlace)(t:Int):∀m,((fN (sinkL pl t) m []).length:Int)=cntP pl t m
 | 0=>rfl
 | m+1=>by
   have:=sinkL_len pl t m;rw[fN];unfold cntP at *
   rw[fN];unfold sinkL at *
   split
   ·rw[List.length_append];show((_+1:Nat):Int)=_;omega
   ·exact this
def netsIn(n:Nat)(s:List DPlace):Prop:=∀p∈s,inB p.2.2.1 0 ((n:Int)-1)=true
theorem instP_in{n:Nat}{x:DInst}{i:Int}(hx:∀k,k<x.2.2.length->inB (x.2.2.getD k 0) 0 ((n:Int)-1)=true){s:List DPlace}(hs:netsIn n s):∀k,k<=x.2.2.length->netsIn n (fN (instP x i) k s)
 | 0,_=>hs
 | k+1,hk=>by
   rw[fN,instP];intro p hp;rcases List.mem_append.1 hp with h | h
   ·exact instP_in hx hs k (by omega) p h
   ·cases List.mem_singleton.1 h;exact hx k (by omega)
theorem placesF_in{n:Nat}{x:Nat->DInst}{ni:Nat}(hx:∀i,i<ni->∀k,k < (x i).2.2.length->inB ((x i).2.2.getD k 0) 0 ((n:Int)-1)=true):∀i,i<=ni->netsIn n (fN (placesF x) i [])
 | 0,_=>fun p hp=>by cases hp
 | i+1,hi=>by
   rw[fN,placesF];exact instP_in (hx i (by omega)) (placesF_in hx i (by omega)) _ (Nat.le_refl _)
theorem portP_in{n:Nat}{y:Nat->DPort}{np:Nat}(hy:∀i,i<np->inB (y i).2.2 0 ((n:Int)-1)=true){s:List DPlace}(hs:netsIn n s):∀k,k<=np->netsIn n (fN (portP y) k s)
 | 0,_=>hs
 | k+1,hk=>by
   rw[fN,portP];intro p hp;rcases List.mem_append.1 hp with h | h
   ·exact portP_in hy hs k (by omega) p h
   ·cases List.mem_singleton.1 h;exact hy k (by omega)
theorem placesF_len{x:Nat->DInst}{ni:Nat}(hx:∀i,i<ni->(x i).2.2.length<=5):∀i,i<=ni->(fN (placesF x) i []).length<=5*i
 | 0,_=>Nat.le_refl _
 | i+1,hi=>by
   rw[fN,placesF,instP_len];have:=placesF_len hx i (by omega);have:=hx i (by omega);omega
theorem getD_mem{α:Type}{l:List α}{i:Nat}{d:α}(h:i<l.length):l.getD i d∈l:=by
 rw[gq,List.getElem?_eq_getElem h];exact List.getElem_mem h
theorem all_getD{l:List Int}{p:Int->Bool}(h:l.all p=true){i:Nat}(hi:i<l.length):p (l.getD i 0)=true:=List.all_eq_true.1 h _ (getD_mem hi)
structure DesignFacts(nc:Nat)(pins:Int->Nat)(ni np nn:Nat)(x:Nat->DInst)(y:Nat->DPort):Prop where
 ni14:ni<=14
 np8:np<=8
 nn30:nn<=30
 inst:∀i,i<ni->instB nc pins nn (x i)=true
 port:∀i,i<np->portB nn (y i)=true
theorem design_facts{lib:Bool}{nc:Nat}{pins:Int->Nat}{ni np nn:Nat}{x:Nat->DInst}{y:Nat->DPort}{nets:Nat->ByteArray}(h:designB lib nc pins ni np nn x y nets=true):lib=true/\DesignFacts nc pins ni np nn x y:=by
 unfold designB at h;simp only[ba,dq] at h;obtain⟨⟨⟨⟨⟨⟨⟨⟨⟨c1,c2⟩,c3⟩,c4⟩,_⟩,_⟩,_⟩,c5⟩,c6⟩,_⟩:=h;refine⟨c1,c2,c4,c3,fun i hi=>?_,fun i hi=>?_⟩
 ·have:=not_any.1 c5 i hi
  rwa [Bool.not_eq_false'] at this
 ·have:=not_any.1 c6 i hi
  rwa [Bool.not_eq_false'] at this
theorem DesignFacts.net{nc:Nat}{pins:Int->Nat}{ni np nn:Nat}{x:Nat->DInst}{y:Nat->DPort}(h:DesignFacts nc pins ni np nn x y):(∀i,i<ni->∀k,k < (x i).2.2.length->inB ((x i).2.2.getD k 0) 0 ((nn:Int)-1)=true)/\∀i,i<np->inB (y i).2.2 0 ((nn:Int)-1)=true:=by
 refine⟨fun i hi k hk=>?_,fun i hi=>?_⟩
 ·have:=h.inst i hi;unfold instB at this;rw[ba] at this;exact all_getD (p:=fun y=>inB y 0 ((nn:Int)-1)) this.2 hk
 ·have:=h.port i hi;unfold portB at this;rw[ba] at this;exact this.2
end Go.Proofs.Xd
end
section
namespace Go.Proofs.Xd
open Go Go.Proofs Go.Proofs.Xl
def addAt(v:List Int)(i:Nat)(x:Int):List Int:=v.set i (v.getD i 0+x)
theorem addAt_len{v:List Int}{i:Nat}{x:Int}:(addAt v i x).length=v.length:=by unfold addAt; simp
theorem addAt_get{v:List Int}{i j:Nat}{x:Int}(hi:i<v.length):(addAt v i x).getD j 0=if j=i then v.getD i 0+x else v.getD j 0:=by
 unfold addAt;by_cases h:j=i
 ·subst h; simp[hi]
 ·rw[if_neg h]; simp[gq,List.getElem?_set_ne (Ne.symm h)]
def sumTo(v:List Int)(k:Nat):Int:=fN (fun i s=>s+v.getD i 0) k 0
theorem sumTo_succ(v:List Int)(k:Nat):sumTo v (k+1)=sumTo v k+v.getD k 0:=rfl
theorem sumTo_addAt{v:List Int}{i:Nat}{x:Int}(hi:i<v.length):∀k,sumTo (addAt v i x) k=sumTo v k+if i<k then x else 0
 | 0=>by simp[sumTo,fN]
 | k+1=>by
   rw[sumTo_succ,sumTo_succ,sumTo_addAt hi k,addAt_get hi];by_cases h:k=i
   ·subst h; simp; omega
   ·rw[if_neg h];by_cases h2:i<k
    ·rw[if_pos h2,if_pos (by omega)]; omega
    ·rw[if_neg h2,if_neg (by omega)]; omega
theorem sumTo_pos{v:List Int}(hp:∀j,0<=v.getD j 0):∀k,0<=sumTo v k
 | 0=>by simp[sumTo,fN]
 | k+1=>by have:=sumTo_pos hp k; have:=hp k; rw[sumTo_succ]; omega
theorem le_sumTo{v:List Int}(hp:∀j,0<=v.getD j 0):∀{k j:Nat},j<k->v.getD j 0<=sumTo v k
 | k+1,j,h=>by
   rw[sumTo_succ];have h1:=sumTo_pos hp k;have h2:=hp k;by_cases e:j=k
   ·subst e; omega
   ·have:=le_sumTo hp (k:=k) (j:=j) (by omega); omega
structure Low(v:List Int)(n:Nat)(S:Int):Prop where
 len:v.length=n
 pos:∀j,0<=v.getD j 0
 sum:sumTo v n<=S
theorem sumTo_bd{v:List Int}{c:Int}(hp:∀j,v.getD j 0<=c):∀k:Nat,sumTo v k<=c*(k:Int)
 | 0=>by simp[sumTo,fN]
 | k+1=>by
   have:=sumTo_bd hp k;have:=hp k;rw[sumTo_succ,Int.natCast_add,Int.mul_add];omega
theorem low_all{v:List Int}{n:Nat}(hn:v.length=n)(h:v.all (inB · 0 500)=true):Low v n (500*(n:Int)):=by
 have hj:∀j,0<=v.getD j 0/\v.getD j 0<=500:=fun j=>by
  rcases Nat.lt_or_ge j v.length with hj | hj
  ·have:=inB_iff.1 (all_getD (p:=fun x=>inB x 0 500) h hj); exact this
  ·rw[gq,List.getElem?_eq_none hj]; exact⟨by decide,by decide⟩
 exact⟨hn,fun j=>(hj j).1,sumTo_bd (fun j=>(hj j).2) n⟩
theorem Low.bd{v:List Int}{n:Nat}{S:Int}(h:Low v n S)(hS:0<=S)(j:Nat):0<=v.getD j 0/\v.getD j 0<=S:=by
 refine⟨h.pos j,?_⟩;rcases Nat.lt_or_ge j n with hj | hj
 ·exact Int.le_trans (le_sumTo h.pos hj) h.sum
 ·rw[gq,List.getElem?_eq_none (by rw[h.len]; exact hj)]; exact hS
theorem Low.add{v:List Int}{n:Nat}{S:Int}(h:Low v n S){i:Nat}(hi:i<n){x:Int}(hx:0<=x):Low (addAt v i x) n (S+x):=by
 have hi':i<v.length:=by rw[h.len]; exact hi
 refine⟨by rw[addAt_len]; exact h.len,fun j=>?_,?_⟩
 ·rw[addAt_get hi'];have:=h.pos i;have:=h.pos j;split <;> omega
 ·rw[sumTo_addAt hi',if_pos hi]; have:=h.sum; omega
def capF(s c:Nat->Int)(i:Nat)(v:List Int):List Int:=addAt v (s i).toNat (c i)
theorem capF_low{s c:Nat->Int}{v:List Int}{n:Nat}{S:Int}(h:Low v n S):∀m,(∀i,i<m->0<=s i/\(s i).toNat<n/\0<=c i/\c i<=500)->Low (fN (capF s c) m v) n (S+500*(m:Int))
 | 0,_=>⟨h.len,h.pos,by have:=h.sum; show sumTo v n<=_; omega⟩
 | m+1,hm=>by
   have ih:=capF_low h m (fun i hi=>hm i (by omega));obtain⟨h1,h2,h3,h4⟩:=hm m (by omega);have:=ih.add h2 h3;refine⟨this.len,this.pos,?_⟩;have:=this.sum;rw[Int.natCast_add,Int.mul_add];refine Int.le_trans this ?_;simp only[Int.natCast_one];omega
def pullF(P:Nat->Int)(n k:Nat)(v:List Int):List Int:=addAt v (P (n-1-k)).toNat (v.getD (n-1-k) 0)
structure Pull(v:List Int)(n k:Nat)(S:Int):Prop where
 len:v.length=n
 pos:∀j,0<=v.getD j 0
 bd:∀j,v.getD j 0<=S
 sum:sumTo v (n-k)<=S
theorem pull_step{P:Nat->Int}{v:List Int}{n k:Nat}{S:Int}(h:Pull v n k S)(hk:k<n-1)(hP:0<=P (n-1-k)/\(P (n-1-k)).toNat<n-1-k):Pull (pullF P n k v) n (k+1) S:=by
 have hp:(P (n-1-k)).toNat<v.length:=by rw[h.len]; omega
 have hpos:∀j,0<=(pullF P n k v).getD j 0:=fun j=>by
  unfold pullF;rw[addAt_get hp];have:=h.pos (P (n-1-k)).toNat;have:=h.pos (n-1-k);have:=h.pos j;split <;> omega
 have hs:sumTo (pullF P n k v) (n-(k+1))<=S:=by
  unfold pullF;have e:n-(k+1)=n-1-k:=by omega
  rw[sumTo_addAt hp,e,if_pos hP.2];have:=h.sum;rw[show n-k=(n-1-k)+1 by omega,sumTo_succ] at this;exact this
 refine⟨by unfold pullF; rw[addAt_len]; exact h.len,hpos,fun j=>?_,hs⟩;by_cases e:j=(P (n-1-k)).toNat
 ·have hlt:j<n-(k+1):=by omega
  exact Int.le_trans (le_sumTo hpos hlt) hs
 ·unfold pullF;rw[addAt_get hp,if_neg e];exact h.bd j
theorem pull_fold{P:Nat->Int}{v:List Int}{n:Nat}{S:Int}(h:Low v n S)(hS:0<=S)(hP:∀i,0<i->i<n->0<=P i/\(P i).toNat<i):∀k,k<=n-1->Pull (fN (pullF P n) k v) n k S
 | 0,_=>⟨h.len,h.pos,fun j=>(h.bd hS j).2,h.sum⟩
 | k+1,hk=>pull_step (pull_fold h hS hP k (by omega)) (by omega) (hP _ (by omega) (by omega))
def loadsD(cap:List Int)(n m:Nat)(s c P:Nat->Int):List Int:=fN (pullF P n) (n-1) (fN (capF s c) m cap)
theorem getD_left{α:Type}{l r:List α}{d:α}{i:Nat}(h:i<l.length):(l++r).getD i d=l.getD i d:=by
 simp only[gq,List.getElem?_append_left h]
theorem getD_right{α:Type}{l r:List α}{d:α}{i:Nat}(h:l.length<=i):(l++r).getD i d=r.getD (i-l.length) d:=by
 simp only[gq,List.getElem?_append_right h]
def delF(P R L:Nat->Int)(k:Nat)(s:List Int):List Int:=s++[s.getD (P (k+1)).toNat 0+R (k+1)*L (k+1)]
def delaysD(n:Nat)(P R L:Nat->Int):List Int:=fN (delF P R L) (n-1) [0]
theorem mul_le{a b A B:Int}(a0:0<=a)(a1:a<=A)(b0:0<=b)(b1:b<=B):0<=a*b/\a*b<=A*B :=
 ⟨Int.mul_nonneg a0 b0,Int.mul_le_mul a1 b1 b0 (Int.le_trans a0 a1)⟩
theorem delF_in{P R L:Nat->Int}{n:Nat}{S:Int}(hR:∀i,i<n->0<=R i/\R i<=1000)(hL:∀i,i<n->0<=L i/\L i<=S)(hS:0<=S):∀k,k<=n-1->(fN (delF P R L) k [0]).length=k+1/\∀j,0<=(fN (delF P R L) k [0]).getD j 0/\(fN (delF P R L) k [0]).getD j 0<=1000*S*(k:Int)
 | 0,_=>⟨rfl,fun j=>by
   cases j with
   | zero=>exact⟨by simp[fN],by simp[fN]⟩
   | succ j=>exact⟨by simp[fN],by simp[fN]⟩⟩
 | k+1,hk=>by
   obtain⟨h1,h2⟩:=delF_in hR hL hS k (by omega);have hx:=mul_le (hR (k+1) (by omega)).1 (hR (k+1) (by omega)).2 (hL (k+1) (by omega)).1 (hL (k+1) (by omega)).2;have hk1:0<=1000*S*(k:Int):=Int.mul_nonneg (by omega) (by omega);have e:1000*S*((k+1:Nat):Int)=1000*S*(k:Int)+1000*S:=by rw[Int.natCast_add,Int.mul_add]; simp
   have e2:fN (delF P R L) (k+1) [0]=delF P R L k (fN (delF P R L) k [0]):=rfl;rw[e2];generalize fN (delF P R L) k [0]=s at h1 h2;unfold delF;refine⟨by rw[List.length_append,h1]; rfl,fun j=>?_⟩;rw[e];rcases Nat.lt_or_ge j s.length with hj | hj
   ·have:=h2 j;rw[getD_left hj]; omega
   ·have h3:=h2 (P (k+1)).toNat;rw[getD_right hj];cases hjs:j-s.length with
    | zero=>simp only[List.getD_cons_zero]; omega
    | succ q=>simp only[List.getD_cons_succ,List.getD_nil]; omega
theorem fill_one{s:List Int}{k n:Nat}{x:Int}(hs:s.length=k+1)(hk:k+1<n):(s++List.replicate (n-1-k) 0).set (k+1) x=(s++[x])++List.replicate (n-1-(k+1)) 0:=by
 have e:n-1-k=(n-1-(k+1))+1:=by omega
 rw[e,List.replicate_succ,List.set_append_right _ _ (by omega),hs,Nat.sub_self,List.set_cons_zero,List.append_assoc];rfl
theorem fill_get{s:List Int}{k n p:Nat}(hs:s.length=k+1)(hp:p<k+1):(s++List.replicate (n-1-k) 0).getD p 0=s.getD p 0:=getD_left (by omega)
def exF(D:List Int)(S:Nat->Int)(i:Nat)(s:List Int):List Int:=s++[D.getD (S i).toNat 0]
def plcIn(ni np:Nat)(x:Nat->DInst)(p:DPlace):Prop:=(p.1 = -1/\0<=p.2.1/\p.2.1.toNat<np)∨(0<=p.1/\p.1.toNat<ni/\0<=p.2.1/\p.2.1.toNat < (x p.1.toNat).2.2.length)
theorem instP_kind{ni np:Nat}{x:Nat->DInst}{i:Nat}(hi:i<ni){s:List DPlace}(hs:∀p∈s,plcIn ni np x p):∀k,k<=(x i).2.2.length->∀p∈fN (instP (x i) i) k s,plcIn ni np x p
 | 0,_=>hs
 | k+1,hk=>fun p hp=>by
   have hp:p∈instP (x i) i k (fN (instP (x i) i) k s):=hp;unfold instP at hp;rcases List.mem_append.1 hp with hp | hp
   ·exact instP_kind hi hs k (by omega) p hp
   ·cases List.mem_singleton.1 hp;exact .inr ⟨Int.natCast_nonneg _,by simpa using hi,Int.natCast_nonneg _,by simp; omega⟩
theorem placesF_kind{ni np:Nat}{x:Nat->DInst}:∀i,i<=ni->∀p∈fN (placesF x) i [],plcIn ni np x p
 | 0,_=>fun p hp=>by cases hp
 | i+1,hi=>instP_kind (by omega) (placesF_kind i (by omega)) _ (Nat.le_refl _)
theorem portP_kind{ni np:Nat}{x:Nat->DInst}{y:Nat->DPort}{s:List DPlace}(hs:∀p∈s,plcIn ni np x p):∀k,k<=np->∀p∈fN (portP y) k s,plcIn ni np x p
 | 0,_=>hs
 | k+1,hk=>fun p hp=>by
   have hp:p∈portP y k (fN (portP y) k s):=hp;unfold portP at hp;rcases List.mem_append.1 hp with hp | hp
   ·exact portP_kind hs k (by omega) p hp
   ·cases List.mem_singleton.1 hp;exact .inl ⟨rfl,Int.natCast_nonneg _,by simp; omega⟩
theorem places_kind(ni np:Nat)(x:Nat->DInst)(y:Nat->DPort):∀p∈placesN ni np x y,plcIn ni np x p:=portP_kind (placesF_kind ni (Nat.le_refl _)) np (Nat.le_refl _)
theorem sinkL_in(pl:Nat->DPlace)(t:Int):∀m,∀x∈fN (sinkL pl t) m [],∃j:Nat,x=(j:Int)/\j<m/\(pl j).2.2.1=t/\(pl j).2.2.2=false
 | 0,x,h=>by cases h
 | m+1,x,h=>by
   have ih:=sinkL_in pl t m x;have h:x∈sinkL pl t m (fN (sinkL pl t) m []):=h;generalize fN (sinkL pl t) m []=s at ih h;unfold sinkL at h;split at h
   ·rename_i hc;rw[ba,beq_iff_eq,Bool.not_eq_true'] at hc;rcases List.mem_append.1 h with h | h
    ·obtain⟨j,h1,h2,h3⟩:=ih h;exact⟨j,h1,by omega,h3⟩
    ·cases List.mem_singleton.1 h;exact⟨m,rfl,by omega,hc⟩
   ·obtain⟨j,h1,h2,h3⟩:=ih h;exact⟨j,h1,by omega,h3⟩
structure WireFacts(w:DWire)(n:Int):Prop where
 n1:1<=w.1.length
 n8:w.1.length<=8
 res:w.2.1.length=w.1.length
 cap:w.2.2.1.length=w.1.length
 snk:(w.2.2.2.length:Int)=n
 resIn:∀i,i<w.1.length->0<=w.2.1.getD i 0/\w.2.1.getD i 0<=1000
 capOk:w.2.2.1.all (inB · 0 500)=true
 snkIn:∀i,i<w.2.2.2.length->0<=w.2.2.2.getD i 0/\(w.2.2.2.getD i 0).toNat<w.1.length
 par:∀i,0<i->i<w.1.length->0<=w.1.getD i 0/\(w.1.getD i 0).toNat<i
theorem wire_facts{w:DWire}{n:Int}(h:wireB w n=true):WireFacts w n:=by
 unfold wireB at h;simp only[ba,dq,beq_iff_eq] at h;obtain⟨⟨⟨⟨⟨⟨⟨⟨c1,c2⟩,c3⟩,c4⟩,c5⟩,c6⟩,c7⟩,c8⟩,c9⟩:=h;refine⟨c1,c2,c3,c4,c5,fun i hi=>?_,c7,fun i hi=>?_,fun i h0 hi=>?_⟩
 ·exact inB_iff.1 (all_getD (p:=fun x=>inB x 0 1000) c6 (by omega))
 ·have:=inB_iff.1 (all_getD (p:=fun x=>inB x 0 ((w.1.length:Int)-1)) c8 hi);omega
 ·have:=not_any.1 c9 i hi;rw[Bool.or_eq_false_iff] at this;have h2:=this.2;rw[Bool.and_eq_false_iff,decide_eq_false_iff_not,Bool.not_eq_false',inB_iff] at h2;rcases h2 with h | h
  ·omega
  ·omega
abbrev DLink:=Int×Int×Int×Int
def transV(k s:Int):List (Int×Int):=if(k==2)=true then [(0,0),(0,1)] else if(k==3)=true then [(1,0),(1,1)] else if(k != 1)=true then [] else if(s==1)=true then [(0,0),(1,1)] else if(s==2)=true then [(0,1),(1,0)] else [(0,0),(0,1),(1,0),(1,1)]
theorem transV_ok(k s:Int):(transV k s).length<=4/\∀t∈transV k s,0<=t.1/\t.1<=1/\0<=t.2/\t.2<=1:=by
 unfold transV;split
 ·exact⟨by decide,by decide⟩
 split
 ·exact⟨by decide,by decide⟩
 split
 ·exact⟨by decide,by decide⟩
 split
 ·exact⟨by decide,by decide⟩
 split
 ·exact⟨by decide,by decide⟩
 ·exact⟨by decide,by decide⟩
def clinkF(f a b x:Int)(tr:List (Int×Int))(k:Nat)(s:List DLink):List DLink:=s++[(2*(f+a)+(tr.getD k (0,0)).1,2*(f+b)+(tr.getD k (0,0)).2,1,x)]
theorem clinkF_len(f a b x:Int)(tr:List (Int×Int))(s:List DLink):∀k,(fN (clinkF f a b x tr) k s).length=s.length+k
 | 0=>rfl
 | k+1=>by
   have:=clinkF_len f a b x tr s k;show(clinkF f a b x tr k (fN (clinkF f a b x tr) k s)).length=_;generalize fN (clinkF f a b x tr) k s=z at this;unfold clinkF;rw[List.length_append,this]; rfl
def carcF(f:Int)(arcs:Nat->DArc)(j:Nat)(s:List DLink):List DLink:=fN (clinkF f (arcs j).2.1 (arcs j).2.2.1 (j:Int) (transV (arcs j).1 (arcs j).2.2.2.1)) (transV (arcs j).1 (arcs j).2.2.2.1).length s
theorem carcF_len(f:Int)(arcs:Nat->DArc)(j:Nat)(s:List DLink):(carcF f arcs j s).length<=s.length+4:=by
 unfold carcF;rw[clinkF_len];have:=(transV_ok (arcs j).1 (arcs j).2.2.2.1).1;omega
def cellLinksD(f:Int)(arcs:Nat->DArc)(m:Nat):List DLink:=fN (carcF f arcs) m []
theorem cellLinksD_len(f:Int)(arcs:Nat->DArc):∀m,(cellLinksD f arcs m).length<=4*m
 | 0=>Nat.le_refl _
 | m+1=>by
   have h1:=cellLinksD_len f arcs m;have h2:=carcF_len f arcs m (cellLinksD f arcs m);show(carcF f arcs m (cellLinksD f arcs m)).length<=_;omega
def instLF(nets:Nat->Nat)(arcs:Nat->Nat->DArc)(ms:Nat->Nat)(i:Nat)(s:Int×List DLink):Int×List DLink:=(s.1+(nets i:Int),s.2++cellLinksD s.1 (arcs i) (ms i))
theorem instLF_in{nets:Nat->Nat}{arcs:Nat->Nat->DArc}{ms:Nat->Nat}{n:Nat}(h:∀i,i<n->nets i<=5/\ms i<=8):∀m,m<=n->0<=(fN (instLF nets arcs ms) m (0,[])).1/\(fN (instLF nets arcs ms) m (0,[])).1<=5*(m:Int)/\(fN (instLF nets arcs ms) m (0,[])).2.length<=32*m
 | 0,_=>⟨Int.le_refl _,Int.le_refl _,Nat.le_refl _⟩
 | m+1,hm=>by
   obtain⟨h1,h2,h3⟩:=instLF_in h m (by omega);obtain⟨h4,h5⟩:=h m (by omega);show 0<=(instLF nets arcs ms m (fN (instLF nets arcs ms) m (0,[]))).1/\(instLF nets arcs ms m (fN (instLF nets arcs ms) m (0,[]))).1<=_/\(instLF nets arcs ms m (fN (instLF nets arcs ms) m (0,[]))).2.length<=_;generalize fN (instLF nets arcs ms) m (0,[])=z at h1 h2 h3;unfold instLF;have:=cellLinksD_len z.1 (arcs m) (ms m);refine⟨by show 0<=z.1+(nets m:Int); omega,by show z.1+(nets m:Int)<=_; omega,?_⟩;show(z.2++cellLinksD z.1 (arcs m) (ms m)).length<=_;rw[List.length_append]; omega
def gridF(pl:Nat->DPlace)(i:Nat)(s:List (List Int)×List Int):List (List Int)×List Int:=if(pl i).2.2.2=true then(s.1,s.2.set (pl i).2.2.1.toNat (i:Int)) else(s.1.set (pl i).2.2.1.toNat (s.1.getD (pl i).2.2.1.toNat []++[(i:Int)]),s.2)
def drvN(pl:Nat->DPlace)(t:Int)(m:Nat):Int:=fN (fun i s=>if((pl i).2.2.1==t&&(pl i).2.2.2)=true then(i:Int) else s) m 0
theorem drvN_in(pl:Nat->DPlace)(t:Int):∀m,0<=drvN pl t m/\drvN pl t m<=m
 | 0=>⟨Int.le_refl _,Int.le_refl _⟩
 | m+1=>by
   have:=drvN_in pl t m;have e:drvN pl t (m+1)=if((pl m).2.2.1==t&&(pl m).2.2.2)=true then(m:Int) else drvN pl t m:=rfl
   rw[e];split <;> omega
theorem sinkL_succ(pl:Nat->DPlace)(t:Int)(m:Nat):fN (sinkL pl t) (m+1) []=if((pl m).2.2.1==t&&!(pl m).2.2.2)=true then fN (sinkL pl t) m []++[(m:Int)] else fN (sinkL pl t) m []:=rfl
theorem getD_set{α:Type}{l:List α}{i j:Nat}{x d:α}(hi:i<l.length):(l.set i x).getD j d=if j=i then x else l.getD j d:=by
 by_cases h:j=i
 ·subst h; simp[hi]
 ·rw[if_neg h]; simp[gq,List.getElem?_set_ne (Ne.symm h)]
theorem grid_fold(pl:Nat->DPlace)(n:Nat):∀m,(∀i,i<m->inB (pl i).2.2.1 0 ((n:Int)-1)=true)->(fN (gridF pl) m (List.replicate n [],List.replicate n 0)).1.length=n/\(fN (gridF pl) m (List.replicate n [],List.replicate n 0)).2.length=n /\
  ∀k:Nat,k<n->(fN (gridF pl) m (List.replicate n [],List.replicate n 0)).1.getD k []=fN (sinkL pl k) m []/\(fN (gridF pl) m (List.replicate n [],List.replicate n 0)).2.getD k 0=drvN pl k m
 | 0,_=>⟨List.length_replicate,List.length_replicate,fun k hk=>by
   constructor
   ·show(List.replicate n ([]:List Int)).getD k []=[];rw[gq,List.getElem?_replicate,if_pos hk]; rfl
   ·show(List.replicate n (0:Int)).getD k 0=0;rw[gq,List.getElem?_replicate,if_pos hk]; rfl⟩
 | m+1,h=>by
   obtain⟨h1,h2,h3⟩:=grid_fold pl n m (fun i hi=>h i (by omega));have hm:=inB_iff.1 (h m (by omega));have e:fN (gridF pl) (m+1) (List.replicate n [],List.replicate n 0)=gridF pl m (fN (gridF pl) m (List.replicate n [],List.replicate n 0)):=rfl;rw[e];generalize fN (gridF pl) m (List.replicate n [],List.replicate n 0)=z at h1 h2 h3;have hlt:(pl m).2.2.1.toNat<n:=by omega
   have ed:∀k:Nat,drvN pl k (m+1)=if((pl m).2.2.1==(k:Int)&&(pl m).2.2.2)=true then(m:Int) else drvN pl k m:=fun _=>rfl
   have eq:∀k:Nat,((pl m).2.2.1==(k:Int))=decide (k=(pl m).2.2.1.toNat):=fun k=>by
    rw[Bool.eq_iff_iff,beq_iff_eq,dq];omega
   unfold gridF;cases hd:(pl m).2.2.2 with
   | true =>
     rw[if_pos rfl];refine⟨h1,by rw[List.length_set]; exact h2,fun k hk=>?_⟩;rw[sinkL_succ,ed k,eq,hd];refine⟨by simpa using (h3 k hk).1,?_⟩;show(z.2.set (pl m).2.2.1.toNat (m:Int)).getD k 0=_;rw[getD_set (by omega)];by_cases hkk:k=(pl m).2.2.1.toNat
     ·simp[hkk]
     ·rw[if_neg hkk,(h3 k hk).2]; simp[hkk]
   | false =>
     rw[if_neg (by simp)];refine⟨by rw[List.length_set]; exact h1,h2,fun k hk=>?_⟩;rw[sinkL_succ,ed k,eq,hd];refine⟨?_,by simpa using (h3 k hk).2⟩;show(z.1.set (pl m).2.2.1.toNat (z.1.getD (pl m).2.2.1.toNat []++[(m:Int)])).getD k []=_;rw[getD_set (by omega)];by_cases hkk:k=(pl m).2.2.1.toNat
     ·rw[if_pos hkk,<- hkk,(h3 k hk).1]; simp
     ·rw[if_neg hkk,(h3 k hk).1]; simp[hkk]
def wlinkF(d s x:Int)(t:Nat)(z:List DLink):List DLink:=z++[(2*d+(t:Int),2*s+(t:Int),2,x)]
def wsinkF(d:Int)(sn:List Int)(k:Nat)(z:List DLink):List DLink:=fN (wlinkF d (sn.getD k 0) (k:Int)) 2 z
theorem wsinkF_len(d:Int)(sn:List Int)(k:Nat)(z:List DLink):(wsinkF d sn k z).length=z.length+2:=by
 show((z++_)++_).length=_;rw[List.length_append,List.length_append]; rfl
def netLF(d:Nat->Int)(sn:Nat->List Int)(i:Nat)(z:List DLink):List DLink:=fN (wsinkF (d i) (sn i)) (sn i).length z
theorem wsink_len(d:Int)(sn:List Int)(z:List DLink):∀k,(fN (wsinkF d sn) k z).length=z.length+2*k
 | 0=>rfl
 | k+1=>by
   have:=wsink_len d sn z k;show(wsinkF d sn k (fN (wsinkF d sn) k z)).length=_;rw[wsinkF_len,this]; omega
theorem netL_len(d:Nat->Int)(sn:Nat->List Int)(z:List DLink){n c:Nat}(h:∀i,i<n->(sn i).length<=c):∀m,m<=n->(fN (netLF d sn) m z).length<=z.length+2*(c*m)
 | 0,_=>by simp[fN]
 | m+1,hm=>by
   have h1:=netL_len d sn z h m (by omega);have h2:=h m (by omega);show(fN (wsinkF (d m) (sn m)) (sn m).length (fN (netLF d sn) m z)).length<=_;rw[wsink_len,Nat.mul_add c];omega
def appF{α:Type}(f:Nat->α)(i:Nat)(s:List α):List α:=s++[f i]
theorem appF_len{α:Type}(f:Nat->α):∀n,(fN (appF f) n []).length=n
 | 0=>rfl
 | n+1=>by
   have:=appF_len f n;show(appF f n (fN (appF f) n [])).length=_;generalize fN (appF f) n []=z at this;unfold appF;rw[List.length_append,this]; rfl
theorem appF_get{α:Type}(f:Nat->α)(d:α):∀n i,i<n->(fN (appF f) n []).getD i d=f i
 | n+1,i,h=>by
   have hl:=appF_len f n;have ih:=appF_get f d n i;show(appF f n (fN (appF f) n [])).getD i d=_;generalize fN (appF f) n []=s at hl ih;unfold appF;rcases Nat.lt_or_ge i n with hi | hi
   ·rw[getD_left (by rw[hl]; exact hi)]; exact ih hi
   ·have:i=n:=by omega
    subst this;rw[getD_right (by rw[hl]; exact Nat.le_refl _),hl,Nat.sub_self]; rfl
end Go.Proofs.Xd
end

/- Plain words on names: no program in sight. -/
import Derived.Test.YtechodbafnmddaaGreatDoorXA
import Derived.Lib.SlTrimSet
import Derived.Lib.Bytealg
import Derived.Test.YtechodbafnmddaaGreatDoorProg
import Derived.KernelRfl
import Derived.Test.YtechodbafnmddaaGreatDoorXK
import Derived.Test.YtechodbafnmddaaGreatDoorTY
import Derived.Test.YtechodbafnmddaaGreatDoorF95c
import Derived.Test.YtechodbafnmddaaGreatDoorXF
set_option maxHeartbeats 0
section
namespace Go.Proofs.Sv
open Go
def BJ(c:Int):Bool:=decide (c≥97)&&decide (c<=122)
def JX(c:Int):Bool:=decide (c≥48)&&decide (c<=57)
def Gr(c:Int)(i:Nat):Bool:=BJ c||(JX c&&decide (0<i))
def BK(s:ByteArray):Nat->Bool
 | 0=>true
 | k+1=>BK s k&&Gr (H9 s k) k
def K2(s:ByteArray):Bool:=BK s s.size&&decide ((s.size:Int)≥1)&&decide ((s.size:Int)<=8)
theorem v0s(s:ByteArray)(k:Nat):∀j,k<=j->BK s j=true->BK s k=true:=by
 intro j c h
 induction j with
 | zero=>have:k=0:=by omega
         subst this; rfl
 | succ j a =>
   by_cases b:k=j+1
   ·subst b; exact h
   ·simp only[BK,ba] at h;exact a (by omega) h.1
def low26:List UInt8:=[97,98,99,100,101,102,103,104,105,106,107,108,109,110,111,112,113,114,115,116,117,118,119,120,121,122]
def low36:List UInt8:=[97,98,99,100,101,102,103,104,105,106,107,108,109,110,111,112,113,114,115,116,117,118,119,120,121,122,48,49,50,51,52,53,54,55,56,57]
theorem v0L:∀n:Fin 256,low26.contains (UInt8.ofNat n.val)=BJ (n.val:Int):=by decide +kernel
theorem v0J:∀n:Fin 256,low36.contains (UInt8.ofNat n.val)=(BJ (n.val:Int)||JX (n.val:Int)):=by decide +kernel
theorem v0K(b:UInt8):low26.contains b=BJ (b.toNat:Int):=by
 have:=v0L ⟨b.toNat,b.toNat_lt⟩;simpa using this
theorem n0z(b:UInt8):low36.contains b=(BJ (b.toNat:Int)||JX (b.toNat:Int)):=by
 have:=v0J ⟨b.toNat,b.toNat_lt⟩;simpa using this
theorem g0H(c:UInt8):∀l:List UInt8,decide (0<=Lib.indexByte l c)=l.contains c
 | []=>by simp[Lib.indexByte]
 | b :: l=>by
   have f:=g0H c l;have i:=Lib.indexByte_ge l c;unfold Lib.indexByte;by_cases a:b=c
   ·subst a; simp
   ·have d:¬c=b:=fun h=>a h.symm;have g:(b==c)=false:=by simpa using a
    rw[g,List.contains_cons,show(c==b)=false by simpa using d,<- f];by_cases e:Lib.indexByte l c = -1
    ·simp[e]
    ·have:(Lib.indexByte l c == -1)=false:=by simpa using e
     rw[this];simp only[Bool.false_eq_true,if_false,Bool.false_or];rw[Bool.eq_iff_iff]; simp only[dq]; omega
theorem g0N{a:Type}(p:a->Bool):∀l:List a,l.dropWhile p=[]↔∀x∈l,p x=true
 | []=>by simp
 | x :: r=>by
   rw[List.dropWhile_cons];by_cases h:p x=true
   ·simp[h,g0N p r]
   ·simp[h]
theorem g0A{a:Type}(p:a->Bool)(x:a):∀l:List a,x∈l.takeWhile p->p x=true
 | [],h=>by cases h
 | y :: r,h=>by
   rw[List.takeWhile_cons] at h;by_cases b:p y=true
   ·rw[if_pos b] at h;rcases List.mem_cons.1 h with rfl | h
    ·exact b
    ·exact g0A p x r h
   ·rw[if_neg b] at h; cases h
theorem u0w(l cs:List UInt8):Lib.trimS l cs=[]↔∀b∈l,cs.contains b=true:=by
 unfold Lib.trimS Lib.trimLeftS Lib.trimRightS;rw[g0N];constructor
 ·intro h b a;have e:l=(l.reverse.dropWhile (cs.contains ·)).reverse++(l.reverse.takeWhile (cs.contains ·)).reverse:=by
   rw[<- List.reverse_append,List.takeWhile_append_dropWhile,List.reverse_reverse]
  rw[e] at a;rcases List.mem_append.1 a with a | a
  ·exact h b a
  ·have:=List.mem_reverse.1 a;exact g0A (cs.contains ·) b _ this
 ·intro h b a;exact h b (by have:=(List.dropWhile_sublist _).mem (List.mem_reverse.1 a); exact List.mem_reverse.1 this)
theorem q0Z(s:ByteArray)(d:BJ (H9 s 0)=true):∀k,k<=s.size->(BK s k=true↔∀i,i<k->(BJ (H9 s i)||JX (H9 s i))=true)
 | 0,_=>by simp[BK]
 | k+1,hk=>by
   have g:=q0Z s d k (by omega);simp only[BK,ba,g];constructor
   ·rintro⟨e,a⟩ i hi;by_cases b:i=k
    ·subst b;unfold Gr at a;cases hl:BJ (H9 s i) with
     | true=>simp
     | false=>rw[hl] at a; simp only[Bool.false_or,ba] at a; simp[a.1]
    ·exact e i (by omega)
   ·intro h;refine⟨fun i hi=>h i (by omega),?_⟩;have:=h k (by omega);unfold Gr;by_cases c:k=0
    ·subst c; simp[d]
    ·have f:decide (0<k)=true:=by simp; omega
     rw[f]; simpa using this
theorem x0G(s:ByteArray):Lib.trimS s.data.toList low36=[]↔∀i,i<s.size->(BJ (H9 s i)||JX (H9 s i))=true:=by
 rw[u0w];have c:s.data.toList.length=s.size:=by simp
 constructor
 ·intro h i hi;have a:i<s.data.toList.length:=by rw[c]; exact hi
  have:=h s.data.toList[i] (List.getElem_mem a);rw[n0z] at this;unfold H9;rw[gq,List.getElem?_eq_getElem a];exact this
 ·intro h b d;obtain⟨i,hi,rfl⟩:=List.getElem_of_mem d;have:=h i (by rw[<- c]; exact hi);unfold H9 at this;rw[gq,List.getElem?_eq_getElem hi] at this;rw[n0z]; exact this
theorem y0C(s:ByteArray)(a:1<=s.size)(e:s.size<=8):K2 s=((Lib.trimS s.data.toList low36==[])&&decide (0<=Lib.indexByte low26 (H9 s 0).toNat.toUInt8)):=by
 have c:(H9 s 0).toNat.toUInt8=s.data.toList.getD 0 0:=by unfold H9; simp
 rw[c,g0H,v0K];show K2 s=(_&&BJ (H9 s 0));have d:decide ((s.size:Int)≥1)=true:=by simp; omega
 have b:decide ((s.size:Int)<=8)=true:=by simp; omega
 unfold K2;rw[d,b,Bool.and_true,Bool.and_true];cases h0:BJ (H9 s 0) with
 | false =>
   rw[Bool.and_false];cases hn:BK s s.size with
   | false=>rfl
   | true =>
     have:=v0s s 1 s.size a hn;simp[BK,Gr,h0] at this
 | true =>
   rw[Bool.and_true,Bool.eq_iff_iff,q0Z s h0 s.size (Nat.le_refl _),beq_iff_eq,x0G]
end Go.Proofs.Sv
end
section
namespace Go.Proofs.YtechodbafnmddaaGreatDoor
open Go Go.Proofs Go.Proofs.Sv
instance:K9 Tryz.prog 2:=⟨by kernel_rfl⟩
instance:Info Tryz.prog 2 1 8 (.int .i64 0):=⟨by kernel_rfl⟩
instance:K9 Tryz.prog 3:=⟨by kernel_rfl⟩
instance:Info Tryz.prog 3 1 8 (.int .i64 0):=⟨by kernel_rfl⟩
instance:K9 Tryz.prog 4:=⟨by kernel_rfl⟩
instance:Ia Tryz.prog 4:=⟨by kernel_rfl⟩
instance:Info Tryz.prog 4 1 1 (.bool false):=⟨by kernel_rfl⟩
instance:K9 Tryz.prog 5:=⟨by kernel_rfl⟩
instance:Info Tryz.prog 5 1 1 (.int .u8 0):=⟨by kernel_rfl⟩
instance:K9 Tryz.prog 9:=⟨by kernel_rfl⟩
instance:JY Tryz.prog 9:=⟨by kernel_rfl⟩
instance:Info Tryz.prog 9 1 16 (.string ⟨#[]⟩):=⟨by kernel_rfl⟩
instance:K9 Tryz.prog 26:=⟨by kernel_rfl⟩
instance:I6 Tryz.prog 26 9:=⟨by kernel_rfl⟩
instance:Info Tryz.prog 26 1 24 (.slice none 0 0):=⟨by kernel_rfl⟩
instance:M5 Tryz.prog 32:=⟨by kernel_rfl⟩
instance:x8 Tryz.prog 32 0 0:=⟨by kernel_rfl⟩
instance:x8 Tryz.prog 32 1 1:=⟨by kernel_rfl⟩
instance:x8 Tryz.prog 32 2 4:=⟨by kernel_rfl⟩
instance:Info Tryz.prog 32 5 120 (.agg #[.slice none 0 0,.slice none 0 0,.slice none 0 0,.slice none 0 0,.slice none 0 0]):=⟨by kernel_rfl⟩
instance:M5 Tryz.prog 34:=⟨by kernel_rfl⟩
instance:x8 Tryz.prog 34 0 0:=⟨by kernel_rfl⟩
instance:x8 Tryz.prog 34 1 1:=⟨by kernel_rfl⟩
instance:x8 Tryz.prog 34 2 2:=⟨by kernel_rfl⟩
instance:x8 Tryz.prog 34 3 3:=⟨by kernel_rfl⟩
instance:x8 Tryz.prog 34 4 4:=⟨by kernel_rfl⟩
instance:Info Tryz.prog 34 5 48 (.agg #[.string ⟨#[]⟩,.int .i64 0,.int .i64 0,.int .i64 0,.int .i64 0]):=⟨by kernel_rfl⟩
instance:K9 Tryz.prog 35:=⟨by kernel_rfl⟩
instance:I6 Tryz.prog 35 2:=⟨by kernel_rfl⟩
instance:Info Tryz.prog 35 1 24 (.slice none 0 0):=⟨by kernel_rfl⟩
instance:K9 Tryz.prog 36:=⟨by kernel_rfl⟩
instance:I6 Tryz.prog 36 106:=⟨by kernel_rfl⟩
instance:Info Tryz.prog 36 1 24 (.slice none 0 0):=⟨by kernel_rfl⟩
instance:K9 Tryz.prog 37:=⟨by kernel_rfl⟩
instance:I6 Tryz.prog 37 4:=⟨by kernel_rfl⟩
instance:Info Tryz.prog 37 1 24 (.slice none 0 0):=⟨by kernel_rfl⟩
instance:M5 Tryz.prog 40:=⟨by kernel_rfl⟩
instance:x8 Tryz.prog 40 0 0:=⟨by kernel_rfl⟩
instance:x8 Tryz.prog 40 1 1:=⟨by kernel_rfl⟩
instance:x8 Tryz.prog 40 2 2:=⟨by kernel_rfl⟩
instance:Info Tryz.prog 40 3 72 (.agg #[.slice none 0 0,.slice none 0 0,.slice none 0 0]):=⟨by kernel_rfl⟩
instance:K9 Tryz.prog 47:=⟨by kernel_rfl⟩
instance:I6 Tryz.prog 47 153:=⟨by kernel_rfl⟩
instance:Info Tryz.prog 47 1 24 (.slice none 0 0):=⟨by kernel_rfl⟩
instance:M5 Tryz.prog 49:=⟨by kernel_rfl⟩
instance:x8 Tryz.prog 49 0 0:=⟨by kernel_rfl⟩
instance:Info Tryz.prog 49 1 24 (.agg #[.slice none 0 0]):=⟨by kernel_rfl⟩
instance:K9 Tryz.prog 50:=⟨by kernel_rfl⟩
instance:I6 Tryz.prog 50 155:=⟨by kernel_rfl⟩
instance:Info Tryz.prog 50 1 24 (.slice none 0 0):=⟨by kernel_rfl⟩
instance:K9 Tryz.prog 51:=⟨by kernel_rfl⟩
instance:I6 Tryz.prog 51 231:=⟨by kernel_rfl⟩
instance:Info Tryz.prog 51 1 24 (.slice none 0 0):=⟨by kernel_rfl⟩
instance:M5 Tryz.prog 53:=⟨by kernel_rfl⟩
instance:x8 Tryz.prog 53 0 0:=⟨by kernel_rfl⟩
instance:x8 Tryz.prog 53 1 1:=⟨by kernel_rfl⟩
instance:x8 Tryz.prog 53 2 2:=⟨by kernel_rfl⟩
instance:Info Tryz.prog 53 3 72 (.agg #[.slice none 0 0,.slice none 0 0,.slice none 0 0]):=⟨by kernel_rfl⟩
instance:K9 Tryz.prog 54:=⟨by kernel_rfl⟩
instance:I6 Tryz.prog 54 172:=⟨by kernel_rfl⟩
instance:Info Tryz.prog 54 1 24 (.slice none 0 0):=⟨by kernel_rfl⟩
instance:M5 Tryz.prog 56:=⟨by kernel_rfl⟩
instance:x8 Tryz.prog 56 0 0:=⟨by kernel_rfl⟩
instance:x8 Tryz.prog 56 1 1:=⟨by kernel_rfl⟩
instance:x8 Tryz.prog 56 2 4:=⟨by kernel_rfl⟩
instance:Info Tryz.prog 56 5 120 (.agg #[.slice none 0 0,.slice none 0 0,.slice none 0 0,.slice none 0 0,.slice none 0 0]):=⟨by kernel_rfl⟩
instance:K9 Tryz.prog 61:=⟨by kernel_rfl⟩
instance:I6 Tryz.prog 61 75:=⟨by kernel_rfl⟩
instance:Info Tryz.prog 61 1 24 (.slice none 0 0):=⟨by kernel_rfl⟩
instance:K9 Tryz.prog 63:=⟨by kernel_rfl⟩
instance:I6 Tryz.prog 63 73:=⟨by kernel_rfl⟩
instance:Info Tryz.prog 63 1 24 (.slice none 0 0):=⟨by kernel_rfl⟩
instance:M5 Tryz.prog 65:=⟨by kernel_rfl⟩
instance:x8 Tryz.prog 65 0 0:=⟨by kernel_rfl⟩
instance:x8 Tryz.prog 65 1 1:=⟨by kernel_rfl⟩
instance:x8 Tryz.prog 65 2 2:=⟨by kernel_rfl⟩
instance:Info Tryz.prog 65 3 72 (.agg #[.slice none 0 0,.slice none 0 0,.slice none 0 0]):=⟨by kernel_rfl⟩
instance:M5 Tryz.prog 73:=⟨by kernel_rfl⟩
instance:x8 Tryz.prog 73 0 0:=⟨by kernel_rfl⟩
instance:x8 Tryz.prog 73 1 1:=⟨by kernel_rfl⟩
instance:Info Tryz.prog 73 2 16 (.agg #[.int .i64 0,.int .i64 0]):=⟨by kernel_rfl⟩
instance:M5 Tryz.prog 75:=⟨by kernel_rfl⟩
instance:x8 Tryz.prog 75 0 0:=⟨by kernel_rfl⟩
instance:x8 Tryz.prog 75 1 1:=⟨by kernel_rfl⟩
instance:x8 Tryz.prog 75 2 3:=⟨by kernel_rfl⟩
instance:Info Tryz.prog 75 5 40 (.agg #[.int .i64 0,.int .i64 0,.int .i64 0,.int .i64 0,.int .i64 0]):=⟨by kernel_rfl⟩
instance:M5 Tryz.prog 106:=⟨by kernel_rfl⟩
instance:x8 Tryz.prog 106 0 0:=⟨by kernel_rfl⟩
instance:x8 Tryz.prog 106 1 1:=⟨by kernel_rfl⟩
instance:x8 Tryz.prog 106 2 3:=⟨by kernel_rfl⟩
instance:Info Tryz.prog 106 5 40 (.agg #[.int .i64 0,.int .i64 0,.int .i64 0,.int .i64 0,.int .i64 0]):=⟨by kernel_rfl⟩
instance:K9 Tryz.prog 150:=⟨by kernel_rfl⟩
instance:I6 Tryz.prog 150 293:=⟨by kernel_rfl⟩
instance:Info Tryz.prog 150 1 24 (.slice none 0 0):=⟨by kernel_rfl⟩
instance:K9 Tryz.prog 151:=⟨by kernel_rfl⟩
instance:I6 Tryz.prog 151 158:=⟨by kernel_rfl⟩
instance:Info Tryz.prog 151 1 24 (.slice none 0 0):=⟨by kernel_rfl⟩
instance:M5 Tryz.prog 153:=⟨by kernel_rfl⟩
instance:x8 Tryz.prog 153 0 0:=⟨by kernel_rfl⟩
instance:x8 Tryz.prog 153 1 1:=⟨by kernel_rfl⟩
instance:x8 Tryz.prog 153 2 2:=⟨by kernel_rfl⟩
instance:x8 Tryz.prog 153 3 3:=⟨by kernel_rfl⟩
instance:x8 Tryz.prog 153 4 4:=⟨by kernel_rfl⟩
instance:x8 Tryz.prog 153 5 5:=⟨by kernel_rfl⟩
instance:x8 Tryz.prog 153 6 6:=⟨by kernel_rfl⟩
instance:Info Tryz.prog 153 7 112 (.agg #[.string ⟨#[]⟩,.int .i64 0,.slice none 0 0,.slice none 0 0,.slice none 0 0,.int .i64 0,.int .i64 0]):=⟨by kernel_rfl⟩
instance:M5 Tryz.prog 155:=⟨by kernel_rfl⟩
instance:x8 Tryz.prog 155 0 0:=⟨by kernel_rfl⟩
instance:x8 Tryz.prog 155 1 1:=⟨by kernel_rfl⟩
instance:x8 Tryz.prog 155 2 2:=⟨by kernel_rfl⟩
instance:Info Tryz.prog 155 3 48 (.agg #[.string ⟨#[]⟩,.int .i64 0,.slice none 0 0]):=⟨by kernel_rfl⟩
instance:K9 Tryz.prog 156:=⟨by kernel_rfl⟩
instance:I6 Tryz.prog 156 269:=⟨by kernel_rfl⟩
instance:Info Tryz.prog 156 1 24 (.slice none 0 0):=⟨by kernel_rfl⟩
instance:M5 Tryz.prog 158:=⟨by kernel_rfl⟩
instance:x8 Tryz.prog 158 0 0:=⟨by kernel_rfl⟩
instance:x8 Tryz.prog 158 1 1:=⟨by kernel_rfl⟩
instance:x8 Tryz.prog 158 2 2:=⟨by kernel_rfl⟩
instance:x8 Tryz.prog 158 3 3:=⟨by kernel_rfl⟩
instance:x8 Tryz.prog 158 4 4:=⟨by kernel_rfl⟩
instance:x8 Tryz.prog 158 5 5:=⟨by kernel_rfl⟩
instance:Info Tryz.prog 158 6 80 (.agg #[.int .i64 0,.int .i64 0,.int .i64 0,.int .i64 0,.slice none 0 0,.slice none 0 0]):=⟨by kernel_rfl⟩
instance:M5 Tryz.prog 172:=⟨by kernel_rfl⟩
instance:x8 Tryz.prog 172 0 0:=⟨by kernel_rfl⟩
instance:x8 Tryz.prog 172 1 1:=⟨by kernel_rfl⟩
instance:x8 Tryz.prog 172 2 2:=⟨by kernel_rfl⟩
instance:x8 Tryz.prog 172 3 3:=⟨by kernel_rfl⟩
instance:Info Tryz.prog 172 4 96 (.agg #[.slice none 0 0,.slice none 0 0,.slice none 0 0,.slice none 0 0]):=⟨by kernel_rfl⟩
instance:M5 Tryz.prog 231:=⟨by kernel_rfl⟩
instance:x8 Tryz.prog 231 0 0:=⟨by kernel_rfl⟩
instance:x8 Tryz.prog 231 1 1:=⟨by kernel_rfl⟩
instance:x8 Tryz.prog 231 2 2:=⟨by kernel_rfl⟩
instance:Info Tryz.prog 231 3 32 (.agg #[.string ⟨#[]⟩,.int .i64 0,.int .i64 0]):=⟨by kernel_rfl⟩
instance:M5 Tryz.prog 269:=⟨by kernel_rfl⟩
instance:x8 Tryz.prog 269 0 0:=⟨by kernel_rfl⟩
instance:x8 Tryz.prog 269 1 1:=⟨by kernel_rfl⟩
instance:x8 Tryz.prog 269 2 2:=⟨by kernel_rfl⟩
instance:Info Tryz.prog 269 3 72 (.agg #[.slice none 0 0,.slice none 0 0,.slice none 0 0]):=⟨by kernel_rfl⟩
instance:K9 Tryz.prog 291:=⟨by kernel_rfl⟩
instance:I6 Tryz.prog 291 5:=⟨by kernel_rfl⟩
instance:Info Tryz.prog 291 1 24 (.slice none 0 0):=⟨by kernel_rfl⟩
instance:M5 Tryz.prog 293:=⟨by kernel_rfl⟩
instance:x8 Tryz.prog 293 0 0:=⟨by kernel_rfl⟩
instance:x8 Tryz.prog 293 1 1:=⟨by kernel_rfl⟩
instance:x8 Tryz.prog 293 2 2:=⟨by kernel_rfl⟩
instance:x8 Tryz.prog 293 3 3:=⟨by kernel_rfl⟩
instance:Info Tryz.prog 293 4 40 (.agg #[.string ⟨#[]⟩,.int .i64 0,.int .i64 0,.bool false]):=⟨by kernel_rfl⟩
instance:C7 Tryz.prog 7:=⟨by kernel_rfl⟩
instance:C7 Tryz.prog 8:=⟨by kernel_rfl⟩
instance:C7 Tryz.prog 9:=⟨by kernel_rfl⟩
instance:C7 Tryz.prog 10:=⟨by kernel_rfl⟩
instance:C7 Tryz.prog 12:=⟨by kernel_rfl⟩
instance:C7 Tryz.prog 13:=⟨by kernel_rfl⟩
instance:C7 Tryz.prog 14:=⟨by kernel_rfl⟩
instance:C7 Tryz.prog 15:=⟨by kernel_rfl⟩
instance:C7 Tryz.prog 16:=⟨by kernel_rfl⟩
instance:C7 Tryz.prog 18:=⟨by kernel_rfl⟩
instance:C7 Tryz.prog 19:=⟨by kernel_rfl⟩
instance:C7 Tryz.prog 20:=⟨by kernel_rfl⟩
instance:C7 Tryz.prog 21:=⟨by kernel_rfl⟩
instance:C7 Tryz.prog 27:=⟨by kernel_rfl⟩
instance:C7 Tryz.prog 28:=⟨by kernel_rfl⟩
instance:C7 Tryz.prog 29:=⟨by kernel_rfl⟩
instance:C7 Tryz.prog 30:=⟨by kernel_rfl⟩
instance:C7 Tryz.prog 32:=⟨by kernel_rfl⟩
instance:C7 Tryz.prog 33:=⟨by kernel_rfl⟩
instance:C7 Tryz.prog 34:=⟨by kernel_rfl⟩
instance:C7 Tryz.prog 70:=⟨by kernel_rfl⟩
instance:C7 Tryz.prog 71:=⟨by kernel_rfl⟩
instance:C7 Tryz.prog 72:=⟨by kernel_rfl⟩
instance:C7 Tryz.prog 73:=⟨by kernel_rfl⟩
instance:C7 Tryz.prog 74:=⟨by kernel_rfl⟩
instance:C7 Tryz.prog 129:=⟨by kernel_rfl⟩
instance:C7 Tryz.prog 130:=⟨by kernel_rfl⟩
instance:C7 Tryz.prog 131:=⟨by kernel_rfl⟩
instance:C7 Tryz.prog 132:=⟨by kernel_rfl⟩
instance:C7 Tryz.prog 179:=⟨by kernel_rfl⟩
instance:C7 Tryz.prog 180:=⟨by kernel_rfl⟩
instance:C7 Tryz.prog 181:=⟨by kernel_rfl⟩
instance:C7 Tryz.prog 222:=⟨by kernel_rfl⟩
end Go.Proofs.YtechodbafnmddaaGreatDoor
end
section
namespace Go.Proofs.YtechodbafnmddaaGreatDoor
open Go Go.Proofs Go.Proofs.Xv
instance : FacT Tryz.prog := ⟨fun _ => ⟨fun g e => (nomatch (show Tryz.prog.globalNamed "internal/strconv.uint64pow10" = none by kernel_rfl).symm.trans e), fun g e => (nomatch (show Tryz.prog.globalNamed "strconv.ErrSyntax" = none by kernel_rfl).symm.trans e), fun g e => (nomatch (show Tryz.prog.globalNamed "strconv.ErrRange" = none by kernel_rfl).symm.trans e), fun f g e _ => (nomatch (show Tryz.prog.funcNamed "strings.Split" = none by kernel_rfl).symm.trans e)⟩⟩
end Go.Proofs.YtechodbafnmddaaGreatDoor
end
section
namespace Go.Proofs.YtechodbafnmddaaGreatDoor
open Go Go.Proofs Go.Proofs.Sv Go.Proofs.Xv Go.RowKit
attribute [local irreducible] VS VO VQ VH J0 Y1 CD JZ D6 Rd
attribute [local simp] r8 J1 Value.cells
instance:M4 Tryz.prog:=⟨by kernel_rfl⟩
instance:NU Tryz.prog 5:=⟨by kernel_rfl⟩
instance:Re Tryz.prog 3:=⟨by kernel_rfl⟩
instance:Re Tryz.prog 2:=⟨by kernel_rfl⟩
theorem y0q{k:Int}{n:Nat}(g:0<k)(h:k*(10:Int) ^ n<=9223372036854775807):n<=18/\k.tdiv 10*(10:Int) ^ (n+1)<=9223372036854775807:=by
 have i:(0:Int) < (10:Int) ^ n:=Int.pow_pos (by decide);constructor
 ·rcases Nat.lt_or_ge 18 n with a | a
  ·have c:(10:Int) ^ 19<=(10:Int) ^ n:=by
    have b:10 ^ 19<=10 ^ n:=Nat.pow_le_pow_right (n:=10) (by decide) (by omega:19<=n)
    exact_mod_cast b
   have f:(1:Int)*(10:Int) ^ n<=k*(10:Int) ^ n:=Int.mul_le_mul_of_nonneg_right (by omega) (by omega);have:(10:Int) ^ 19=10000000000000000000:=by decide
   omega
  ·exact a
 ·have e:k.tdiv 10*(10:Int) ^ (n+1)=(k.tdiv 10*10)*(10:Int) ^ n:=by rw[Int.pow_succ,Int.mul_comm ((10:Int) ^ n) 10,<- Int.mul_assoc]
  have d:k.tdiv 10*10<=k:=by
   rw[Int.tdiv_eq_ediv_of_nonneg (by omega)];omega
  rw[e];exact Int.le_trans (Int.mul_le_mul_of_nonneg_right d (by omega)) h
set_option maxHeartbeats 2000000 in
theorem M0r{k:Int}{w:World}(j:R9 k):Calls Tryz.prog 179 #[.int .i64 k] w fun en w'=>∃s,en=.returned (.string s)/\s.size<=9223372036854775807/\Ext w w':=by
 have b:Below w.heap.size w w:=Below.refl _ _;refine U0 Tryz.func179 Tryz.ntmps179 rfl rfl ?_
 (repeat (first | refine F4 rfl rfl ?_ | refine p5 ?_ | refine H4 ?_ | refine oN ?_ | refine nQ ?_ | refine F9 ?_ | refine I0 ?_ | refine I9 ?_ | refine Af ?_ | refine BL ?_ | refine O0 ?_ | refine O1 ?_ | refine O2 ?_ | refine O3 rfl ?_))
 refine U3 rfl (fun d=>?_) (fun d=>?_)
 · (repeat (first | refine F4 rfl rfl ?_ | refine p5 ?_ | refine H4 ?_ | refine oN ?_ | refine nQ ?_ | refine F9 ?_ | refine I0 ?_ | refine I9 ?_ | refine Af ?_ | refine BL ?_ | refine O0 ?_ | refine O1 ?_ | refine O2 ?_ | refine O3 rfl ?_))
   (first | refine N3 Tryz.results179 rfl ?_ | refine r0s Tryz.results179 rfl ?_ | refine r0r Tryz.results179 rfl rfl ?_ | refine n0T Tryz.results179 rfl (by assumption) rfl rfl ?_ | refine r0q Tryz.results179 rfl (by assumption) rfl ?_)
   exact⟨_,rfl,by decide,b⟩
 · (repeat (first | refine F4 rfl rfl ?_ | refine p5 ?_ | refine H4 ?_ | refine oN ?_ | refine nQ ?_ | refine F9 ?_ | refine I0 ?_ | refine I9 ?_ | refine Af ?_ | refine BL ?_ | refine O0 ?_ | refine O1 ?_ | refine O2 ?_ | refine O3 rfl ?_))
   have r:0<k:=by simp at d; omega
   refine Bc (fun s:Int×ByteArray=>(3,.string s.2) :: (0,.int .i64 s.1) :: []) (fun s w'=>0<=s.1/\s.1<=9223372036854775807/\s.1*(10:Int) ^ s.2.size<=9223372036854775807/\(s.1=0->s.2.size<=19)/\Below w.heap.size w w') (fun s=>s.1.toNat) (k,⟨#[]⟩) ⟨by omega,j.2,by show k*(10:Int) ^ 0<=_; rw[Int.pow_zero,Int.mul_one]; exact j.2,fun _=>Nat.zero_le _,b⟩ (by ((repeat (refine D3 rfl ?_)); exact D4)) ?_;rintro⟨m,s⟩ t ⟨e,i,l,h,b⟩;dsimp only at e i l h
   (repeat (first | refine F4 rfl rfl ?_ | refine p5 ?_ | refine H4 ?_ | refine oN ?_ | refine nQ ?_ | refine F9 ?_ | refine I0 ?_ | refine I9 ?_ | refine Af ?_ | refine BL ?_ | refine O0 ?_ | refine O1 ?_ | refine O2 ?_ | refine O3 rfl ?_))
   refine U3 rfl (fun d=>?_) (fun d=>?_)
   ·have f:0<m:=by simpa using d
    obtain⟨y,n⟩:=y0q f l
    (repeat (first | refine F4 rfl rfl ?_ | refine p5 ?_ | refine H4 ?_ | refine oN ?_ | refine nQ ?_ | refine F9 ?_ | refine I0 ?_ | refine I9 ?_ | refine Af ?_ | refine BL ?_ | refine O0 ?_ | refine O1 ?_ | refine O2 ?_ | refine O3 rfl ?_))
    have z:=Int.tmod_nonneg 10 e;have E:=Int.tmod_lt_of_pos m (show(0:Int)<10 by decide);have v:0<=m.tdiv 10:=Int.tdiv_nonneg e (by decide);have G:m.tdiv 10<m:=by
     rw[Int.tdiv_eq_ediv_of_nonneg e];omega
    refine F5 _ (Rf (a:=m) rfl rfl (show(10:Int)≠0 by decide)) rfl ?_;refine F5 _ (Kb rfl rfl (by omega)) rfl ?_;refine F5 _ (o0S rfl) rfl ?_
    (refine l0w rfl rfl rfl rfl rfl ?_; intro F t g u; have q:=g.eq; have q:=g.size; have o:=g.ext; replace b:=b.trans (o.mono b.size))
    refine F5 _ (k0M (ms:=[((48:Int)+m.tmod 10) % 256]) rfl rfl u.at) rfl ?_;have hz:(strOfNums [((48:Int)+m.tmod 10) % 256]).size=1:=rfl;generalize strOfNums [((48:Int)+m.tmod 10) % 256]=c at hz
    (repeat (first | refine F4 rfl rfl ?_ | refine p5 ?_ | refine H4 ?_ | refine oN ?_ | refine nQ ?_ | refine F9 ?_ | refine I0 ?_ | refine I9 ?_ | refine Af ?_ | refine BL ?_ | refine O0 ?_ | refine O1 ?_ | refine O2 ?_ | refine O3 rfl ?_))
    refine F5 _ (VA rfl rfl (by show c.size+s.size<=_; omega)) rfl ?_
    (repeat (first | refine F4 rfl rfl ?_ | refine p5 ?_ | refine H4 ?_ | refine oN ?_ | refine nQ ?_ | refine F9 ?_ | refine I0 ?_ | refine I9 ?_ | refine Af ?_ | refine BL ?_ | refine O0 ?_ | refine O1 ?_ | refine O2 ?_ | refine O3 rfl ?_))
    refine F5 _ (q0x rfl rfl ⟨by omega,i⟩ (show(0:Int)<10 by decide)) rfl ?_
    (repeat (first | refine F4 rfl rfl ?_ | refine p5 ?_ | refine H4 ?_ | refine oN ?_ | refine nQ ?_ | refine F9 ?_ | refine I0 ?_ | refine I9 ?_ | refine Af ?_ | refine BL ?_ | refine O0 ?_ | refine O1 ?_ | refine O2 ?_ | refine O3 rfl ?_))
    refine Bd (m.tdiv 10,c++s) ⟨v,by show m.tdiv 10<=_; omega,?_,?_,b⟩ (by show(m.tdiv 10).toNat<m.toNat; omega) (by ((repeat (refine D3 rfl ?_)); exact D4))
    ·show m.tdiv 10*(10:Int) ^ (c++s).size<=_;rw[ByteArray.size_append,hz,Nat.add_comm];exact n
    ·intro _;show(c++s).size<=19;rw[ByteArray.size_append,hz];omega
   ·have f:m=0:=by
     have:¬(0<m):=by simpa using d
     omega
    have x:=h f
    (repeat (first | refine F4 rfl rfl ?_ | refine p5 ?_ | refine H4 ?_ | refine oN ?_ | refine nQ ?_ | refine F9 ?_ | refine I0 ?_ | refine I9 ?_ | refine Af ?_ | refine BL ?_ | refine O0 ?_ | refine O1 ?_ | refine O2 ?_ | refine O3 rfl ?_))
    refine F5 _ (VA rfl rfl (by show(ByteArray.mk #[109]).size+s.size<=_; have:(ByteArray.mk #[109]).size=1:=rfl; omega)) rfl ?_
    (repeat (first | refine F4 rfl rfl ?_ | refine p5 ?_ | refine H4 ?_ | refine oN ?_ | refine nQ ?_ | refine F9 ?_ | refine I0 ?_ | refine I9 ?_ | refine Af ?_ | refine BL ?_ | refine O0 ?_ | refine O1 ?_ | refine O2 ?_ | refine O3 rfl ?_))
    (first | refine N3 Tryz.results179 rfl ?_ | refine r0s Tryz.results179 rfl ?_ | refine r0r Tryz.results179 rfl rfl ?_ | refine n0T Tryz.results179 rfl (by assumption) rfl rfl ?_ | refine r0q Tryz.results179 rfl (by assumption) rfl ?_)
    refine⟨_,rfl,?_,b⟩;show(ByteArray.mk #[109]++s).size<=_;rw[ByteArray.size_append];have:(ByteArray.mk #[109]).size=1:=rfl;omega
theorem tC:TxC Tryz.prog 179:=fun _ _ h=>M0r h
set_option maxHeartbeats 2000000 in
theorem Ds:CE Tryz.prog 28 (.sl (.int .i64)):=by
 intro F w u x k Q z h0 Y;have l:=z;obtain⟨p,m,v,t,s,_⟩:=l;simp only[List.cons.injEq,and_true] at v;subst v;have f:=CF (.int .i64) x;refine U0 Tryz.func28 Tryz.ntmps28 rfl rfl ?_;refine ra ?_;refine pu ?_;refine oN (nQ (p5 (ra ?_)));refine pu ?_;refine oN (nQ (I0 ?_));refine Bc (fun i:Nat=>(1,.int .i64 (k+(A8 (.int .i64) x i:Int))) :: (5,.int .i64 (i:Int)) :: (0,.slice p x.length m) :: []) (fun i G=>i<=x.length/\WM F w G) (fun i=>x.length-i) 0 ⟨Nat.zero_le _,WM.refl F w⟩ (by rw[Dt]; simp only[Int.natCast_zero,Int.add_zero]; ((repeat (refine D3 rfl ?_)); exact D4)) ?_;rintro i X ⟨hi,g⟩;have P:=N4 (.int .i64) x i hi;refine p5 (ra ?_);refine pu ?_;refine pu ?_;refine F5 _ (Be rfl) rfl ?_;refine pu ?_;refine oN (nQ ?_);refine U3 rfl (fun j=>?_) (fun j=>?_)
 ·have a:i<x.length:=by simpa using j
  obtain⟨_,b,o,c,rfl,E,H,n,q⟩:=SH.get z a;have d:=CG (e:=(.int .i64)) (xs:=x) a;have r:=N4 (.int .i64) x (i+1) (by omega);generalize x[i]=y at q d;obtain⟨z0,rfl,_,_⟩:=q;have T:l8 (.int .i64) y=1:=rfl;refine F9 (nQ (p5 (I0 ?_)));refine ra ?_;refine pu ?_;refine pu ?_;refine pu ?_;refine im a ?_;refine si g E H (n 0 _ rfl) fun W g=>?_;refine rc ?_;refine pu ?_;refine ad ?_;refine pu ?_;refine CH ?_;refine pu ?_;refine ad ?_;refine pu ?_;refine oN ?_;have V:k+((A8 (.int .i64) x (i+1):Nat):Int)=((k+(A8 (.int .i64) x i:Int))+1):=by rw[d,T]; omega
  refine Bd (i+1) ⟨by omega,g⟩ (by omega) (by rw[V,Int.natCast_succ]; ((repeat (refine D3 rfl ?_)); exact D4))
 ·have h:i=x.length:=by
   have:¬i<x.length:=by simpa using j
   omega
  subst h;refine O0 (O1 (O2 (O3 rfl (nQ (ra ?_)))));refine pu ?_;refine pu ?_;refine oN (nQ (I9 ?_));refine N3 Tryz.results28 rfl ?_;rw[f];exact⟨rfl,g⟩
set_option maxHeartbeats 2000000 in
theorem O0a:CE Tryz.prog 222 (.sl y269):=by
 intro F w u x k f T h0 hk;have q:=T;obtain⟨p,r,Q,H,G,_⟩:=q;simp only[List.cons.injEq,and_true] at Q;subst Q;have j:=CF y269 x;refine U0 Tryz.func222 Tryz.ntmps222 rfl rfl ?_;refine ra ?_;refine pu ?_;refine oN (nQ (p5 (ra ?_)));refine pu ?_;refine oN (nQ (I0 ?_));refine Bc (fun i:Nat=>(1,.int .i64 (k+(A8 y269 x i:Int))) :: (5,.int .i64 (i:Int)) :: (0,.slice p x.length r) :: []) (fun i X=>i<=x.length/\WM F w X) (fun i=>x.length-i) 0 ⟨Nat.zero_le _,WM.refl F w⟩ (by rw[Dt]; simp only[Int.natCast_zero,Int.add_zero]; ((repeat (refine D3 rfl ?_)); exact D4)) ?_;rintro i w1 ⟨hi,d⟩;have Y:=N4 y269 x i hi;refine p5 (ra ?_);refine pu ?_;refine pu ?_;refine F5 _ (Be rfl) rfl ?_;refine pu ?_;refine oN (nQ ?_);refine U3 rfl (fun n=>?_) (fun n=>?_)
 ·have a:i<x.length:=by simpa using n
  obtain⟨_,b,o,c,rfl,l,hU,g,s⟩:=SH.get T a;have h:=CG (e:=y269) (xs:=x) a;have z:=N4 y269 x (i+1) (by omega);generalize x[i]=y at s h;obtain⟨_,_,rfl,E,⟨_,_,rfl,v,t⟩⟩:=s;have r0:=E;obtain⟨_,_,rfl,_⟩:=r0;have V:=v;obtain⟨_,_,rfl,_⟩:=V;have W:=t;obtain⟨_,_,rfl,_⟩:=W;have hy:l8 y269 y=(l8 (.sl (.int .i64)) y.1+(l8 (.sl (.int .i64)) y.2.1+l8 (.sl (.int .i64)) y.2.2)):=rfl;refine F9 (nQ (p5 (I0 ?_)));refine ra ?_;refine pu ?_;refine pu ?_;refine im a ?_;refine fm ?_;refine lm d l (g 0 _ rfl) ?_;refine pu ?_;refine mc Ds f d E fun P d _=>?_;refine pu ?_;refine rb ?_;refine pu ?_;refine pu ?_;refine im a ?_;refine fm ?_;refine lm d l (g 1 _ rfl) ?_;refine pu ?_;refine mc Ds f d v fun P d _=>?_;refine pu ?_;refine rc ?_;refine pu ?_;refine pu ?_;refine im a ?_;refine fm ?_;refine lm d l (g 2 _ rfl) ?_;refine pu ?_;refine mc Ds f d t fun P d _=>?_;refine pu ?_;refine CH ?_;refine pu ?_;refine ad ?_;refine pu ?_;refine oN ?_;have he:k+((A8 y269 x (i+1):Nat):Int)=((((k+(A8 y269 x i:Int))+(l8 (.sl (.int .i64)) y.1:Int))+(l8 (.sl (.int .i64)) y.2.1:Int))+(l8 (.sl (.int .i64)) y.2.2:Int)):=by rw[h,hy]; omega
  refine Bd (i+1) ⟨by omega,d⟩ (by omega) (by rw[he,Int.natCast_succ]; ((repeat (refine D3 rfl ?_)); exact D4))
 ·have m:i=x.length:=by
   have:¬i<x.length:=by simpa using n
   omega
  subst m;refine O0 (O1 (O2 (O3 rfl (nQ (ra ?_)))));refine pu ?_;refine pu ?_;refine oN (nQ (I9 ?_));refine N3 Tryz.results222 rfl ?_;rw[j];exact⟨rfl,d⟩
set_option maxHeartbeats 2000000 in
theorem R0f:CE Tryz.prog 181 (.sl y158):=by
 intro F w u x k l T h0 hk;have s:=T;obtain⟨p,t,P,G,E,_⟩:=s;simp only[List.cons.injEq,and_true] at P;subst P;have m:=CF y158 x;refine U0 Tryz.func181 Tryz.ntmps181 rfl rfl ?_;refine ra ?_;refine pu ?_;refine oN (nQ (p5 (ra ?_)));refine pu ?_;refine oN (nQ (I0 ?_));refine Bc (fun i:Nat=>(1,.int .i64 (k+(A8 y158 x i:Int))) :: (5,.int .i64 (i:Int)) :: (0,.slice p x.length t) :: []) (fun i W=>i<=x.length/\WM F w W) (fun i=>x.length-i) 0 ⟨Nat.zero_le _,WM.refl F w⟩ (by rw[Dt]; simp only[Int.natCast_zero,Int.add_zero]; ((repeat (refine D3 rfl ?_)); exact D4)) ?_;rintro i w1 ⟨hi,d⟩;have X:=N4 y158 x i hi;refine p5 (ra ?_);refine pu ?_;refine pu ?_;refine F5 _ (Be rfl) rfl ?_;refine pu ?_;refine oN (nQ ?_);refine U3 rfl (fun r=>?_) (fun r=>?_)
 ·have a:i<x.length:=by simpa using r
  obtain⟨_,b,o,c,rfl,g,n,f,v⟩:=SH.get T a;have j:=CG (e:=y158) (xs:=x) a;have z:=N4 y158 x (i+1) (by omega);generalize x[i]=y at v j;obtain⟨_,_,rfl,⟨z0,rfl,_,_⟩,⟨_,_,rfl,⟨z1,rfl,_,_⟩,⟨_,_,rfl,⟨z2,rfl,_,_⟩,⟨_,_,rfl,⟨z3,rfl,_,_⟩,⟨_,_,rfl,Q,H⟩⟩⟩⟩⟩:=v;have V:=Q;obtain⟨_,_,rfl,_⟩:=V;have r5:=H;obtain⟨_,_,rfl,_⟩:=r5;have Y:l8 y158 y=(1+(1+(1+(1+(l8 (.sl y269) y.2.2.2.2.1+l8 (.sl y269) y.2.2.2.2.2))))):=rfl;refine F9 (nQ (p5 (I0 ?_)));refine ra ?_;refine pu ?_;refine pu ?_;refine pu ?_;refine im a ?_;refine fm ?_;refine si d g n (f 0 _ rfl) fun h d=>?_;refine rb ?_;refine pu ?_;refine ad ?_;refine pu ?_;refine rb ?_;refine pu ?_;refine pu ?_;refine pu ?_;refine im a ?_;refine fm ?_;refine si d g n (f 1 _ rfl) fun h d=>?_;refine rb ?_;refine pu ?_;refine ad ?_;refine pu ?_;refine rb ?_;refine pu ?_;refine pu ?_;refine pu ?_;refine im a ?_;refine fm ?_;refine si d g n (f 2 _ rfl) fun h d=>?_;refine rb ?_;refine pu ?_;refine ad ?_;refine pu ?_;refine rb ?_;refine pu ?_;refine pu ?_;refine pu ?_;refine im a ?_;refine fm ?_;refine si d g n (f 3 _ rfl) fun h d=>?_;refine rb ?_;refine pu ?_;refine ad ?_;refine pu ?_;refine rb ?_;refine pu ?_;refine pu ?_;refine im a ?_;refine fm ?_;refine lm d g (f 4 _ rfl) ?_;refine pu ?_;refine mc O0a l d Q fun h d _=>?_;refine pu ?_;refine rc ?_;refine pu ?_;refine pu ?_;refine im a ?_;refine fm ?_;refine lm d g (f 5 _ rfl) ?_;refine pu ?_;refine mc O0a l d H fun h d _=>?_;refine pu ?_;refine CH ?_;refine pu ?_;refine ad ?_;refine pu ?_;refine oN ?_;have he:k+((A8 y158 x (i+1):Nat):Int)=(((((((k+(A8 y158 x i:Int))+1)+1)+1)+1)+(l8 (.sl y269) y.2.2.2.2.1:Int))+(l8 (.sl y269) y.2.2.2.2.2:Int)):=by rw[j,Y]; omega
  refine Bd (i+1) ⟨by omega,d⟩ (by omega) (by rw[he,Int.natCast_succ]; ((repeat (refine D3 rfl ?_)); exact D4))
 ·have q:i=x.length:=by
   have:¬i<x.length:=by simpa using r
   omega
  subst q;refine O0 (O1 (O2 (O3 rfl (nQ (ra ?_)))));refine pu ?_;refine pu ?_;refine oN (nQ (I9 ?_));refine N3 Tryz.results181 rfl ?_;rw[m];exact⟨rfl,d⟩
set_option maxHeartbeats 2000000 in
theorem R0g:CE Tryz.prog 180 (.sl y293):=by
 intro F w u x k V P h0 hk;have r:=P;obtain⟨p,t,H,G,E,_⟩:=r;simp only[List.cons.injEq,and_true] at H;subst H;have h:=CF y293 x;refine U0 Tryz.func180 Tryz.ntmps180 rfl rfl ?_;refine ra ?_;refine pu ?_;refine oN (nQ (p5 (ra ?_)));refine pu ?_;refine oN (nQ (I0 ?_));refine Bc (fun i:Nat=>(1,.int .i64 (k+(A8 y293 x i:Int))) :: (5,.int .i64 (i:Int)) :: (0,.slice p x.length t) :: []) (fun i Q=>i<=x.length/\WM F w Q) (fun i=>x.length-i) 0 ⟨Nat.zero_le _,WM.refl F w⟩ (by rw[Dt]; simp only[Int.natCast_zero,Int.add_zero]; ((repeat (refine D3 rfl ?_)); exact D4)) ?_;rintro i w1 ⟨hi,d⟩;have T:=N4 y293 x i hi;refine p5 (ra ?_);refine pu ?_;refine pu ?_;refine F5 _ (Be rfl) rfl ?_;refine pu ?_;refine oN (nQ ?_);refine U3 rfl (fun q=>?_) (fun q=>?_)
 ·have a:i<x.length:=by simpa using q
  obtain⟨_,b,o,c,rfl,j,l,f,v⟩:=SH.get P a;have g:=CG (e:=y293) (xs:=x) a;have z:=N4 y293 x (i+1) (by omega);generalize x[i]=y at v g;obtain⟨_,_,rfl,⟨z0,rfl,_⟩,⟨_,_,rfl,⟨Y,rfl,_,_⟩,⟨_,_,rfl,⟨z2,rfl,_,_⟩,⟨z3,rfl⟩⟩⟩⟩:=v;have W:l8 y293 y=(1+(1+(1+1))):=rfl;refine F9 (nQ (p5 (I0 ?_)));refine ra ?_;refine pu ?_;refine pu ?_;refine pu ?_;refine NV tC d fun m s1 s d=>?_;refine im a ?_;refine fm ?_;refine ss d j l (f 0 _ rfl) s fun m d=>?_;refine rb ?_;refine pu ?_;refine ad ?_;refine pu ?_;refine rb ?_;refine pu ?_;refine pu ?_;refine pu ?_;refine im a ?_;refine fm ?_;refine si d j l (f 1 _ rfl) fun m d=>?_;refine rb ?_;refine pu ?_;refine ad ?_;refine pu ?_;refine rb ?_;refine pu ?_;refine pu ?_;refine pu ?_;refine im a ?_;refine fm ?_;refine si d j l (f 2 _ rfl) fun m d=>?_;refine rb ?_;refine pu ?_;refine ad ?_;refine pu ?_;refine rb ?_;refine pu ?_;refine pu ?_;refine pu ?_;refine F5 _ (Rf rfl rfl (show(3:Int)≠0 by decide)) rfl ?_;refine pu ?_;refine im a ?_;refine fm ?_;refine sb d j l (f 3 _ rfl) fun m d=>?_;refine rc ?_;refine pu ?_;refine ad ?_;refine pu ?_;refine CH ?_;refine pu ?_;refine ad ?_;refine pu ?_;refine oN ?_;have X:k+((A8 y293 x (i+1):Nat):Int)=(((((k+(A8 y293 x i:Int))+1)+1)+1)+1):=by rw[g,W]; omega
  refine Bd (i+1) ⟨by omega,d⟩ (by omega) (by rw[X,Int.natCast_succ]; ((repeat (refine D3 rfl ?_)); exact D4))
 ·have n:i=x.length:=by
   have:¬i<x.length:=by simpa using q
   omega
  subst n;refine O0 (O1 (O2 (O3 rfl (nQ (ra ?_)))));refine pu ?_;refine pu ?_;refine oN (nQ (I9 ?_));refine N3 Tryz.results180 rfl ?_;rw[h];exact⟨rfl,d⟩
set_option maxHeartbeats 2000000 in
theorem R0i:CE Tryz.prog 131 (.sl .str):=by
 intro F w u x k V E h0 hk;have l:=E;obtain⟨p,n,z,v,t,_⟩:=l;simp only[List.cons.injEq,and_true] at z;subst z;have g:=CF .str x;refine U0 Tryz.func131 Tryz.ntmps131 rfl rfl ?_;refine ra ?_;refine pu ?_;refine oN (nQ (p5 (ra ?_)));refine pu ?_;refine oN (nQ (I0 ?_));refine Bc (fun i:Nat=>(1,.int .i64 (k+(A8 .str x i:Int))) :: (5,.int .i64 (i:Int)) :: (0,.slice p x.length n) :: []) (fun i H=>i<=x.length/\WM F w H) (fun i=>x.length-i) 0 ⟨Nat.zero_le _,WM.refl F w⟩ (by rw[Dt]; simp only[Int.natCast_zero,Int.add_zero]; ((repeat (refine D3 rfl ?_)); exact D4)) ?_;rintro i w1 ⟨hi,d⟩;have T:=N4 .str x i hi;refine p5 (ra ?_);refine pu ?_;refine pu ?_;refine F5 _ (Be rfl) rfl ?_;refine pu ?_;refine oN (nQ ?_);refine U3 rfl (fun j=>?_) (fun j=>?_)
 ·have a:i<x.length:=by simpa using j
  obtain⟨_,b,o,c,rfl,G,P,q,r⟩:=SH.get E a;have f:=CG (e:=.str) (xs:=x) a;have s:=N4 .str x (i+1) (by omega);generalize x[i]=y at r f;obtain⟨z0,rfl,_⟩:=r;have W:l8 .str y=1:=rfl;refine F9 (nQ (p5 (I0 ?_)));refine ra ?_;refine pu ?_;refine pu ?_;refine pu ?_;refine NV tC d fun Q Y m d=>?_;refine im a ?_;refine ss d G P (q 0 _ rfl) m fun Q d=>?_;refine rc ?_;refine pu ?_;refine ad ?_;refine pu ?_;refine CH ?_;refine pu ?_;refine ad ?_;refine pu ?_;refine oN ?_;have X:k+((A8 .str x (i+1):Nat):Int)=((k+(A8 .str x i:Int))+1):=by rw[f,W]; omega
  refine Bd (i+1) ⟨by omega,d⟩ (by omega) (by rw[X,Int.natCast_succ]; ((repeat (refine D3 rfl ?_)); exact D4))
 ·have h:i=x.length:=by
   have:¬i<x.length:=by simpa using j
   omega
  subst h;refine O0 (O1 (O2 (O3 rfl (nQ (ra ?_)))));refine pu ?_;refine pu ?_;refine oN (nQ (I9 ?_));refine N3 Tryz.results131 rfl ?_;rw[g];exact⟨rfl,d⟩
set_option maxHeartbeats 2000000 in
theorem R0h:CE Tryz.prog 132 (.sl y231):=by
 intro F w u x k V P h0 hk;have r:=P;obtain⟨p,t,H,G,E,_⟩:=r;simp only[List.cons.injEq,and_true] at H;subst H;have h:=CF y231 x;refine U0 Tryz.func132 Tryz.ntmps132 rfl rfl ?_;refine ra ?_;refine pu ?_;refine oN (nQ (p5 (ra ?_)));refine pu ?_;refine oN (nQ (I0 ?_));refine Bc (fun i:Nat=>(1,.int .i64 (k+(A8 y231 x i:Int))) :: (5,.int .i64 (i:Int)) :: (0,.slice p x.length t) :: []) (fun i Q=>i<=x.length/\WM F w Q) (fun i=>x.length-i) 0 ⟨Nat.zero_le _,WM.refl F w⟩ (by rw[Dt]; simp only[Int.natCast_zero,Int.add_zero]; ((repeat (refine D3 rfl ?_)); exact D4)) ?_;rintro i w1 ⟨hi,d⟩;have T:=N4 y231 x i hi;refine p5 (ra ?_);refine pu ?_;refine pu ?_;refine F5 _ (Be rfl) rfl ?_;refine pu ?_;refine oN (nQ ?_);refine U3 rfl (fun q=>?_) (fun q=>?_)
 ·have a:i<x.length:=by simpa using q
  obtain⟨_,b,o,c,rfl,j,m,f,v⟩:=SH.get P a;have g:=CG (e:=y231) (xs:=x) a;have z:=N4 y231 x (i+1) (by omega);generalize x[i]=y at v g;obtain⟨_,_,rfl,⟨z0,rfl,_⟩,⟨_,_,rfl,⟨Y,rfl,_,_⟩,⟨z2,rfl,_,_⟩⟩⟩:=v;have W:l8 y231 y=(1+(1+1)):=rfl;refine F9 (nQ (p5 (I0 ?_)));refine ra ?_;refine pu ?_;refine pu ?_;refine pu ?_;refine NV tC d fun n s1 s d=>?_;refine im a ?_;refine fm ?_;refine ss d j m (f 0 _ rfl) s fun n d=>?_;refine rb ?_;refine pu ?_;refine ad ?_;refine pu ?_;refine rb ?_;refine pu ?_;refine pu ?_;refine pu ?_;refine im a ?_;refine fm ?_;refine si d j m (f 1 _ rfl) fun n d=>?_;refine rb ?_;refine pu ?_;refine ad ?_;refine pu ?_;refine rb ?_;refine pu ?_;refine pu ?_;refine pu ?_;refine im a ?_;refine fm ?_;refine si d j m (f 2 _ rfl) fun n d=>?_;refine rc ?_;refine pu ?_;refine ad ?_;refine pu ?_;refine CH ?_;refine pu ?_;refine ad ?_;refine pu ?_;refine oN ?_;have X:k+((A8 y231 x (i+1):Nat):Int)=((((k+(A8 y231 x i:Int))+1)+1)+1):=by rw[g,W]; omega
  refine Bd (i+1) ⟨by omega,d⟩ (by omega) (by rw[X,Int.natCast_succ]; ((repeat (refine D3 rfl ?_)); exact D4))
 ·have l:i=x.length:=by
   have:¬i<x.length:=by simpa using q
   omega
  subst l;refine O0 (O1 (O2 (O3 rfl (nQ (ra ?_)))));refine pu ?_;refine pu ?_;refine oN (nQ (I9 ?_));refine N3 Tryz.results132 rfl ?_;rw[h];exact⟨rfl,d⟩
set_option maxHeartbeats 2000000 in
theorem R0j:CE Tryz.prog 130 (.sl y155):=by
 intro F w u x k r T h0 hk;have q:=T;obtain⟨p,t,Q,H,G,_⟩:=q;simp only[List.cons.injEq,and_true] at Q;subst Q;have h:=CF y155 x;refine U0 Tryz.func130 Tryz.ntmps130 rfl rfl ?_;refine ra ?_;refine pu ?_;refine oN (nQ (p5 (ra ?_)));refine pu ?_;refine oN (nQ (I0 ?_));refine Bc (fun i:Nat=>(1,.int .i64 (k+(A8 y155 x i:Int))) :: (5,.int .i64 (i:Int)) :: (0,.slice p x.length t) :: []) (fun i W=>i<=x.length/\WM F w W) (fun i=>x.length-i) 0 ⟨Nat.zero_le _,WM.refl F w⟩ (by rw[Dt]; simp only[Int.natCast_zero,Int.add_zero]; ((repeat (refine D3 rfl ?_)); exact D4)) ?_;rintro i w1 ⟨hi,d⟩;have X:=N4 y155 x i hi;refine p5 (ra ?_);refine pu ?_;refine pu ?_;refine F5 _ (Be rfl) rfl ?_;refine pu ?_;refine oN (nQ ?_);refine U3 rfl (fun n=>?_) (fun n=>?_)
 ·have a:i<x.length:=by simpa using n
  obtain⟨_,b,o,c,rfl,j,P,f,v⟩:=SH.get T a;have g:=CG (e:=y155) (xs:=x) a;have E:=N4 y155 x (i+1) (by omega);generalize x[i]=y at v g;obtain⟨_,_,rfl,⟨z0,rfl,_⟩,⟨_,_,rfl,⟨z1,rfl,_,_⟩,z⟩⟩:=v;have V:=z;obtain⟨_,_,rfl,_⟩:=V;have Y:l8 y155 y=(1+(1+l8 (.sl (.int .i64)) y.2.2)):=rfl;refine F9 (nQ (p5 (I0 ?_)));refine ra ?_;refine pu ?_;refine pu ?_;refine pu ?_;refine NV tC d fun m s1 s d=>?_;refine im a ?_;refine fm ?_;refine ss d j P (f 0 _ rfl) s fun m d=>?_;refine rb ?_;refine pu ?_;refine ad ?_;refine pu ?_;refine rb ?_;refine pu ?_;refine pu ?_;refine pu ?_;refine im a ?_;refine fm ?_;refine si d j P (f 1 _ rfl) fun m d=>?_;refine rb ?_;refine pu ?_;refine ad ?_;refine pu ?_;refine rc ?_;refine pu ?_;refine pu ?_;refine im a ?_;refine fm ?_;refine lm d j (f 2 _ rfl) ?_;refine pu ?_;refine mc Ds r d z fun m d _=>?_;refine pu ?_;refine CH ?_;refine pu ?_;refine ad ?_;refine pu ?_;refine oN ?_;have he:k+((A8 y155 x (i+1):Nat):Int)=((((k+(A8 y155 x i:Int))+1)+1)+(l8 (.sl (.int .i64)) y.2.2:Int)):=by rw[g,Y]; omega
  refine Bd (i+1) ⟨by omega,d⟩ (by omega) (by rw[he,Int.natCast_succ]; ((repeat (refine D3 rfl ?_)); exact D4))
 ·have l:i=x.length:=by
   have:¬i<x.length:=by simpa using n
   omega
  subst l;refine O0 (O1 (O2 (O3 rfl (nQ (ra ?_)))));refine pu ?_;refine pu ?_;refine oN (nQ (I9 ?_));refine N3 Tryz.results130 rfl ?_;rw[h];exact⟨rfl,d⟩
set_option maxHeartbeats 2000000 in
theorem R0k:CE Tryz.prog 129 (.sl y153):=by
 intro F w u x k j W h0 hk;have s:=W;obtain⟨p,v,Q,P,H,_⟩:=s;simp only[List.cons.injEq,and_true] at Q;subst Q;have m:=CF y153 x;refine U0 Tryz.func129 Tryz.ntmps129 rfl rfl ?_;refine ra ?_;refine pu ?_;refine oN (nQ (p5 (ra ?_)));refine pu ?_;refine oN (nQ (I0 ?_));refine Bc (fun i:Nat=>(1,.int .i64 (k+(A8 y153 x i:Int))) :: (5,.int .i64 (i:Int)) :: (0,.slice p x.length v) :: []) (fun i w'=>i<=x.length/\WM F w w') (fun i=>x.length-i) 0 ⟨Nat.zero_le _,WM.refl F w⟩ (by rw[Dt]; simp only[Int.natCast_zero,Int.add_zero]; ((repeat (refine D3 rfl ?_)); exact D4)) ?_;rintro i w1 ⟨hi,a⟩;have aA:=N4 y153 x i hi;refine p5 (ra ?_);refine pu ?_;refine pu ?_;refine F5 _ (Be rfl) rfl ?_;refine pu ?_;refine oN (nQ ?_);refine U3 rfl (fun r=>?_) (fun r=>?_)
 ·have d:i<x.length:=by simpa using r
  obtain⟨_,b,o,c,rfl,g,n,f,z⟩:=SH.get W d;have l:=CG (e:=y153) (xs:=x) d;have G:=N4 y153 x (i+1) (by omega);generalize x[i]=y at z l;obtain⟨_,_,rfl,⟨z0,rfl,_⟩,⟨_,_,rfl,⟨z1,rfl,_,_⟩,⟨_,_,rfl,E,⟨_,_,rfl,T,⟨_,_,rfl,V,⟨_,_,rfl,⟨z5,rfl,_,_⟩,⟨z6,rfl,_,_⟩⟩⟩⟩⟩⟩⟩:=z;have r2:=E;obtain⟨_,_,rfl,_⟩:=r2;have X:=T;obtain⟨_,_,rfl,_⟩:=X;have Y:=V;obtain⟨_,_,rfl,_⟩:=Y;have hy:l8 y153 y=(1+(1+(l8 (.sl y293) y.2.2.1+(l8 (.sl y158) y.2.2.2.1+(l8 (.sl (.int .i64)) y.2.2.2.2.1+(1+1)))))):=rfl;refine F9 (nQ (p5 (I0 ?_)));refine ra ?_;refine pu ?_;refine pu ?_;refine pu ?_;refine NV tC a fun h s1 t a=>?_;refine im d ?_;refine fm ?_;refine ss a g n (f 0 _ rfl) t fun h a=>?_;refine rb ?_;refine pu ?_;refine ad ?_;refine pu ?_;refine rb ?_;refine pu ?_;refine pu ?_;refine pu ?_;refine im d ?_;refine fm ?_;refine si a g n (f 1 _ rfl) fun h a=>?_;refine rb ?_;refine pu ?_;refine ad ?_;refine pu ?_;refine rb ?_;refine pu ?_;refine pu ?_;refine im d ?_;refine fm ?_;refine lm a g (f 2 _ rfl) ?_;refine pu ?_;refine mc R0g j a E fun h a _=>?_;refine pu ?_;refine rb ?_;refine pu ?_;refine pu ?_;refine im d ?_;refine fm ?_;refine lm a g (f 3 _ rfl) ?_;refine pu ?_;refine mc R0f j a T fun h a _=>?_;refine pu ?_;refine rb ?_;refine pu ?_;refine pu ?_;refine im d ?_;refine fm ?_;refine lm a g (f 4 _ rfl) ?_;refine pu ?_;refine mc Ds j a V fun h a _=>?_;refine pu ?_;refine rb ?_;refine pu ?_;refine pu ?_;refine pu ?_;refine im d ?_;refine fm ?_;refine si a g n (f 5 _ rfl) fun h a=>?_;refine rb ?_;refine pu ?_;refine ad ?_;refine pu ?_;refine rb ?_;refine pu ?_;refine pu ?_;refine pu ?_;refine im d ?_;refine fm ?_;refine si a g n (f 6 _ rfl) fun h a=>?_;refine rc ?_;refine pu ?_;refine ad ?_;refine pu ?_;refine CH ?_;refine pu ?_;refine ad ?_;refine pu ?_;refine oN ?_;have he:k+((A8 y153 x (i+1):Nat):Int)=((((((((k+(A8 y153 x i:Int))+1)+1)+(l8 (.sl y293) y.2.2.1:Int))+(l8 (.sl y158) y.2.2.2.1:Int))+(l8 (.sl (.int .i64)) y.2.2.2.2.1:Int))+1)+1):=by rw[l,hy]; omega
  refine Bd (i+1) ⟨by omega,a⟩ (by omega) (by rw[he,Int.natCast_succ]; ((repeat (refine D3 rfl ?_)); exact D4))
 ·have q:i=x.length:=by
   have:¬i<x.length:=by simpa using r
   omega
  subst q;refine O0 (O1 (O2 (O3 rfl (nQ (ra ?_)))));refine pu ?_;refine pu ?_;refine oN (nQ (I9 ?_));refine N3 Tryz.results129 rfl ?_;rw[m];exact⟨rfl,a⟩
set_option maxHeartbeats 2000000 in
theorem m72:CE Tryz.prog 72 (.sl y172):=by
 intro F w u x k f V h0 hk;have r:=V;obtain⟨p,s,Q,P,H,_⟩:=r;simp only[List.cons.injEq,and_true] at Q;subst Q;have j:=CF y172 x;refine U0 Tryz.func72 Tryz.ntmps72 rfl rfl ?_;refine ra ?_;refine pu ?_;refine oN (nQ (p5 (ra ?_)));refine pu ?_;refine oN (nQ (I0 ?_));refine Bc (fun i:Nat=>(1,.int .i64 (k+(A8 y172 x i:Int))) :: (5,.int .i64 (i:Int)) :: (0,.slice p x.length s) :: []) (fun i w'=>i<=x.length/\WM F w w') (fun i=>x.length-i) 0 ⟨Nat.zero_le _,WM.refl F w⟩ (by rw[Dt]; simp only[Int.natCast_zero,Int.add_zero]; ((repeat (refine D3 rfl ?_)); exact D4)) ?_;rintro i w1 ⟨hi,a⟩;have aA:=N4 y172 x i hi;refine p5 (ra ?_);refine pu ?_;refine pu ?_;refine F5 _ (Be rfl) rfl ?_;refine pu ?_;refine oN (nQ ?_);refine U3 rfl (fun q=>?_) (fun q=>?_)
 ·have d:i<x.length:=by simpa using q
  obtain⟨_,b,o,c,rfl,l,hU,g,t⟩:=SH.get V d;have h:=CG (e:=y172) (xs:=x) d;have E:=N4 y172 x (i+1) (by omega);generalize x[i]=y at t h;obtain⟨_,_,rfl,G,⟨_,_,rfl,z,⟨_,_,rfl,v,T⟩⟩⟩:=t;have r0:=G;obtain⟨_,_,rfl,_⟩:=r0;have X:=z;obtain⟨_,_,rfl,_⟩:=X;have Y:=v;obtain⟨_,_,rfl,_⟩:=Y;have W:=T;obtain⟨_,_,rfl,_⟩:=W;have hy:l8 y172 y=(l8 (.sl (.int .i64)) y.1+(l8 (.sl (.int .i64)) y.2.1+(l8 (.sl (.int .i64)) y.2.2.1+l8 (.sl (.int .i64)) y.2.2.2))):=rfl;refine F9 (nQ (p5 (I0 ?_)));refine ra ?_;refine pu ?_;refine pu ?_;refine im d ?_;refine fm ?_;refine lm a l (g 0 _ rfl) ?_;refine pu ?_;refine mc Ds f a G fun n a _=>?_;refine pu ?_;refine rb ?_;refine pu ?_;refine pu ?_;refine im d ?_;refine fm ?_;refine lm a l (g 1 _ rfl) ?_;refine pu ?_;refine mc Ds f a z fun n a _=>?_;refine pu ?_;refine rb ?_;refine pu ?_;refine pu ?_;refine im d ?_;refine fm ?_;refine lm a l (g 2 _ rfl) ?_;refine pu ?_;refine mc Ds f a v fun n a _=>?_;refine pu ?_;refine rc ?_;refine pu ?_;refine pu ?_;refine im d ?_;refine fm ?_;refine lm a l (g 3 _ rfl) ?_;refine pu ?_;refine mc Ds f a T fun n a _=>?_;refine pu ?_;refine CH ?_;refine pu ?_;refine ad ?_;refine pu ?_;refine oN ?_;have he:k+((A8 y172 x (i+1):Nat):Int)=(((((k+(A8 y172 x i:Int))+(l8 (.sl (.int .i64)) y.1:Int))+(l8 (.sl (.int .i64)) y.2.1:Int))+(l8 (.sl (.int .i64)) y.2.2.1:Int))+(l8 (.sl (.int .i64)) y.2.2.2:Int)):=by rw[h,hy]; omega
  refine Bd (i+1) ⟨by omega,a⟩ (by omega) (by rw[he,Int.natCast_succ]; ((repeat (refine D3 rfl ?_)); exact D4))
 ·have m:i=x.length:=by
   have:¬i<x.length:=by simpa using q
   omega
  subst m;refine O0 (O1 (O2 (O3 rfl (nQ (ra ?_)))));refine pu ?_;refine pu ?_;refine oN (nQ (I9 ?_));refine N3 Tryz.results72 rfl ?_;rw[j];exact⟨rfl,a⟩
set_option maxHeartbeats 2000000 in
theorem m70:Rg Tryz.prog 70 (.sl y153):=by
 intro F w s x k a l q n;have r:l8 (.sl y153) x=l8 (.sl y153) x:=rfl;have g:=l;have i:=g;obtain⟨_,_,rfl,_⟩:=i;refine U0 Tryz.func70 Tryz.ntmps70 rfl rfl ?_;refine p5 ?_;refine H4 ?_;refine Kc rfl rfl rfl ?_;intro b j d B;have c:WM F w j:=WM.of_ext d.ext;have f:¬F b:=by intro h; have m:=a b h; have t:=d.eq; have u:=d.size; omega
 refine pu ?_;refine oN ?_;refine nQ ?_;refine ra ?_;refine fm ?_;refine Gs rfl B rfl rfl ?_;refine pu ?_;refine mc R0k a c g fun o c e=>?_
 replace B:=Ib B e f
 refine pu ?_;refine oN (nQ ?_);refine p5 ?_;refine H4 ?_;refine pu ?_;refine pu ?_;refine oN ?_;refine nQ ?_;refine I9 ?_;refine N3 Tryz.results70 rfl ?_;refine⟨?_,c⟩;rw[show k+(l8 (.sl y153) x:Int)=(k+(l8 (.sl y153) x:Int)) by omega]
set_option maxHeartbeats 2000000 in
theorem m71:Rg Tryz.prog 71 y53:=by
 intro F w z x k c r y v;have s:l8 y53 x=(l8 (.sl y155) x.1+(l8 (.sl .str) x.2.1+l8 (.sl y231) x.2.2)):=rfl;obtain⟨_,_,rfl,i,⟨_,_,rfl,h,g⟩⟩:=r;have q:=i;obtain⟨_,_,rfl,_⟩:=q;have m:=h;obtain⟨_,_,rfl,_⟩:=m;have n:=g;obtain⟨_,_,rfl,_⟩:=n;refine U0 Tryz.func71 Tryz.ntmps71 rfl rfl ?_;refine p5 ?_;refine H4 ?_;refine Kc rfl rfl rfl ?_;intro b o f B;have d:WM F w o:=WM.of_ext f.ext;have e:¬F b:=by intro l; have u:=c b l; have t:=f.eq; have E:=f.size; omega
 refine pu ?_;refine oN ?_;refine nQ ?_;refine ra ?_;refine fm ?_;refine Gs rfl B rfl rfl ?_;refine pu ?_;refine mc R0j c d i fun j d a=>?_
 replace B:=Ib B a e
 refine pu ?_;refine oN (nQ ?_);refine ra ?_;refine fm ?_;refine Gs rfl B rfl rfl ?_;refine pu ?_;refine mc R0i c d h fun j d a=>?_
 replace B:=Ib B a e
 refine pu ?_;refine oN (nQ ?_);refine ra ?_;refine fm ?_;refine Gs rfl B rfl rfl ?_;refine pu ?_;refine mc R0h c d g fun j d a=>?_
 replace B:=Ib B a e
 refine pu ?_;refine oN (nQ ?_);refine p5 ?_;refine H4 ?_;refine pu ?_;refine pu ?_;refine oN ?_;refine nQ ?_;refine I9 ?_;refine N3 Tryz.results71 rfl ?_;refine⟨?_,d⟩;rw[show k+(l8 y53 x:Int)=(((k+(l8 (.sl y155) x.1:Int))+(l8 (.sl .str) x.2.1:Int))+(l8 (.sl y231) x.2.2:Int)) by omega]
set_option maxHeartbeats 2000000 in
theorem m27:Rg Tryz.prog 27 j3:=by
 intro F w cs x k d G W V;have P:l8 j3 x=(l8 (.sl y153) x.1+((l8 (.sl y155) x.2.1.1+(l8 (.sl .str) x.2.1.2.1+l8 (.sl y231) x.2.1.2.2))+l8 (.sl y172) x.2.2)):=rfl;obtain⟨_,_,rfl,j,⟨_,_,rfl,⟨_,_,rfl,i,⟨_,_,rfl,h,m⟩⟩,n⟩⟩:=G;have E:=j;obtain⟨_,_,rfl,_⟩:=E;have t:=i;obtain⟨_,_,rfl,_⟩:=t;have u:=h;obtain⟨_,_,rfl,_⟩:=u;have q:=m;obtain⟨_,_,rfl,_⟩:=q;have s:=n;obtain⟨_,_,rfl,_⟩:=s;refine U0 Tryz.func27 Tryz.ntmps27 rfl rfl ?_;refine p5 ?_;refine H4 ?_;refine Kc rfl rfl rfl ?_;intro b v g B;have e:WM F w v:=WM.of_ext g.ext;have f:¬F b:=by intro o; have T:=d b o; have Q:=g.eq; have X:=g.size; omega
 refine pu ?_;refine oN ?_;refine nQ ?_;refine ra ?_;refine fm ?_;refine m0r (cs:=[_]) rfl (B.at.mid (pre:=[]) (c:=[_]) (post:=[_,_,_,_])) rfl rfl ?_;refine pu ?_;have y:SH F w (.sl y153) [_] x.1:=j;have r:l8 (.sl y153) x.1=l8 (.sl y153) x.1:=rfl;refine ma m70 d e y fun l e a=>?_
 replace B:=Ib B a f
 refine pu ?_;refine oN (nQ ?_);refine ra ?_;refine fm ?_;refine m0r (cs:=[_,_,_]) rfl (B.at.mid (pre:=[_]) (c:=[_,_,_]) (post:=[_])) rfl rfl ?_;refine pu ?_;have H:SH F w y53 [_,_,_] x.2.1:=⟨_,_,rfl,i,⟨_,_,rfl,h,m⟩⟩;have z:l8 y53 x.2.1=(l8 (.sl y155) x.2.1.1+(l8 (.sl .str) x.2.1.2.1+l8 (.sl y231) x.2.1.2.2)):=rfl;refine ma m71 d e H fun l e a=>?_
 replace B:=Ib B a f
 refine pu ?_;refine oN (nQ ?_);refine ra ?_;refine fm ?_;refine Gs rfl B rfl rfl ?_;refine pu ?_;refine mc m72 d e n fun l e a=>?_
 replace B:=Ib B a f
 refine pu ?_;refine oN (nQ ?_);refine p5 ?_;refine H4 ?_;refine pu ?_;refine pu ?_;refine oN ?_;refine nQ ?_;refine I9 ?_;refine N3 Tryz.results27 rfl ?_;refine⟨?_,e⟩;rw[show k+(l8 j3 x:Int)=(((k+(l8 (.sl y153) x.1:Int))+(l8 y53 x.2.1:Int))+(l8 (.sl y172) x.2.2:Int)) by omega]
set_option maxHeartbeats 2000000 in
theorem m29:CE Tryz.prog 29 (.sl y75):=by
 intro F w u x k T H h0 hk;have r:=H;obtain⟨p,s,G,E,z,_⟩:=r;simp only[List.cons.injEq,and_true] at G;subst G;have l:=CF y75 x;refine U0 Tryz.func29 Tryz.ntmps29 rfl rfl ?_;refine ra ?_;refine pu ?_;refine oN (nQ (p5 (ra ?_)));refine pu ?_;refine oN (nQ (I0 ?_));refine Bc (fun i:Nat=>(1,.int .i64 (k+(A8 y75 x i:Int))) :: (5,.int .i64 (i:Int)) :: (0,.slice p x.length s) :: []) (fun i P=>i<=x.length/\WM F w P) (fun i=>x.length-i) 0 ⟨Nat.zero_le _,WM.refl F w⟩ (by rw[Dt]; simp only[Int.natCast_zero,Int.add_zero]; ((repeat (refine D3 rfl ?_)); exact D4)) ?_;rintro i w1 ⟨hi,d⟩;have Q:=N4 y75 x i hi;refine p5 (ra ?_);refine pu ?_;refine pu ?_;refine F5 _ (Be rfl) rfl ?_;refine pu ?_;refine oN (nQ ?_);refine U3 rfl (fun q=>?_) (fun q=>?_)
 ·have a:i<x.length:=by simpa using q
  obtain⟨_,b,o,c,rfl,g,h,f,t⟩:=SH.get H a;have j:=CG (e:=y75) (xs:=x) a;have v:=N4 y75 x (i+1) (by omega);generalize x[i]=y at t j;obtain⟨_,_,rfl,⟨z0,rfl,_,_⟩,⟨_,_,rfl,⟨_,_,rfl,⟨X,rfl,_,_⟩,⟨Y,rfl,_,_⟩⟩,⟨_,_,rfl,⟨z3,rfl,_,_⟩,⟨z4,rfl,_,_⟩⟩⟩⟩:=t;have V:l8 y75 y=(1+((1+1)+(1+1))):=rfl;refine F9 (nQ (p5 (I0 ?_)));refine ra ?_;refine pu ?_;refine pu ?_;refine pu ?_;refine im a ?_;refine fm ?_;refine si d g h (f 0 _ rfl) fun m d=>?_;refine rb ?_;refine pu ?_;refine ad ?_;refine pu ?_;refine rb ?_;refine pu ?_;refine pu ?_;refine pu ?_;refine im a ?_;refine fm ?_;refine fm ?_;refine si d g h (f 1 _ rfl) fun m d=>?_;refine rb ?_;refine pu ?_;refine ad ?_;refine pu ?_;refine rb ?_;refine pu ?_;refine pu ?_;refine pu ?_;refine im a ?_;refine fm ?_;refine fm ?_;refine si d g h (f 2 _ rfl) fun m d=>?_;refine rb ?_;refine pu ?_;refine ad ?_;refine pu ?_;refine rb ?_;refine pu ?_;refine pu ?_;refine pu ?_;refine im a ?_;refine fm ?_;refine fm ?_;refine si d g h (f 3 _ rfl) fun m d=>?_;refine rb ?_;refine pu ?_;refine ad ?_;refine pu ?_;refine rb ?_;refine pu ?_;refine pu ?_;refine pu ?_;refine im a ?_;refine fm ?_;refine fm ?_;refine si d g h (f 4 _ rfl) fun m d=>?_;refine rc ?_;refine pu ?_;refine ad ?_;refine pu ?_;refine CH ?_;refine pu ?_;refine ad ?_;refine pu ?_;refine oN ?_;have W:k+((A8 y75 x (i+1):Nat):Int)=((((((k+(A8 y75 x i:Int))+1)+1)+1)+1)+1):=by rw[j,V]; omega
  refine Bd (i+1) ⟨by omega,d⟩ (by omega) (by rw[W,Int.natCast_succ]; ((repeat (refine D3 rfl ?_)); exact D4))
 ·have n:i=x.length:=by
   have:¬i<x.length:=by simpa using q
   omega
  subst n;refine O0 (O1 (O2 (O3 rfl (nQ (ra ?_)))));refine pu ?_;refine pu ?_;refine oN (nQ (I9 ?_));refine N3 Tryz.results29 rfl ?_;rw[l];exact⟨rfl,d⟩
end Go.Proofs.YtechodbafnmddaaGreatDoor
end
section
namespace Go.Proofs.YtechodbafnmddaaGreatDoor
open Go Go.Proofs Go.Proofs.Sv Go.Proofs.Xv Go.Proofs.Xl Go.RowKit
theorem Ke{p:Prop}{n m:Nat}{w:World}{cs:List Value}{x:Ck}{r:j0}(f:Fa p n m w T3 cs x)(h:N0 x=some r):Calls Tryz.prog 12 #[.agg cs.toArray] w fun en w'=>∃x0 x1 x2 x3 x4,en=.returned (.agg #[x0,x1,x2,x3,x4])/\Ext w w'/\Fa True w.heap.size w'.heap.size w' j3 [x0,x1,x2,x3,x4] r:=by
 refine Calls.mono (L3 Hu (fun _=>rfl) rfl (x:=(x,())) h ⟨_,_,rfl,f.arg,rfl,rfl⟩) ?_;rintro _ w' ⟨v,rfl,d,j,rfl,a⟩;obtain⟨x0,_,rfl,c,a⟩:=Du a;obtain⟨x1,_,rfl,b,a⟩:=Du a;obtain⟨x2,_,rfl,e,a⟩:=Du a;obtain⟨x3,_,rfl,g,a⟩:=Du a;obtain⟨x4,_,rfl,i,a⟩:=Du a;obtain⟨rfl,_⟩:=a;exact⟨x0,x1,x2,x3,x4,rfl,d,[x0],[x1,x2,x3,x4],rfl,RT.up c.1 (fun _ h=>h rfl),[x1,x2,x3],[x4],rfl,⟨[x1],[x2,x3],rfl,RT.up b.1 (fun _ h=>h rfl),[x2],[x3],rfl,RT.up e.1 (fun _ h=>h rfl),RT.up g.1 (fun _ h=>h rfl)⟩,RT.up i.1 (fun _ h=>h rfl)⟩
theorem Gt{p:Prop}{n m:Nat}{w:World}{cs:List Value}{x:Cm}{r:p8}(f:Fa p n m w T4 cs x)(h:V5 x=some r):Calls Tryz.prog 13 #[.agg cs.toArray] w fun en w'=>∃x0 x1 x2 x3 x4,en=.returned (.agg #[x0,x1,x2,x3,x4])/\Ext w w'/\Fa True w.heap.size w'.heap.size w' q4 [x0,x1,x2,x3,x4] r:=by
 refine Calls.mono (L3 Ug (fun _=>rfl) rfl (x:=(x,())) h ⟨_,_,rfl,f.arg,rfl,rfl⟩) ?_;rintro _ w' ⟨v,rfl,d,j,rfl,a⟩;obtain⟨x0,_,rfl,c,a⟩:=Du a;obtain⟨x1,_,rfl,b,a⟩:=Du a;obtain⟨x2,_,rfl,e,a⟩:=Du a;obtain⟨x3,_,rfl,g,a⟩:=Du a;obtain⟨x4,_,rfl,i,a⟩:=Du a;obtain⟨rfl,_⟩:=a;exact⟨x0,x1,x2,x3,x4,rfl,d,[x0],[x1,x2,x3,x4],rfl,RT.up c.1 (fun _ h=>h rfl),[x1],[x2,x3,x4],rfl,RT.up b.1 (fun _ h=>h rfl),[x2],[x3,x4],rfl,RT.up e.1 (fun _ h=>h rfl),[x3],[x4],rfl,RT.up g.1 (fun _ h=>h rfl),RT.up i.1 (fun _ h=>h rfl)⟩
end Go.Proofs.YtechodbafnmddaaGreatDoor
end
section
namespace Go.Proofs.YtechodbafnmddaaGreatDoor
open Go Go.Proofs Go.Proofs.Sv Go.Proofs.Xv Go.RowKit
attribute [local irreducible] VS VO VQ VH J0 Y1 CD JZ D6 Rd
attribute [local simp] r8 J1 Value.cells
set_option maxHeartbeats 2000000 in
theorem O0A:U0O Tryz.prog 73:=by
 intro K w u x k y F V T;obtain⟨p,s,rfl,b,o,ds,E,a,H,l⟩:=F.row;have G:ds.length=x.length*1:=H;refine U0 Tryz.func73 Tryz.ntmps73 rfl rfl ?_;refine p5 ?_;refine H4 ?_;refine F4 rfl rfl ?_;refine oN ?_;refine nQ ?_;refine p5 ?_;refine p5 ?_;refine H4 ?_;refine F4 rfl rfl ?_;refine oN ?_;refine nQ ?_;refine I0 ?_;refine Bc (fun i:Nat=>(1,.int .i64 (k+(i:Int))) :: (5,.int .i64 (i:Int)) :: (0,.slice p x.length s) :: []) (fun i m=>i<=x.length/\WO K w m/\(∀j,UF w j->UF m j)/\At m b o (AF k i++ds.drop i)) (fun i=>x.length-i) 0 ⟨Nat.zero_le _,WO.refl K w,fun _ h=>h,a⟩ (by simp only[Int.natCast_zero,Int.add_zero]; ((repeat (refine D3 rfl ?_)); exact D4)) ?_;rintro i Q ⟨hi,d,c,a⟩;refine p5 ?_;refine p5 ?_;refine H4 ?_;refine F4 rfl rfl ?_;refine F4 rfl rfl ?_;refine F5 _ (Be rfl) rfl ?_;refine F4 rfl rfl ?_;refine oN ?_;refine nQ ?_;refine U3 rfl (fun q=>?_) (fun q=>?_)
 ·have g:i<x.length:=by simpa using q
  obtain⟨rfl,v⟩:=E (by omega);have r:=y b v;refine F9 ?_;refine nQ ?_;refine p5 ?_;refine I0 ?_;refine ra ?_;refine pu ?_;refine pu ?_;refine pu ?_;refine F5 _ (Rf rfl rfl (show(3:Int)≠0 by decide)) rfl ?_;refine pu ?_;refine VB rfl rfl g rfl ?_;refine t0G (j:=i) (k:=k) (ds:=ds) rfl rfl (by omega) rfl (by omega) a (c b r) ?_;intro z n t a
  replace d:=d.trans (n.up (fun j e=>by rw[e]; exact v))
  replace c:∀j,UF w j->UF z j:=fun j h=>t j (c j h)
  refine rc ?_;refine pu ?_;refine ad ?_;refine pu ?_;refine CH ?_;refine pu ?_;refine ad ?_;refine pu ?_;refine oN ?_;have P:k+((i+1:Nat):Int)=k+(i:Int)+1:=by omega
  refine Bd (i+1) ⟨by omega,d,c,a⟩ (by omega) (by rw[P,Int.natCast_succ]; ((repeat (refine D3 rfl ?_)); exact D4))
 ·have f:i=x.length:=by
   have:¬i<x.length:=by simpa using q
   omega
  subst f;refine O0 (O1 (O2 (O3 rfl (nQ (ra ?_)))));refine pu ?_;refine pu ?_;refine oN (nQ (I9 ?_));refine N3 Tryz.results73 rfl ?_;refine⟨rfl,d,c,l _ _ (VC _ _) (AF k x.length) ?_ (v0z _ _)⟩;rw[List.drop_eq_nil_of_le (by omega),List.append_nil] at a;exact a
set_option maxHeartbeats 2000000 in
theorem x74:MkE Tryz.prog 74 y73 2 S0:=by
 intro K w u x k z F H V;obtain⟨p,y,rfl,b,o,ds,E,a,P,r⟩:=F.row;have G:ds.length=x.length*2:=P;refine U0 Tryz.func74 Tryz.ntmps74 rfl rfl ?_;refine p5 ?_;refine H4 ?_;refine F4 rfl rfl ?_;refine oN ?_;refine nQ ?_;refine p5 ?_;refine p5 ?_;refine H4 ?_;refine F4 rfl rfl ?_;refine oN ?_;refine nQ ?_;refine I0 ?_;refine Bc (fun i:Nat=>(1,.int .i64 (k+((2*i:Nat):Int))) :: (5,.int .i64 (i:Int)) :: (0,.slice p x.length y) :: []) (fun i s=>i<=x.length/\WO K w s/\(∀j,UF w j->UF s j)/\At s b o (AG k (2*i)++ds.drop (2*i))) (fun i=>x.length-i) 0 ⟨Nat.zero_le _,WO.refl K w,fun _ h=>h,a⟩ (by simp only[Nat.mul_zero,Int.natCast_zero,Int.add_zero]; ((repeat (refine D3 rfl ?_)); exact D4)) ?_;rintro i T ⟨hi,g,c,a⟩;refine p5 ?_;refine p5 ?_;refine H4 ?_;refine F4 rfl rfl ?_;refine F4 rfl rfl ?_;refine F5 _ (Be rfl) rfl ?_;refine F4 rfl rfl ?_;refine oN ?_;refine nQ ?_;refine U3 rfl (fun v=>?_) (fun v=>?_)
 ·have l:i<x.length:=by simpa using v
  obtain⟨rfl,q⟩:=E (by omega);have m:=z b q;refine F9 ?_;refine nQ ?_;refine p5 ?_;refine I0 ?_;refine p5 ?_;refine H4 ?_;refine F4 rfl rfl ?_;refine F4 rfl rfl ?_;refine F4 rfl rfl ?_;refine VB rfl rfl l rfl ?_;refine VD rfl rfl ?_;refine m0q (j:=2*i+0) (k:=k) (ds:=ds) rfl rfl (by omega) (by omega) (by omega) a (c b m) ?_;intro t d f a
  replace g:=g.trans (d.up (fun j e=>by rw[e]; exact q))
  replace c:∀j,UF w j->UF t j:=fun j h=>f j (c j h)
  refine oN ?_;refine nQ ?_;refine p5 ?_;refine H4 ?_;refine F4 rfl rfl ?_;refine F5 _ (Kb rfl rfl (by omega)) rfl ?_;refine F4 rfl rfl ?_;refine oN ?_;refine nQ ?_;refine p5 ?_;refine H4 ?_;refine F4 rfl rfl ?_;refine F4 rfl rfl ?_;refine F4 rfl rfl ?_;refine VB rfl rfl l rfl ?_;refine VD rfl rfl ?_;refine m0q (j:=2*i+1) (k:=k) (ds:=ds) rfl rfl (by omega) (by omega) (by omega) a (c b m) ?_;intro t d f a
  replace g:=g.trans (d.up (fun j e=>by rw[e]; exact q))
  replace c:∀j,UF w j->UF t j:=fun j h=>f j (c j h)
  refine oN ?_;refine nQ ?_;refine H4 ?_;refine F4 rfl rfl ?_;refine F5 _ (Kb rfl rfl (by omega)) rfl ?_;refine F4 rfl rfl ?_;refine oN ?_;refine BL ?_;refine nQ ?_;refine H4 ?_;refine F4 rfl rfl ?_;refine F5 _ (Kb rfl rfl (by omega)) rfl ?_;refine F4 rfl rfl ?_;refine oN ?_;have Q:k+((2*(i+1):Nat):Int)=k+((2*i:Nat):Int)+1+1:=by omega
  refine Bd (i+1) ⟨by omega,g,c,a⟩ (by omega) (by rw[Q,Int.natCast_succ]; ((repeat (refine D3 rfl ?_)); exact D4))
 ·have n:i=x.length:=by
   have:¬i<x.length:=by simpa using v
   omega
  subst n;refine O0 ?_;refine O1 ?_;refine O2 ?_;refine O3 rfl ?_;refine nQ ?_;refine p5 ?_;refine H4 ?_;refine F4 rfl rfl ?_;refine F4 rfl rfl ?_;refine oN ?_;refine nQ ?_;refine I9 ?_;refine N3 Tryz.results74 rfl ?_;refine⟨rfl,g,c,r _ _ (VE _ _) (AG k (2*x.length)) ?_ (v0x _ _ H (by omega))⟩;rw[List.drop_eq_nil_of_le (by omega),List.append_nil] at a;exact a
set_option maxHeartbeats 2000000 in
theorem O0z:MkT Tryz.prog 30:=by
 intro n m w cs x k hA h0 hk;obtain⟨u1,u2,u3,rfl,r,q,o,d,v,G,E,t,j⟩:=hA;refine U0 Tryz.func30 Tryz.ntmps30 rfl rfl ?_;refine p5 ?_;refine H4 ?_;refine Kc rfl rfl rfl ?_;intro b u Q B;have g:=Q.ext;have e1:=Q.eq;have s1:=Q.size;have l:∀i,(r=some i∨q=some i∨o=some i)->i<w.heap.size:=fun i h=>(d i h).2.2.lt;have f:∀i,(r=some i∨q=some i∨o=some i)->UF u i:=fun i h=>(d i h).2.2.same (g.block i (l i h))
 replace E:=RT.same (K':=fun k=>r=some k) (w':=u) (fun i e a=>⟨e,g.block i a⟩) E
 replace t:=RT.same (K':=fun k=>q=some k) (w':=u) (fun i e a=>⟨e,g.block i a⟩) t
 replace j:=RT.same (K':=fun k=>o=some k) (w':=u) (fun i e a=>⟨e,g.block i a⟩) j
 refine pu ?_;refine oN ?_;refine nQ ?_;refine ra ?_;refine fm ?_;refine Gs rfl B rfl rfl ?_;refine pu ?_;refine V6 rfl rfl (Calls.mono (O0A _ _ _ _ _ (fun i e=>f i (.inl e)) E h0 (by omega)) ?_);rintro _ T ⟨rfl,y,H,s⟩;refine⟨_,rfl,?_⟩
 replace B:=P1 B y (fun e=>by have:=l b (.inl e); omega)
 replace t:=RT.same (K':=fun k=>q=some k) (w':=T) (fun i e a=>⟨e,y.block i a fun c=>(v i c).1 e⟩) t
 replace j:=RT.same (K':=fun k=>o=some k) (w':=T) (fun i e a=>⟨e,y.block i a fun c=>(v i c).2 e⟩) j
 refine pu ?_;refine oN (nQ ?_);refine ra ?_;refine fm ?_;refine Gs rfl B rfl rfl ?_;refine pu ?_;refine V6 rfl rfl (Calls.mono (x74 _ _ _ _ _ (fun i e=>H i (f i (.inr (.inl e)))) t (by omega) (by omega)) ?_);rintro _ X ⟨rfl,o3,V,z⟩;refine⟨_,rfl,?_⟩
 replace B:=P1 B o3 (fun e=>by have:=l b (.inr (.inl e)); omega)
 replace s:=RT.same (K':=fun k=>r=some k) (w':=X) (fun i e a=>⟨e,o3.block i a fun c=>(v i e).1 c⟩) s
 replace j:=RT.same (K':=fun k=>o=some k) (w':=X) (fun i e a=>⟨e,o3.block i a fun c=>G i c e⟩) j
 refine pu ?_;refine oN (nQ ?_);refine ra ?_;refine fm ?_;refine Gs rfl B rfl rfl ?_;refine pu ?_;refine V6 rfl rfl (Calls.mono (x74 _ _ _ _ _ (fun i e=>V i (H i (f i (.inr (.inr e))))) j (by omega) (by omega)) ?_);rintro _ Y ⟨rfl,o4,v4,W⟩;refine⟨_,rfl,?_⟩
 replace s:=RT.same (K':=fun k=>r=some k) (w':=Y) (fun i e a=>⟨e,o4.block i a fun c=>(v i e).2 c⟩) s
 replace z:=RT.same (K':=fun k=>q=some k) (w':=Y) (fun i e a=>⟨e,o4.block i a fun c=>G i e c⟩) z
 refine pu ?_;refine oN (nQ ?_);refine p5 ?_;refine H4 ?_;refine pu ?_;refine pu ?_;refine oN ?_;refine nQ ?_;refine I9 ?_;refine N3 Tryz.results30 rfl ?_;have P:k+(x.1.length:Int)+((2*x.2.1.length:Nat):Int)=k+((x.1.length+2*x.2.1.length:Nat):Int):=by omega
 have F:k+(x.1.length:Int)+((2*x.2.1.length:Nat):Int)+((2*x.2.2.length:Nat):Int)=k+((x.1.length+2*x.2.1.length+2*x.2.2.length:Nat):Int):=by omega
 rw[P] at W;refine⟨by rw[F],?_,u1,u2,u3,rfl,r,q,o,fun i h=>⟨(d i h).1,(d i h).2.1,v4 i (V i (H i (f i h)))⟩,v,G,s,z,W⟩;have p1:WO (fun i=>n<=i/\i<m) w u:=⟨g.os,g.tape,g.output,g.size,fun i hi _=>g.block i hi⟩;exact((p1.trans (y.up fun i e=>⟨(d i (.inl e)).1,(d i (.inl e)).2.1⟩)).trans (o3.up fun i e=>⟨(d i (.inr (.inl e))).1,(d i (.inr (.inl e))).2.1⟩)).trans (o4.up fun i e=>⟨(d i (.inr (.inr e))).1,(d i (.inr (.inr e))).2.1⟩)
end Go.Proofs.YtechodbafnmddaaGreatDoor
end
section
namespace Go.Proofs.YtechodbafnmddaaGreatDoor
open Go Go.Proofs Go.Proofs.Sv Go.Proofs.Xv Go.Proofs.Xl Go.RowKit
attribute [local irreducible] VS VO VQ VH J0 Y1 CD JZ D6 Rd
attribute [local simp] r8 J1 Value.cells
instance:C7 Tryz.prog 25:=⟨by kernel_rfl⟩
instance:C7 Tryz.prog 26:=⟨by kernel_rfl⟩
instance:C7 Tryz.prog 31:=⟨by kernel_rfl⟩
structure HL5(x0:Ck)(x1:Cm)(x2:List Int)(x3:List AT)(l:B8)(c:Int):Prop where
 ht3:N0 x0=some x0
 ht4:V5 x1=some x1
 ht5:F1 x2=some x2
 ht6:N9 x3=some x3
 hs7:QT x0 x1 x2 x3=some (l,c)
 hs8:QY x0 x1 x2 x3=some (l,c)
 he9:Ga l l=some true
 he10:FY x0 x0=some true
 he11:L6 x2 x2=some true
 he12:FZ x3 x3=some true
 hk13:(1+(l8 j3 x0:Int))<=9223372036854775807
 hk14:((1+(l8 j3 x0:Int))+(l8 (.sl (.int .i64)) x2:Int))<=9223372036854775807
 hk15:(((1+(l8 j3 x0:Int))+(l8 (.sl (.int .i64)) x2:Int))+(l8 (.sl y106) x3:Int))<=9223372036854775807
 hk16:(1+((l.1.length+2*l.2.1.length+2*l.2.2.length:Nat):Int))<=9223372036854775807
 hh17:Rb (AH 1 l.1.length,S0 (1+(l.1.length:Int)) l.2.1.length,S0 (1+((l.1.length+2*l.2.1.length:Nat):Int)) l.2.2.length) (1:Int)=some (1+((l.1.length+2*l.2.1.length+2*l.2.2.length:Nat):Int))
def GL5(x0:Ck)(x1:Cm)(x2:List Int)(x3:List AT):Prop:=∃L0:Int,u7 x0 (1048576:Int)=some L0/\L0<=1048576/\(0<=L0->∃L1:Int,u8 x1 (L0:Int)=some L1/\L1<=1048576/\(0<=L1->∃L2:Int,u9 x3 (L1:Int)=some L2/\L2<=1048576/\(0<=L2->(x2.length<=1048576)->∃(l:B8) (c:Int),HL5 x0 x1 x2 x3 l c)))
set_option maxRecDepth 100000 in
set_option maxHeartbeats 4000000 in
theorem R0l{K:Nat->Prop}{w0:World}{eA:List Value}{x0:Ck}(a0:RT K w0 T3 eA x0){dW:List Value}{x1:Cm}(a1:RT K w0 T4 dW x1){v2:Value}{x2:List Int}(a2:RT K w0 (.sl (.int .i64)) [v2] x2){v3:Value}{W:List AT}(a3:RT K w0 (.sl y106) [v3] W)(hg:GL5 x0 x1 x2 W):Calls Tryz.prog 5 #[.agg eA.toArray,.agg dW.toArray,v2,v3] w0 fun en w'=>en=.returned (.bool true)/\Ext w0 w':=by
 obtain⟨L0,fL,gW,hG⟩:=hg;obtain⟨eM,eX,fJ,eZ,eO,rfl⟩:=I0R (RT.len a0);have f1:=Fa.of a0;obtain⟨fG,eK,fM,eP,fI,rfl⟩:=I0R (RT.len a1);have f2:=Fa.of a1;obtain⟨p2,q2,rfl,_⟩:=RT.row a2;have f3:=Fa.of a2;obtain⟨p3,q3,rfl,_⟩:=RT.row a3;have f4:=Fa.of a3;have hb:Ext w0 w0:=Ext.refl w0;refine U0 Tryz.func5 Tryz.ntmps5 rfl rfl ?_;refine ra ?_;refine Kc rfl rfl rfl ?_;intro b4 w1 d B4;have i1:=d.ext;have e4:=d.eq;have s1:=d.size;have B4:Blk w1 b4 [eM,eX,fJ,eZ,eO] 32:=B4;refine Kc rfl rfl rfl ?_;intro b5 w2 d B5;have i2:=d.ext;have e5:=d.eq;have s2:=d.size;have B5:Blk w2 b5 [fG,eK,fM,eP,fI] 34:=B5;refine pu ?_;refine oN (nQ (p5 (ra ?_)));refine pu ?_;refine F5 _ (Be rfl) rfl ?_;refine pu ?_;refine oN (nQ (U3 rfl (fun hc=>?_) (fun hc=>?_)))
 ·refine ra ?_;refine pu ?_;refine oN (nQ (I9 ?_))
  (repeat refine Af ?_)
  refine N3 Tryz.results5 rfl ?_;have hb:=(hb.trans i1).trans i2;exact⟨rfl,hb⟩
 have eR:x2.length<=1048576:=by simp at hc; omega
 refine F9 (nQ (ra ?_));refine pu ?_;refine rb ?_;have B4:=B4.ext i2;refine Bf rfl B4 rfl rfl ?_;refine pu ?_;have f1:=f1.ext (i1.trans i2);refine ci o7 (x:=(x0,(1048576:Int),())) fL ⟨_,_,rfl,f1.arg,⟨_,_,rfl,⟨rfl,by show lo .i64<=(1048576:Int); decide,by show(1048576:Int)<=hi .i64; decide⟩,⟨rfl,rfl⟩⟩⟩ fun w3 i3=>?_;have s3:=i3.size;refine pu ?_;refine oN (nQ (p5 (ra ?_)));refine pu ?_;refine pu ?_;refine oN (nQ (U3 rfl (fun hc=>?_) (fun hc=>?_)))
 ·refine ra ?_;refine pu ?_;refine oN (nQ (I9 ?_))
  (repeat refine Af ?_)
  refine N3 Tryz.results5 rfl ?_;have hb:=((hb.trans i1).trans i2).trans i3;exact⟨rfl,hb⟩
 have fD:0<=L0:=by simpa using hc
 obtain⟨L1,fF,hQ,hG⟩:=hG fD;refine F9 (nQ (ra ?_));have B5:=B5.ext i3;refine Bf rfl B5 rfl rfl ?_;refine pu ?_;have f2:=f2.ext (i1.trans (i2.trans i3));refine ci o8 (x:=(x1,(L0:Int),())) fF ⟨_,_,rfl,f2.arg,⟨_,_,rfl,⟨rfl,by show(-9223372036854775808:Int)<=L0; omega,by show L0<=(9223372036854775807:Int); omega⟩,⟨rfl,rfl⟩⟩⟩ fun w4 i4=>?_;have s4:=i4.size;refine pu ?_;refine oN (nQ (p5 (ra ?_)));refine pu ?_;refine pu ?_;refine oN (nQ (U3 rfl (fun hc=>?_) (fun hc=>?_)))
 ·refine ra ?_;refine pu ?_;refine oN (nQ (I9 ?_))
  (repeat refine Af ?_)
  refine N3 Tryz.results5 rfl ?_;have hb:=(((hb.trans i1).trans i2).trans i3).trans i4;exact⟨rfl,hb⟩
 have eN:0<=L1:=by simpa using hc
 obtain⟨L2,fB,gM,hG⟩:=hG eN;refine F9 (nQ (ra ?_));refine pu ?_;refine pu ?_;have f4:=f4.ext (i1.trans (i2.trans (i3.trans i4)));refine ci o9 (x:=(W,(L1:Int),())) fB ⟨_,_,rfl,f4.arg,⟨_,_,rfl,⟨rfl,by show(-9223372036854775808:Int)<=L1; omega,by show L1<=(9223372036854775807:Int); omega⟩,⟨rfl,rfl⟩⟩⟩ fun w5 i5=>?_;have s5:=i5.size;refine pu ?_;refine oN (nQ (p5 (ra ?_)));refine pu ?_;refine pu ?_;refine oN (nQ (U3 rfl (fun hc=>?_) (fun hc=>?_)))
 ·refine ra ?_;refine pu ?_;refine oN (nQ (I9 ?_))
  (repeat refine Af ?_)
  refine N3 Tryz.results5 rfl ?_;have hb:=((((hb.trans i1).trans i2).trans i3).trans i4).trans i5;exact⟨rfl,hb⟩
 obtain⟨l,c,⟨bZ,bI,bB,aT,bX,bD,dN,eB,dZ,eE,fU,gG,gB,gA,dD⟩⟩:=hG (by simpa using hc) eR;refine F9 (nQ (p5 ?_));refine Rh ?_;intro w6 i6;have s6:=i6.size;have a:=Ext.refl w6;have B4:=B4.ext (i3.trans (i4.trans (i5.trans i6)));have B5:=B5.ext (i4.trans (i5.trans i6));have f1:=f1.ext (i3.trans (i4.trans (i5.trans i6)));have f2:=f2.ext (i4.trans (i5.trans i6));have f3:=f3.ext (i1.trans (i2.trans (i3.trans (i4.trans (i5.trans i6)))));have f4:=f4.ext (i5.trans i6);refine VF (R:=fun w' e' _=>∃cI cG cC b n m,e'=(11,.int .i64 c) :: (10,.pointer (some ⟨b,0,none⟩)) :: [(2,.slice p2 x2.length q2),(3,.slice p3 W.length q3),(4,.pointer (some ⟨b4,0,none⟩)),(5,.pointer (some ⟨b5,0,none⟩))]/\Ext w6 w'/\w6.heap.size<=n/\m<=w'.heap.size/\Ap3 n m w' .bool y73 y73 [cI,cG,cC] l/\Blk w' b [cI,cG,cC] 65/\w6.heap.size<=b/\b<w'.heap.size/\(b<n∨m<=b)) (fun aI=>?_) ?_
 ·refine r4 0 rfl (fun _ g=>CI rfl (Q6 rfl) (B4.ext g).at) rfl (by kernel_rfl) (by kernel_rfl) (by kernel_rfl) ?_;refine r4 2 rfl (fun _ g=>CI rfl (Q6 rfl) (B5.ext g).at) rfl (by kernel_rfl) (by kernel_rfl) (by kernel_rfl) ?_;refine r4 4 rfl (fun _ g=>q6 rfl) rfl (by kernel_rfl) (by kernel_rfl) (by kernel_rfl) ?_;refine r4 6 rfl (fun _ g=>q6 rfl) rfl (by kernel_rfl) (by kernel_rfl) (by kernel_rfl) ?_;refine BM 1 12 (by kernel_rfl) ?_ ?_ a
  ·refine C5 rfl rfl rfl (Calls.mono (Ke f1 bZ) ?_);rintro _ w7 ⟨bS,bR,bV,bT,bU,rfl,i7,cT⟩;refine⟨_,rfl,?_⟩
   replace a:=a.trans i7
   have s7:=i7.size;have j:=cT;have f2:=f2.ext i7;refine BM 3 12 (by kernel_rfl) ?_ ?_ a
   ·refine C5 rfl rfl rfl (Calls.mono (Gt f2 bI) ?_);rintro _ w8 ⟨dG,dH,dF,dI,dE,rfl,i8,cN⟩;refine⟨_,rfl,?_⟩
    replace a:=a.trans i8
    have s8:=i8.size;have o:=cN;have f3:=f3.ext (i7.trans i8);refine BM 5 12 (by kernel_rfl) ?_ ?_ a
    ·refine C5 rfl rfl rfl (Calls.mono (L3 J7 (fun _=>rfl) rfl (x:=(x2,())) bB ⟨_,_,rfl,f3.arg,⟨rfl,rfl⟩⟩) ?_);rintro _ w9 ⟨bC,rfl,i9,q⟩;refine⟨_,rfl,?_⟩
     replace a:=a.trans i9
     have s9:=i9.size;have hq:=O4 (t:=(.sl (.int .i64))) (x:=x2) (fr:=true) q;have k:Fa True w8.heap.size w9.heap.size w9 (.sl (.int .i64)) [bC] x2:=RT.up hq (fun _ h=>h rfl);have f4:=f4.ext (i7.trans (i8.trans i9));refine BM 7 12 (by kernel_rfl) ?_ ?_ a
     ·refine C5 rfl rfl rfl (Calls.mono (L3 T7 (fun _=>rfl) rfl (x:=(W,())) aT ⟨_,_,rfl,f4.arg,⟨rfl,rfl⟩⟩) ?_);rintro _ aC ⟨bE,rfl,i10,q⟩;refine⟨_,rfl,?_⟩
      replace a:=a.trans i10
      have cK:=i10.size;have hq:=O4 (t:=(.sl y106)) (x:=W) (fr:=true) q;have aU:Fa True w9.heap.size aC.heap.size aC (.sl y106) [bE] W:=RT.up hq (fun _ h=>h rfl);have j:=j.ext (i8.trans (i9.trans i10));have o:=o.ext (i9.trans i10);have k:=k.ext i10;refine BM 8 12 (by kernel_rfl) ?_ ?_ a
      ·refine C5 rfl rfl rfl (Calls.mono (Ag JU (fun _=>rfl) rfl (x:=(x0,x1,x2,W,())) bX ⟨_,_,rfl,j.arg,⟨_,_,rfl,o.arg,⟨_,_,rfl,k.arg,⟨_,_,rfl,aU.arg,⟨rfl,rfl⟩⟩⟩⟩⟩) ?_);rintro _ aD ⟨v,gs,rfl,i11,d,hg,q⟩;refine⟨_,rfl,?_⟩
       replace a:=a.trans i11
       have bY:=i11.size;obtain⟨aA,Y,X,rfl,aW⟩:=Ah (t1:=.bool) (t2:=y73) (t3:=y73) (l:=l) q d hg;have z:=aW;refine r4 9 rfl (fun _ g=>q6 rfl) rfl (by kernel_rfl) (by kernel_rfl) (by kernel_rfl) ?_;refine r4 10 rfl (fun _ g=>q6 rfl) rfl (by kernel_rfl) (by kernel_rfl) (by kernel_rfl) ?_;refine r4 11 rfl (fun _ g=>q6 rfl) rfl (by kernel_rfl) (by kernel_rfl) (by kernel_rfl) ?_;refine B9 12 (by kernel_rfl) (Ai rfl rfl rfl ?_) a;intro aQ w12 d f;have i12:=d.ext;have eT:=d.eq;have bW:=d.size
       replace a:=a.trans i12
       have z:=z.ext i12;refine B9 13 (by kernel_rfl) (Aj (vs:=[aA,Y,X]) rfl rfl rfl f rfl rfl (Q7 (RT.one z.fa)) rfl ?_) a;intro w13 G d;have i13:=Y2 G;have cA:=G.size;have a:Ext w6 w13:=Below.trans a (G.below (by omega));refine⟨a,?_⟩;have f:Blk w13 aQ [aA,Y,X] 65:=d;have z:=z.wo i13 fun i Q T V=>by omega
       refine r4 14 rfl (fun _ g=>q6 rfl) rfl (by kernel_rfl) (by kernel_rfl) (by kernel_rfl) ?_;refine Y3 (by kernel_rfl) ?_ a;exact X9 (by ((repeat (refine D3 rfl ?_)); exact D4)) (aI _ _ ⟨_,_,_,_,_,_,rfl,a,by omega,by omega,z,f,by omega,by omega,by omega⟩)
      ·refine Ai rfl rfl rfl ?_;intro aQ aD d f;have i11:=d.ext;have hF:=d.eq;have bY:=d.size
       replace a:=a.trans i11
       have j:=j.ext i11;have o:=o.ext i11;have k:=k.ext i11;have aU:=aU.ext i11;refine B9 8 (by kernel_rfl) (C5 rfl rfl rfl (Calls.mono (Ag JU (fun _=>rfl) rfl (x:=(x0,x1,x2,W,())) bX ⟨_,_,rfl,j.arg,⟨_,_,rfl,o.arg,⟨_,_,rfl,k.arg,⟨_,_,rfl,aU.arg,⟨rfl,rfl⟩⟩⟩⟩⟩) ?_)) a;rintro _ w12 ⟨v,gs,rfl,i12,d,hg,q⟩;refine⟨_,rfl,?_⟩
       replace a:=a.trans i12
       have bW:=i12.size;obtain⟨aA,Y,X,rfl,aW⟩:=Ah (t1:=.bool) (t2:=y73) (t3:=y73) (l:=l) q d hg;have z:=aW;refine r4 9 rfl (fun _ g=>q6 rfl) rfl (by kernel_rfl) (by kernel_rfl) (by kernel_rfl) ?_;refine r4 10 rfl (fun _ g=>q6 rfl) rfl (by kernel_rfl) (by kernel_rfl) (by kernel_rfl) ?_;refine r4 11 rfl (fun _ g=>q6 rfl) rfl (by kernel_rfl) (by kernel_rfl) (by kernel_rfl) ?_;have f:=f.ext i12;refine B9 13 (by kernel_rfl) (Aj (vs:=[aA,Y,X]) rfl rfl rfl f rfl rfl (Q7 (RT.one z.fa)) rfl ?_) a;intro w13 G d;have i13:=Y2 G;have cA:=G.size;have a:Ext w6 w13:=Below.trans a (G.below (by omega));refine⟨a,?_⟩;have f:Blk w13 aQ [aA,Y,X] 65:=d;have z:=z.wo i13 fun i Q T V=>by omega
       refine r4 14 rfl (fun _ g=>q6 rfl) rfl (by kernel_rfl) (by kernel_rfl) (by kernel_rfl) ?_;refine Y3 (by kernel_rfl) ?_ a;exact X9 (by ((repeat (refine D3 rfl ?_)); exact D4)) (aI _ _ ⟨_,_,_,_,_,_,rfl,a,by omega,by omega,z,f,by omega,by omega,by omega⟩)
     ·refine Ai rfl rfl rfl ?_;intro aQ aC d f;have i10:=d.ext;have gL:=d.eq;have cK:=d.size
      replace a:=a.trans i10
      have f4:=f4.ext i10;refine B9 7 (by kernel_rfl) (C5 rfl rfl rfl (Calls.mono (L3 T7 (fun _=>rfl) rfl (x:=(W,())) aT ⟨_,_,rfl,f4.arg,⟨rfl,rfl⟩⟩) ?_)) a;rintro _ aD ⟨bE,rfl,i11,q⟩;refine⟨_,rfl,?_⟩
      replace a:=a.trans i11
      have bY:=i11.size;have hq:=O4 (t:=(.sl y106)) (x:=W) (fr:=true) q;have aU:Fa True aC.heap.size aD.heap.size aD (.sl y106) [bE] W:=RT.up hq (fun _ h=>h rfl);have j:=j.ext (i8.trans (i9.trans (i10.trans i11)));have o:=o.ext (i9.trans (i10.trans i11));have k:=k.ext (i10.trans i11);refine B9 8 (by kernel_rfl) (C5 rfl rfl rfl (Calls.mono (Ag JU (fun _=>rfl) rfl (x:=(x0,x1,x2,W,())) bX ⟨_,_,rfl,j.arg,⟨_,_,rfl,o.arg,⟨_,_,rfl,k.arg,⟨_,_,rfl,aU.arg,⟨rfl,rfl⟩⟩⟩⟩⟩) ?_)) a;rintro _ w12 ⟨v,gs,rfl,i12,d,hg,q⟩;refine⟨_,rfl,?_⟩
      replace a:=a.trans i12
      have bW:=i12.size;obtain⟨aA,Y,X,rfl,aW⟩:=Ah (t1:=.bool) (t2:=y73) (t3:=y73) (l:=l) q d hg;have z:=aW;refine r4 9 rfl (fun _ g=>q6 rfl) rfl (by kernel_rfl) (by kernel_rfl) (by kernel_rfl) ?_;refine r4 10 rfl (fun _ g=>q6 rfl) rfl (by kernel_rfl) (by kernel_rfl) (by kernel_rfl) ?_;refine r4 11 rfl (fun _ g=>q6 rfl) rfl (by kernel_rfl) (by kernel_rfl) (by kernel_rfl) ?_;have f:=f.ext (i11.trans i12);refine B9 13 (by kernel_rfl) (Aj (vs:=[aA,Y,X]) rfl rfl rfl f rfl rfl (Q7 (RT.one z.fa)) rfl ?_) a;intro w13 G d;have i13:=Y2 G;have cA:=G.size;have a:Ext w6 w13:=Below.trans a (G.below (by omega));refine⟨a,?_⟩;have f:Blk w13 aQ [aA,Y,X] 65:=d;have z:=z.wo i13 fun i Q T V=>by omega
      refine r4 14 rfl (fun _ g=>q6 rfl) rfl (by kernel_rfl) (by kernel_rfl) (by kernel_rfl) ?_;refine Y3 (by kernel_rfl) ?_ a;exact X9 (by ((repeat (refine D3 rfl ?_)); exact D4)) (aI _ _ ⟨_,_,_,_,_,_,rfl,a,by omega,by omega,z,f,by omega,by omega,by omega⟩)
    ·refine Ai rfl rfl rfl ?_;intro aQ w9 d f;have i9:=d.ext;have e9:=d.eq;have s9:=d.size
     replace a:=a.trans i9
     have f3:=f3.ext i9;refine B9 5 (by kernel_rfl) (C5 rfl rfl rfl (Calls.mono (L3 J7 (fun _=>rfl) rfl (x:=(x2,())) bB ⟨_,_,rfl,f3.arg,⟨rfl,rfl⟩⟩) ?_)) a;rintro _ aC ⟨bC,rfl,i10,q⟩;refine⟨_,rfl,?_⟩
     replace a:=a.trans i10
     have cK:=i10.size;have hq:=O4 (t:=(.sl (.int .i64))) (x:=x2) (fr:=true) q;have k:Fa True w9.heap.size aC.heap.size aC (.sl (.int .i64)) [bC] x2:=RT.up hq (fun _ h=>h rfl);have f4:=f4.ext (i7.trans (i8.trans (i9.trans i10)));refine B9 7 (by kernel_rfl) (C5 rfl rfl rfl (Calls.mono (L3 T7 (fun _=>rfl) rfl (x:=(W,())) aT ⟨_,_,rfl,f4.arg,⟨rfl,rfl⟩⟩) ?_)) a;rintro _ aD ⟨bE,rfl,i11,q⟩;refine⟨_,rfl,?_⟩
     replace a:=a.trans i11
     have bY:=i11.size;have hq:=O4 (t:=(.sl y106)) (x:=W) (fr:=true) q;have aU:Fa True aC.heap.size aD.heap.size aD (.sl y106) [bE] W:=RT.up hq (fun _ h=>h rfl);have j:=j.ext (i8.trans (i9.trans (i10.trans i11)));have o:=o.ext (i9.trans (i10.trans i11));have k:=k.ext i11;refine B9 8 (by kernel_rfl) (C5 rfl rfl rfl (Calls.mono (Ag JU (fun _=>rfl) rfl (x:=(x0,x1,x2,W,())) bX ⟨_,_,rfl,j.arg,⟨_,_,rfl,o.arg,⟨_,_,rfl,k.arg,⟨_,_,rfl,aU.arg,⟨rfl,rfl⟩⟩⟩⟩⟩) ?_)) a;rintro _ w12 ⟨v,gs,rfl,i12,d,hg,q⟩;refine⟨_,rfl,?_⟩
     replace a:=a.trans i12
     have bW:=i12.size;obtain⟨aA,Y,X,rfl,aW⟩:=Ah (t1:=.bool) (t2:=y73) (t3:=y73) (l:=l) q d hg;have z:=aW;refine r4 9 rfl (fun _ g=>q6 rfl) rfl (by kernel_rfl) (by kernel_rfl) (by kernel_rfl) ?_;refine r4 10 rfl (fun _ g=>q6 rfl) rfl (by kernel_rfl) (by kernel_rfl) (by kernel_rfl) ?_;refine r4 11 rfl (fun _ g=>q6 rfl) rfl (by kernel_rfl) (by kernel_rfl) (by kernel_rfl) ?_;have f:=f.ext (i10.trans (i11.trans i12));refine B9 13 (by kernel_rfl) (Aj (vs:=[aA,Y,X]) rfl rfl rfl f rfl rfl (Q7 (RT.one z.fa)) rfl ?_) a;intro w13 G d;have i13:=Y2 G;have cA:=G.size;have a:Ext w6 w13:=Below.trans a (G.below (by omega));refine⟨a,?_⟩;have f:Blk w13 aQ [aA,Y,X] 65:=d;have z:=z.wo i13 fun i Q T V=>by omega
     refine r4 14 rfl (fun _ g=>q6 rfl) rfl (by kernel_rfl) (by kernel_rfl) (by kernel_rfl) ?_;refine Y3 (by kernel_rfl) ?_ a;exact X9 (by ((repeat (refine D3 rfl ?_)); exact D4)) (aI _ _ ⟨_,_,_,_,_,_,rfl,a,by omega,by omega,z,f,by omega,by omega,by omega⟩)
   ·refine Ai rfl rfl rfl ?_;intro aQ w8 d f;have i8:=d.ext;have e8:=d.eq;have s8:=d.size
    replace a:=a.trans i8
    have f2:=f2.ext i8;refine B9 3 (by kernel_rfl) (C5 rfl rfl rfl (Calls.mono (Gt f2 bI) ?_)) a;rintro _ w9 ⟨dG,dH,dF,dI,dE,rfl,i9,cN⟩;refine⟨_,rfl,?_⟩
    replace a:=a.trans i9
    have s9:=i9.size;have o:=cN;have f3:=f3.ext (i7.trans (i8.trans i9));refine B9 5 (by kernel_rfl) (C5 rfl rfl rfl (Calls.mono (L3 J7 (fun _=>rfl) rfl (x:=(x2,())) bB ⟨_,_,rfl,f3.arg,⟨rfl,rfl⟩⟩) ?_)) a;rintro _ aC ⟨bC,rfl,i10,q⟩;refine⟨_,rfl,?_⟩
    replace a:=a.trans i10
    have cK:=i10.size;have hq:=O4 (t:=(.sl (.int .i64))) (x:=x2) (fr:=true) q;have k:Fa True w9.heap.size aC.heap.size aC (.sl (.int .i64)) [bC] x2:=RT.up hq (fun _ h=>h rfl);have f4:=f4.ext (i7.trans (i8.trans (i9.trans i10)));refine B9 7 (by kernel_rfl) (C5 rfl rfl rfl (Calls.mono (L3 T7 (fun _=>rfl) rfl (x:=(W,())) aT ⟨_,_,rfl,f4.arg,⟨rfl,rfl⟩⟩) ?_)) a;rintro _ aD ⟨bE,rfl,i11,q⟩;refine⟨_,rfl,?_⟩
    replace a:=a.trans i11
    have bY:=i11.size;have hq:=O4 (t:=(.sl y106)) (x:=W) (fr:=true) q;have aU:Fa True aC.heap.size aD.heap.size aD (.sl y106) [bE] W:=RT.up hq (fun _ h=>h rfl);have j:=j.ext (i8.trans (i9.trans (i10.trans i11)));have o:=o.ext (i10.trans i11);have k:=k.ext i11;refine B9 8 (by kernel_rfl) (C5 rfl rfl rfl (Calls.mono (Ag JU (fun _=>rfl) rfl (x:=(x0,x1,x2,W,())) bX ⟨_,_,rfl,j.arg,⟨_,_,rfl,o.arg,⟨_,_,rfl,k.arg,⟨_,_,rfl,aU.arg,⟨rfl,rfl⟩⟩⟩⟩⟩) ?_)) a;rintro _ w12 ⟨v,gs,rfl,i12,d,hg,q⟩;refine⟨_,rfl,?_⟩
    replace a:=a.trans i12
    have bW:=i12.size;obtain⟨aA,Y,X,rfl,aW⟩:=Ah (t1:=.bool) (t2:=y73) (t3:=y73) (l:=l) q d hg;have z:=aW;refine r4 9 rfl (fun _ g=>q6 rfl) rfl (by kernel_rfl) (by kernel_rfl) (by kernel_rfl) ?_;refine r4 10 rfl (fun _ g=>q6 rfl) rfl (by kernel_rfl) (by kernel_rfl) (by kernel_rfl) ?_;refine r4 11 rfl (fun _ g=>q6 rfl) rfl (by kernel_rfl) (by kernel_rfl) (by kernel_rfl) ?_;have f:=f.ext (i9.trans (i10.trans (i11.trans i12)));refine B9 13 (by kernel_rfl) (Aj (vs:=[aA,Y,X]) rfl rfl rfl f rfl rfl (Q7 (RT.one z.fa)) rfl ?_) a;intro w13 G d;have i13:=Y2 G;have cA:=G.size;have a:Ext w6 w13:=Below.trans a (G.below (by omega));refine⟨a,?_⟩;have f:Blk w13 aQ [aA,Y,X] 65:=d;have z:=z.wo i13 fun i Q T V=>by omega
    refine r4 14 rfl (fun _ g=>q6 rfl) rfl (by kernel_rfl) (by kernel_rfl) (by kernel_rfl) ?_;refine Y3 (by kernel_rfl) ?_ a;exact X9 (by ((repeat (refine D3 rfl ?_)); exact D4)) (aI _ _ ⟨_,_,_,_,_,_,rfl,a,by omega,by omega,z,f,by omega,by omega,by omega⟩)
  ·refine Ai rfl rfl rfl ?_;intro aQ w7 d f;have i7:=d.ext;have e7:=d.eq;have s7:=d.size
   replace a:=a.trans i7
   have f1:=f1.ext i7;refine B9 1 (by kernel_rfl) (C5 rfl rfl rfl (Calls.mono (Ke f1 bZ) ?_)) a;rintro _ w8 ⟨bS,bR,bV,bT,bU,rfl,i8,cT⟩;refine⟨_,rfl,?_⟩
   replace a:=a.trans i8
   have s8:=i8.size;have j:=cT;have f2:=f2.ext (i7.trans i8);refine B9 3 (by kernel_rfl) (C5 rfl rfl rfl (Calls.mono (Gt f2 bI) ?_)) a;rintro _ w9 ⟨dG,dH,dF,dI,dE,rfl,i9,cN⟩;refine⟨_,rfl,?_⟩
   replace a:=a.trans i9
   have s9:=i9.size;have o:=cN;have f3:=f3.ext (i7.trans (i8.trans i9));refine B9 5 (by kernel_rfl) (C5 rfl rfl rfl (Calls.mono (L3 J7 (fun _=>rfl) rfl (x:=(x2,())) bB ⟨_,_,rfl,f3.arg,⟨rfl,rfl⟩⟩) ?_)) a;rintro _ aC ⟨bC,rfl,i10,q⟩;refine⟨_,rfl,?_⟩
   replace a:=a.trans i10
   have cK:=i10.size;have hq:=O4 (t:=(.sl (.int .i64))) (x:=x2) (fr:=true) q;have k:Fa True w9.heap.size aC.heap.size aC (.sl (.int .i64)) [bC] x2:=RT.up hq (fun _ h=>h rfl);have f4:=f4.ext (i7.trans (i8.trans (i9.trans i10)));refine B9 7 (by kernel_rfl) (C5 rfl rfl rfl (Calls.mono (L3 T7 (fun _=>rfl) rfl (x:=(W,())) aT ⟨_,_,rfl,f4.arg,⟨rfl,rfl⟩⟩) ?_)) a;rintro _ aD ⟨bE,rfl,i11,q⟩;refine⟨_,rfl,?_⟩
   replace a:=a.trans i11
   have bY:=i11.size;have hq:=O4 (t:=(.sl y106)) (x:=W) (fr:=true) q;have aU:Fa True aC.heap.size aD.heap.size aD (.sl y106) [bE] W:=RT.up hq (fun _ h=>h rfl);have j:=j.ext (i9.trans (i10.trans i11));have o:=o.ext (i10.trans i11);have k:=k.ext i11;refine B9 8 (by kernel_rfl) (C5 rfl rfl rfl (Calls.mono (Ag JU (fun _=>rfl) rfl (x:=(x0,x1,x2,W,())) bX ⟨_,_,rfl,j.arg,⟨_,_,rfl,o.arg,⟨_,_,rfl,k.arg,⟨_,_,rfl,aU.arg,⟨rfl,rfl⟩⟩⟩⟩⟩) ?_)) a;rintro _ w12 ⟨v,gs,rfl,i12,d,hg,q⟩;refine⟨_,rfl,?_⟩
   replace a:=a.trans i12
   have bW:=i12.size;obtain⟨aA,Y,X,rfl,aW⟩:=Ah (t1:=.bool) (t2:=y73) (t3:=y73) (l:=l) q d hg;have z:=aW;refine r4 9 rfl (fun _ g=>q6 rfl) rfl (by kernel_rfl) (by kernel_rfl) (by kernel_rfl) ?_;refine r4 10 rfl (fun _ g=>q6 rfl) rfl (by kernel_rfl) (by kernel_rfl) (by kernel_rfl) ?_;refine r4 11 rfl (fun _ g=>q6 rfl) rfl (by kernel_rfl) (by kernel_rfl) (by kernel_rfl) ?_;have f:=f.ext (i8.trans (i9.trans (i10.trans (i11.trans i12))));refine B9 13 (by kernel_rfl) (Aj (vs:=[aA,Y,X]) rfl rfl rfl f rfl rfl (Q7 (RT.one z.fa)) rfl ?_) a;intro w13 G d;have i13:=Y2 G;have cA:=G.size;have a:Ext w6 w13:=Below.trans a (G.below (by omega));refine⟨a,?_⟩;have f:Blk w13 aQ [aA,Y,X] 65:=d;have z:=z.wo i13 fun i Q T V=>by omega
   refine r4 14 rfl (fun _ g=>q6 rfl) rfl (by kernel_rfl) (by kernel_rfl) (by kernel_rfl) ?_;refine Y3 (by kernel_rfl) ?_ a;exact X9 (by ((repeat (refine D3 rfl ?_)); exact D4)) (aI _ _ ⟨_,_,_,_,_,_,rfl,a,by omega,by omega,z,f,by omega,by omega,by omega⟩)
 rintro w7 _ ⟨cI,cG,cC,aQ,hG,gY,rfl,i7,fV,fW,eQ,f,gD,gE,gH⟩;have s7:=i7.size;have aX:=eQ;refine nQ (ra ?_);have B4:=B4.ext i7;refine Bf rfl B4 rfl rfl ?_;have f1:=f1.ext i7;refine V6 rfl rfl (Calls.mono (Ke f1 bZ) ?_);rintro _ w8 ⟨bS,bR,bV,bT,bU,rfl,i8,cT⟩;refine⟨_,rfl,?_⟩;have s8:=i8.size;have j:=cT;refine x0v rfl rfl ?_;intro eG w9 d aV;have i9:=d.ext;have eT:=d.eq;have s9:=d.size;have j:=j.ext i9;refine x0t (vs:=[bS,bR,bV,bT,bU]) rfl rfl aV rfl rfl (Q7 (RT.one j)) rfl ?_;intro aC G d;have i10:=Y2 G;have cK:=G.size;have aV:Blk aC eG [bS,bR,bV,bT,bU] 56:=d;refine rb ?_;refine pu ?_;have f3:=(f3.ext (i7.trans (i8.trans i9))).wo i10 fun i Q T V=>by omega
 refine V6 rfl rfl (Calls.mono (L3 J7 (fun _=>rfl) rfl (x:=(x2,())) bB ⟨_,_,rfl,f3.arg,⟨rfl,rfl⟩⟩) ?_);rintro _ aD ⟨eD,rfl,i11,q⟩;refine⟨_,rfl,?_⟩;have bY:=i11.size;have hq:=O4 (t:=(.sl (.int .i64))) (x:=x2) (fr:=true) q;have o:Fa True aC.heap.size aD.heap.size aD (.sl (.int .i64)) [eD] x2:=RT.up hq (fun _ h=>h rfl);refine pu ?_;refine rb ?_;refine pu ?_;have f4:=((f4.ext (i7.trans (i8.trans i9))).wo i10 fun i Q T V=>by omega).ext i11;refine V6 rfl rfl (Calls.mono (L3 T7 (fun _=>rfl) rfl (x:=(W,())) aT ⟨_,_,rfl,f4.arg,⟨rfl,rfl⟩⟩) ?_);rintro _ w12 ⟨bC,rfl,i12,q⟩;refine⟨_,rfl,?_⟩;have bW:=i12.size;have hq:=O4 (t:=(.sl y106)) (x:=W) (fr:=true) q;have k:Fa True aD.heap.size w12.heap.size w12 (.sl y106) [bC] W:=RT.up hq (fun _ h=>h rfl);refine pu ?_;refine oN (nQ (p5 ?_));refine Rh ?_;intro w13 i13;have cA:=i13.size;have a:=Ext.refl w13;have aV:=aV.ext (i11.trans (i12.trans i13));have B5:=(P1 (B5.ext (i7.trans (i8.trans i9))) i10 fun h=>by omega).ext (i11.trans (i12.trans i13));have f1:=((f1.ext (i8.trans i9)).wo i10 fun i Q T V=>by omega).ext (i11.trans (i12.trans i13));have f2:=((f2.ext (i7.trans (i8.trans i9))).wo i10 fun i Q T V=>by omega).ext (i11.trans (i12.trans i13));have f3:=f3.ext (i11.trans (i12.trans i13));have f4:=f4.ext (i12.trans i13);have j:=(j.wo i10 fun i Q T V=>by omega).ext (i11.trans (i12.trans i13));have o:=o.ext (i12.trans i13);have k:=k.ext i13;refine VF (R:=fun w' e' _=>∃bK bL bQ b n m,e'=(16,.int .i64 c) :: (15,.pointer (some ⟨b,0,none⟩)) :: [(2,.slice p2 x2.length q2),(3,.slice p3 W.length q3),(4,.pointer (some ⟨b4,0,none⟩)),(5,.pointer (some ⟨b5,0,none⟩)),(10,.pointer (some ⟨aQ,0,none⟩)),(11,.int .i64 c),(12,.pointer (some ⟨eG,0,none⟩)),(13,eD),(14,bC)]/\Ext w13 w'/\w13.heap.size<=n/\m<=w'.heap.size/\Ap3 n m w' .bool y73 y73 [bK,bL,bQ] l/\Blk w' b [bK,bL,bQ] 65/\w13.heap.size<=b/\b<w'.heap.size/\(b<n∨m<=b)) (fun aI=>?_) ?_
 ·refine r4 0 rfl (fun _ g=>CI rfl (Q6 rfl) (aV.ext g).at) rfl (by kernel_rfl) (by kernel_rfl) (by kernel_rfl) ?_;refine r4 1 rfl (fun _ g=>CI rfl (Q6 rfl) (B5.ext g).at) rfl (by kernel_rfl) (by kernel_rfl) (by kernel_rfl) ?_;refine r4 3 rfl (fun _ g=>q6 rfl) rfl (by kernel_rfl) (by kernel_rfl) (by kernel_rfl) ?_;refine r4 4 rfl (fun _ g=>q6 rfl) rfl (by kernel_rfl) (by kernel_rfl) (by kernel_rfl) ?_;refine BM 2 9 (by kernel_rfl) ?_ ?_ a
  ·refine C5 rfl rfl rfl (Calls.mono (Gt f2 bI) ?_);rintro _ Bb ⟨cM,cE,cH,cQ,cX,rfl,i14,bH⟩;refine⟨_,rfl,?_⟩
   replace a:=a.trans i14
   have dU:=i14.size;have aO:=bH;have j:=j.ext i14;have o:=o.ext i14;have k:=k.ext i14;refine BM 5 9 (by kernel_rfl) ?_ ?_ a
   ·refine C5 rfl rfl rfl (Calls.mono (Ag Fg (fun _=>rfl) rfl (x:=(x0,x1,x2,W,())) bD ⟨_,_,rfl,j.arg,⟨_,_,rfl,aO.arg,⟨_,_,rfl,o.arg,⟨_,_,rfl,k.arg,⟨rfl,rfl⟩⟩⟩⟩⟩) ?_);rintro _ NS ⟨v,gs,rfl,i15,d,hg,q⟩;refine⟨_,rfl,?_⟩
    replace a:=a.trans i15
    have dQ:=i15.size;obtain⟨aK,aM,aH,rfl,bJ⟩:=Ah (t1:=.bool) (t2:=y73) (t3:=y73) (l:=l) q d hg;have F:=bJ;refine r4 6 rfl (fun _ g=>q6 rfl) rfl (by kernel_rfl) (by kernel_rfl) (by kernel_rfl) ?_;refine r4 7 rfl (fun _ g=>q6 rfl) rfl (by kernel_rfl) (by kernel_rfl) (by kernel_rfl) ?_;refine r4 8 rfl (fun _ g=>q6 rfl) rfl (by kernel_rfl) (by kernel_rfl) (by kernel_rfl) ?_;refine B9 9 (by kernel_rfl) (Ai rfl rfl rfl ?_) a;intro bM NT d P;have i16:=d.ext;have hP:=d.eq;have dL:=d.size
    replace a:=a.trans i16
    have F:=F.ext i16;refine B9 10 (by kernel_rfl) (Aj (vs:=[aK,aM,aH]) rfl rfl rfl P rfl rfl (Q7 (RT.one F.fa)) rfl ?_) a;intro bF G d;have i17:=Y2 G;have dS:=G.size;have a:Ext w13 bF:=Below.trans a (G.below (by omega));refine⟨a,?_⟩;have P:Blk bF bM [aK,aM,aH] 65:=d;have F:=F.wo i17 fun i Q T V=>by omega
    refine r4 11 rfl (fun _ g=>q6 rfl) rfl (by kernel_rfl) (by kernel_rfl) (by kernel_rfl) ?_;refine Y3 (by kernel_rfl) ?_ a;exact X9 (by ((repeat (refine D3 rfl ?_)); exact D4)) (aI _ _ ⟨_,_,_,_,_,_,rfl,a,by omega,by omega,F,P,by omega,by omega,by omega⟩)
   ·refine Ai rfl rfl rfl ?_;intro bM NS d P;have i15:=d.ext;have hL:=d.eq;have dQ:=d.size
    replace a:=a.trans i15
    have j:=j.ext i15;have aO:=aO.ext i15;have o:=o.ext i15;have k:=k.ext i15;refine B9 5 (by kernel_rfl) (C5 rfl rfl rfl (Calls.mono (Ag Fg (fun _=>rfl) rfl (x:=(x0,x1,x2,W,())) bD ⟨_,_,rfl,j.arg,⟨_,_,rfl,aO.arg,⟨_,_,rfl,o.arg,⟨_,_,rfl,k.arg,⟨rfl,rfl⟩⟩⟩⟩⟩) ?_)) a;rintro _ NT ⟨v,gs,rfl,i16,d,hg,q⟩;refine⟨_,rfl,?_⟩
    replace a:=a.trans i16
    have dL:=i16.size;obtain⟨aK,aM,aH,rfl,bJ⟩:=Ah (t1:=.bool) (t2:=y73) (t3:=y73) (l:=l) q d hg;have F:=bJ;refine r4 6 rfl (fun _ g=>q6 rfl) rfl (by kernel_rfl) (by kernel_rfl) (by kernel_rfl) ?_;refine r4 7 rfl (fun _ g=>q6 rfl) rfl (by kernel_rfl) (by kernel_rfl) (by kernel_rfl) ?_;refine r4 8 rfl (fun _ g=>q6 rfl) rfl (by kernel_rfl) (by kernel_rfl) (by kernel_rfl) ?_;have P:=P.ext i16;refine B9 10 (by kernel_rfl) (Aj (vs:=[aK,aM,aH]) rfl rfl rfl P rfl rfl (Q7 (RT.one F.fa)) rfl ?_) a;intro bF G d;have i17:=Y2 G;have dS:=G.size;have a:Ext w13 bF:=Below.trans a (G.below (by omega));refine⟨a,?_⟩;have P:Blk bF bM [aK,aM,aH] 65:=d;have F:=F.wo i17 fun i Q T V=>by omega
    refine r4 11 rfl (fun _ g=>q6 rfl) rfl (by kernel_rfl) (by kernel_rfl) (by kernel_rfl) ?_;refine Y3 (by kernel_rfl) ?_ a;exact X9 (by ((repeat (refine D3 rfl ?_)); exact D4)) (aI _ _ ⟨_,_,_,_,_,_,rfl,a,by omega,by omega,F,P,by omega,by omega,by omega⟩)
  ·refine Ai rfl rfl rfl ?_;intro bM Bb d P;have i14:=d.ext;have hE:=d.eq;have dU:=d.size
   replace a:=a.trans i14
   have f2:=f2.ext i14;refine B9 2 (by kernel_rfl) (C5 rfl rfl rfl (Calls.mono (Gt f2 bI) ?_)) a;rintro _ NS ⟨cM,cE,cH,cQ,cX,rfl,i15,bH⟩;refine⟨_,rfl,?_⟩
   replace a:=a.trans i15
   have dQ:=i15.size;have aO:=bH;have j:=j.ext (i14.trans i15);have o:=o.ext (i14.trans i15);have k:=k.ext (i14.trans i15);refine B9 5 (by kernel_rfl) (C5 rfl rfl rfl (Calls.mono (Ag Fg (fun _=>rfl) rfl (x:=(x0,x1,x2,W,())) bD ⟨_,_,rfl,j.arg,⟨_,_,rfl,aO.arg,⟨_,_,rfl,o.arg,⟨_,_,rfl,k.arg,⟨rfl,rfl⟩⟩⟩⟩⟩) ?_)) a;rintro _ NT ⟨v,gs,rfl,i16,d,hg,q⟩;refine⟨_,rfl,?_⟩
   replace a:=a.trans i16
   have dL:=i16.size;obtain⟨aK,aM,aH,rfl,bJ⟩:=Ah (t1:=.bool) (t2:=y73) (t3:=y73) (l:=l) q d hg;have F:=bJ;refine r4 6 rfl (fun _ g=>q6 rfl) rfl (by kernel_rfl) (by kernel_rfl) (by kernel_rfl) ?_;refine r4 7 rfl (fun _ g=>q6 rfl) rfl (by kernel_rfl) (by kernel_rfl) (by kernel_rfl) ?_;refine r4 8 rfl (fun _ g=>q6 rfl) rfl (by kernel_rfl) (by kernel_rfl) (by kernel_rfl) ?_;have P:=P.ext (i15.trans i16);refine B9 10 (by kernel_rfl) (Aj (vs:=[aK,aM,aH]) rfl rfl rfl P rfl rfl (Q7 (RT.one F.fa)) rfl ?_) a;intro bF G d;have i17:=Y2 G;have dS:=G.size;have a:Ext w13 bF:=Below.trans a (G.below (by omega));refine⟨a,?_⟩;have P:Blk bF bM [aK,aM,aH] 65:=d;have F:=F.wo i17 fun i Q T V=>by omega
   refine r4 11 rfl (fun _ g=>q6 rfl) rfl (by kernel_rfl) (by kernel_rfl) (by kernel_rfl) ?_;refine Y3 (by kernel_rfl) ?_ a;exact X9 (by ((repeat (refine D3 rfl ?_)); exact D4)) (aI _ _ ⟨_,_,_,_,_,_,rfl,a,by omega,by omega,F,P,by omega,by omega,by omega⟩)
 rintro Bb _ ⟨bK,bL,bQ,bM,gI,gC,rfl,i14,eV,fS,eJ,P,eW,eS,eY⟩;have dU:=i14.size;have aB:=eJ;refine nQ (p5 (ra ?_));refine Bf rfl P rfl rfl ?_;have f:=(P1 (f.ext (i8.trans i9)) i10 fun h=>by omega).ext (i11.trans (i12.trans (i13.trans i14)));refine Bf rfl f rfl rfl ?_;have aX:=((aX.ext (i8.trans i9)).wo i10 fun i Q T V=>by omega).ext (i11.trans (i12.trans (i13.trans i14)));refine cb MZ (x:=(l,l,())) dN ⟨_,_,rfl,aB.arg,⟨_,_,rfl,aX.arg,⟨rfl,rfl⟩⟩⟩ fun NS i15=>?_;have dQ:=i15.size;refine pu ?_;refine pu ?_;refine Bg rfl rfl ?_;refine pu ?_;refine Bg rfl rfl ?_;refine pu ?_;refine Bg rfl rfl ?_;refine pu ?_;refine Gu (bne_self_eq_false _) ?_;refine pu ?_;refine oN (nQ (Dv rfl ?_));refine F9 (nQ (p5 (p5 ?_)));refine Rh ?_;intro NT i16;have dL:=i16.size;have a:=Ext.refl NT;have aV:=aV.ext (i14.trans (i15.trans i16));have B4:=(P1 (B4.ext (i8.trans i9)) i10 fun h=>by omega).ext (i11.trans (i12.trans (i13.trans (i14.trans (i15.trans i16)))));refine r4 0 rfl (fun _ g=>CI rfl (Q6 rfl) (aV.ext g).at) rfl (by kernel_rfl) (by kernel_rfl) (by kernel_rfl) ?_;refine r4 1 rfl (fun _ g=>CI rfl (Q6 rfl) (B4.ext g).at) rfl (by kernel_rfl) (by kernel_rfl) (by kernel_rfl) ?_;have f1:=f1.ext (i14.trans (i15.trans i16));refine B9 2 (by kernel_rfl) (C5 rfl rfl rfl (Calls.mono (Ke f1 bZ) ?_)) a;rintro _ bF ⟨cM,cE,cH,cQ,cX,rfl,i17,bH⟩;refine⟨_,rfl,?_⟩
 replace a:=a.trans i17
 have dS:=i17.size;have aO:=bH;have j:=j.ext (i14.trans (i15.trans (i16.trans i17)));refine B9 3 (by kernel_rfl) (C5 rfl rfl rfl (Calls.mono (L3 Ui (fun _=>rfl) rfl (x:=(x0,x0,())) eB ⟨_,_,rfl,j.arg,⟨_,_,rfl,aO.arg,⟨rfl,rfl⟩⟩⟩) ?_)) a;rintro _ fP ⟨v,rfl,i18,q⟩;obtain rfl:=u0W q;refine⟨_,rfl,?_⟩
 replace a:=a.trans i18
 have gQ:=i18.size;refine C0L 4 rfl (by kernel_rfl) (q6 rfl) rfl ?_;refine Y3 (by kernel_rfl) ?_ a;refine nQ (Dv rfl ?_);refine F9 (nQ (p5 (ra ?_)));refine pu ?_;refine pu ?_;have f3:=f3.ext (i14.trans (i15.trans (i16.trans (i17.trans i18))));refine V6 rfl rfl (Calls.mono (L3 J7 (fun _=>rfl) rfl (x:=(x2,())) bB ⟨_,_,rfl,f3.arg,⟨rfl,rfl⟩⟩) ?_);rintro _ eF ⟨eI,rfl,i19,q⟩;refine⟨_,rfl,?_⟩;have hH:=i19.size;have hq:=O4 (t:=(.sl (.int .i64))) (x:=x2) (fr:=true) q;have F:Fa True fP.heap.size eF.heap.size eF (.sl (.int .i64)) [eI] x2:=RT.up hq (fun _ h=>h rfl);have o:=o.ext (i14.trans (i15.trans (i16.trans (i17.trans (i18.trans i19)))));refine cb Hw (x:=(x2,x2,())) dZ ⟨_,_,rfl,o.arg,⟨_,_,rfl,F.arg,⟨rfl,rfl⟩⟩⟩ fun fC aG=>?_;have hK:=aG.size;refine pu ?_;refine oN (nQ (Dv rfl ?_));refine F9 (nQ (p5 (ra ?_)));refine pu ?_;refine pu ?_;have f4:=f4.ext (i14.trans (i15.trans (i16.trans (i17.trans (i18.trans (i19.trans aG))))));refine V6 rfl rfl (Calls.mono (L3 T7 (fun _=>rfl) rfl (x:=(W,())) aT ⟨_,_,rfl,f4.arg,⟨rfl,rfl⟩⟩) ?_);rintro _ dY ⟨eC,rfl,i21,q⟩;refine⟨_,rfl,?_⟩;have gT:=i21.size;have hq:=O4 (t:=(.sl y106)) (x:=W) (fr:=true) q;have cU:Fa True fC.heap.size dY.heap.size dY (.sl y106) [eC] W:=RT.up hq (fun _ h=>h rfl);have k:=k.ext (i14.trans (i15.trans (i16.trans (i17.trans (i18.trans (i19.trans (aG.trans i21)))))));refine cb Uj (x:=(W,W,())) eE ⟨_,_,rfl,k.arg,⟨_,_,rfl,cU.arg,⟨rfl,rfl⟩⟩⟩ fun gJ i22=>?_;have hR:=i22.size;refine pu ?_;refine oN (nQ (Dv rfl ?_));refine F9 (nQ (ra ?_));refine pu ?_;refine rb ?_;have aV:=aV.ext (i17.trans (i18.trans (i19.trans (aG.trans (i21.trans i22)))));refine Bf rfl aV rfl rfl ?_;refine pu ?_;have j:=j.ext (i18.trans (i19.trans (aG.trans (i21.trans i22))));refine V6 rfl rfl (Calls.mono (m27 (fun i=>w7.heap.size<=i/\i<w8.heap.size) _ _ _ _ (fun i hi=>by omega) (j.sh rfl) (by omega) (by omega)) ?_);rintro _ gZ ⟨rfl,hM⟩;refine⟨_,rfl,?_⟩;have i23:=hM.wo;have hS:=i23.size;refine pu ?_;refine rb ?_;refine pu ?_;refine pu ?_;have o:=(o.ext (aG.trans (i21.trans i22))).wo i23 fun i Q T V=>by omega
 refine V6 rfl rfl (Calls.mono (Ds (fun i=>aC.heap.size<=i/\i<aD.heap.size) _ _ _ _ (fun i hi=>by omega) (o.sh rfl) (by omega) (by omega)) ?_);rintro _ gR ⟨rfl,hM⟩;refine⟨_,rfl,?_⟩;have i24:=hM.wo;have hO:=i24.size;refine pu ?_;refine rb ?_;refine pu ?_;refine pu ?_;have k:=((k.ext i22).wo i23 fun i Q T V=>by omega).wo i24 fun i Q T V=>by omega
 refine V6 rfl rfl (Calls.mono (m29 (fun i=>aD.heap.size<=i/\i<w12.heap.size) _ _ _ _ (fun i hi=>by omega) (k.sh rfl) (by omega) (by omega)) ?_);rintro _ gK ⟨rfl,hM⟩;refine⟨_,rfl,?_⟩;have i25:=hM.wo;have gO:=i25.size;refine pu ?_;refine oN (nQ (p5 (ra ?_)));refine pu ?_;refine pu ?_;refine Gu (decide_eq_false (by omega)) ?_;refine pu ?_;refine Bg rfl rfl ?_;have P:=P1 (P1 (P1 (P.ext (i15.trans (i16.trans (i17.trans (i18.trans (i19.trans (aG.trans (i21.trans i22)))))))) i23 fun h=>by omega) i24 fun h=>by omega) i25 fun h=>by omega
 refine Bf rfl P rfl rfl ?_;refine Bg rfl rfl ?_;have f:=P1 (P1 (P1 (f.ext (i15.trans (i16.trans (i17.trans (i18.trans (i19.trans (aG.trans (i21.trans i22)))))))) i23 fun h=>by omega) i24 fun h=>by omega) i25 fun h=>by omega
 refine Bf rfl f rfl rfl ?_;refine Bg rfl rfl ?_;have aB:=(((aB.ext (i15.trans (i16.trans (i17.trans (i18.trans (i19.trans (aG.trans (i21.trans i22)))))))).wo i23 fun i Q T V=>by omega).wo i24 fun i Q T V=>by omega).wo i25 fun i Q T V=>by omega
 have aX:=(((aX.ext (i15.trans (i16.trans (i17.trans (i18.trans (i19.trans (aG.trans (i21.trans i22)))))))).wo i23 fun i Q T V=>by omega).wo i24 fun i Q T V=>by omega).wo i25 fun i Q T V=>by omega
 refine cb MZ (x:=(l,l,())) dN ⟨_,_,rfl,aB.arg,⟨_,_,rfl,aX.arg,⟨rfl,rfl⟩⟩⟩ fun hA i26=>?_;have hN:=i26.size;refine Bg rfl rfl ?_;refine pu ?_;refine pu ?_;refine pu ?_;refine Bg rfl rfl ?_;refine pu ?_;refine Bg rfl rfl ?_;refine pu ?_;refine Bg rfl rfl ?_;refine pu ?_;refine Gu (bne_self_eq_false _) ?_;refine pu ?_;refine oN (nQ (Dv rfl ?_));refine F9 (nQ (ra ?_));refine pu ?_;refine rb ?_;have P:=P.ext i26;refine Bf rfl P rfl rfl ?_;refine pu ?_;have aB:=aB.ext i26;refine V6 rfl rfl (Calls.mono (O0z _ _ _ _ _ _ aB (by omega) (by omega)) ?_);rintro _ gU ⟨rfl,i27,eU⟩;refine⟨_,rfl,?_⟩;have hM:=i27.size;have aB:=eU;refine pu ?_;refine rb ?_;refine pu ?_;refine rb ?_;have P:=P1 P i27 fun h=>by omega
 refine Bf rfl P rfl rfl ?_;refine pu ?_;refine ci o31 (x:=((AH 1 l.1.length,S0 (1+(l.1.length:Int)) l.2.1.length,S0 (1+((l.1.length+2*l.2.1.length:Nat):Int)) l.2.2.length),(1:Int),())) dD ⟨_,_,rfl,aB.arg,⟨_,_,rfl,⟨rfl,by show lo .i64<=(1:Int); decide,by show(1:Int)<=hi .i64; decide⟩,⟨rfl,rfl⟩⟩⟩ fun gX i28=>?_;have hJ:=i28.size;refine pu ?_;refine oN (nQ (p5 (ra ?_)));refine pu ?_;refine pu ?_;refine Gu (decide_eq_false (by omega)) ?_;refine oN (nQ (Dv rfl ?_));refine F9 (nQ (p5 (ra ?_)));refine pu ?_;refine pu ?_;refine pu ?_;refine Gu (bne_self_eq_false _) ?_;refine oN (nQ (Dv rfl ?_));refine F9 (nQ (p5 ?_));refine Rh ?_;intro bA i29;have hI:=i29.size;have a:=Ext.refl bA;have B4:=(P1 ((P1 (P1 (P1 (B4.ext (i17.trans (i18.trans (i19.trans (aG.trans (i21.trans i22)))))) i23 fun h=>by omega) i24 fun h=>by omega) i25 fun h=>by omega).ext i26) i27 fun h=>by omega).ext (i28.trans i29);have B5:=(P1 ((P1 (P1 (P1 (B5.ext (i14.trans (i15.trans (i16.trans (i17.trans (i18.trans (i19.trans (aG.trans (i21.trans i22))))))))) i23 fun h=>by omega) i24 fun h=>by omega) i25 fun h=>by omega).ext i26) i27 fun h=>by omega).ext (i28.trans i29);have f1:=((((((f1.ext (i17.trans (i18.trans (i19.trans (aG.trans (i21.trans i22)))))).wo i23 fun i Q T V=>by omega).wo i24 fun i Q T V=>by omega).wo i25 fun i Q T V=>by omega).ext i26).wo i27 fun i Q T V=>by omega).ext (i28.trans i29);have f2:=((((((f2.ext (i14.trans (i15.trans (i16.trans (i17.trans (i18.trans (i19.trans (aG.trans (i21.trans i22))))))))).wo i23 fun i Q T V=>by omega).wo i24 fun i Q T V=>by omega).wo i25 fun i Q T V=>by omega).ext i26).wo i27 fun i Q T V=>by omega).ext (i28.trans i29);have f3:=((((((f3.ext (i19.trans (aG.trans (i21.trans i22)))).wo i23 fun i Q T V=>by omega).wo i24 fun i Q T V=>by omega).wo i25 fun i Q T V=>by omega).ext i26).wo i27 fun i Q T V=>by omega).ext (i28.trans i29);have f4:=((((((f4.ext (i21.trans i22)).wo i23 fun i Q T V=>by omega).wo i24 fun i Q T V=>by omega).wo i25 fun i Q T V=>by omega).ext i26).wo i27 fun i Q T V=>by omega).ext (i28.trans i29);have aB:=aB.ext (i28.trans i29);have aX:=((aX.ext i26).wo i27 fun i Q T V=>by omega).ext (i28.trans i29);have aO:=((((((aO.ext (i18.trans (i19.trans (aG.trans (i21.trans i22))))).wo i23 fun i Q T V=>by omega).wo i24 fun i Q T V=>by omega).wo i25 fun i Q T V=>by omega).ext i26).wo i27 fun i Q T V=>by omega).ext (i28.trans i29);have F:=((((((F.ext (aG.trans (i21.trans i22))).wo i23 fun i Q T V=>by omega).wo i24 fun i Q T V=>by omega).wo i25 fun i Q T V=>by omega).ext i26).wo i27 fun i Q T V=>by omega).ext (i28.trans i29);have cU:=((((((cU.ext i22).wo i23 fun i Q T V=>by omega).wo i24 fun i Q T V=>by omega).wo i25 fun i Q T V=>by omega).ext i26).wo i27 fun i Q T V=>by omega).ext (i28.trans i29);refine VF (R:=fun w' e' _=>∃bN bO bP b n m,e'=(21,.int .i64 c) :: (20,.pointer (some ⟨b,0,none⟩)) :: [(10,.pointer (some ⟨aQ,0,none⟩)),(11,.int .i64 c),(15,.pointer (some ⟨bM,0,none⟩)),(18,.int .i64 ((1+((l.1.length+2*l.2.1.length+2*l.2.2.length:Nat):Int)))),(19,.int .i64 ((1+((l.1.length+2*l.2.1.length+2*l.2.2.length:Nat):Int))))]/\Ext bA w'/\bA.heap.size<=n/\m<=w'.heap.size/\Ap3 n m w' .bool y73 y73 [bN,bO,bP] l/\Blk w' b [bN,bO,bP] 65/\bA.heap.size<=b/\b<w'.heap.size/\(b<n∨m<=b)) (fun aI=>?_) ?_
 ·refine r4 0 rfl (fun _ g=>CI rfl (Q6 rfl) (B4.ext g).at) rfl (by kernel_rfl) (by kernel_rfl) (by kernel_rfl) ?_;refine r4 2 rfl (fun _ g=>CI rfl (Q6 rfl) (B5.ext g).at) rfl (by kernel_rfl) (by kernel_rfl) (by kernel_rfl) ?_;refine r4 4 rfl (fun _ g=>q6 rfl) rfl (by kernel_rfl) (by kernel_rfl) (by kernel_rfl) ?_;refine r4 6 rfl (fun _ g=>q6 rfl) rfl (by kernel_rfl) (by kernel_rfl) (by kernel_rfl) ?_;refine BM 1 12 (by kernel_rfl) ?_ ?_ a
  ·refine C5 rfl rfl rfl (Calls.mono (Ke f1 bZ) ?_);rintro _ dT ⟨dR,dK,dO,dJ,dM,rfl,i30,cP⟩;refine⟨_,rfl,?_⟩
   replace a:=a.trans i30
   have dV:=i30.size;have H:=cP;have f2:=f2.ext i30;refine BM 3 12 (by kernel_rfl) ?_ ?_ a
   ·refine C5 rfl rfl rfl (Calls.mono (Gt f2 bI) ?_);rintro _ dA ⟨cV,cW,cL,cJ,cR,rfl,i31,bG⟩;refine⟨_,rfl,?_⟩
    replace a:=a.trans i31
    have dP:=i31.size;have E:=bG;have f3:=f3.ext (i30.trans i31);refine BM 5 12 (by kernel_rfl) ?_ ?_ a
    ·refine C5 rfl rfl rfl (Calls.mono (L3 J7 (fun _=>rfl) rfl (x:=(x2,())) bB ⟨_,_,rfl,f3.arg,⟨rfl,rfl⟩⟩) ?_);rintro _ aZ ⟨aY,rfl,i32,q⟩;refine⟨_,rfl,?_⟩
     replace a:=a.trans i32
     have dC:=i32.size;have hq:=O4 (t:=(.sl (.int .i64))) (x:=x2) (fr:=true) q;have y:Fa True dA.heap.size aZ.heap.size aZ (.sl (.int .i64)) [aY] x2:=RT.up hq (fun _ h=>h rfl);have f4:=f4.ext (i30.trans (i31.trans i32));refine BM 7 12 (by kernel_rfl) ?_ ?_ a
     ·refine C5 rfl rfl rfl (Calls.mono (L3 T7 (fun _=>rfl) rfl (x:=(W,())) aT ⟨_,_,rfl,f4.arg,⟨rfl,rfl⟩⟩) ?_);rintro _ aN ⟨aP,rfl,i33,q⟩;refine⟨_,rfl,?_⟩
      replace a:=a.trans i33
      have dB:=i33.size;have hq:=O4 (t:=(.sl y106)) (x:=W) (fr:=true) q;have aF:Fa True aZ.heap.size aN.heap.size aN (.sl y106) [aP] W:=RT.up hq (fun _ h=>h rfl);have H:=H.ext (i31.trans (i32.trans i33));have E:=E.ext (i32.trans i33);have y:=y.ext i33;refine BM 8 12 (by kernel_rfl) ?_ ?_ a
      ·refine C5 rfl rfl rfl (Calls.mono (Ag Fg (fun _=>rfl) rfl (x:=(x0,x1,x2,W,())) bD ⟨_,_,rfl,H.arg,⟨_,_,rfl,E.arg,⟨_,_,rfl,y.arg,⟨_,_,rfl,aF.arg,⟨rfl,rfl⟩⟩⟩⟩⟩) ?_);rintro _ aR ⟨v,gs,rfl,i34,d,hg,q⟩;refine⟨_,rfl,?_⟩
       replace a:=a.trans i34
       have cZ:=i34.size;obtain⟨u,r,s,rfl,aJ⟩:=Ah (t1:=.bool) (t2:=y73) (t3:=y73) (l:=l) q d hg;have e:=aJ;refine r4 9 rfl (fun _ g=>q6 rfl) rfl (by kernel_rfl) (by kernel_rfl) (by kernel_rfl) ?_;refine r4 10 rfl (fun _ g=>q6 rfl) rfl (by kernel_rfl) (by kernel_rfl) (by kernel_rfl) ?_;refine r4 11 rfl (fun _ g=>q6 rfl) rfl (by kernel_rfl) (by kernel_rfl) (by kernel_rfl) ?_;refine B9 12 (by kernel_rfl) (Ai rfl rfl rfl ?_) a;intro aS cB d w;have i35:=d.ext;have gN:=d.eq;have cY:=d.size
       replace a:=a.trans i35
       have e:=e.ext i35;refine B9 13 (by kernel_rfl) (Aj (vs:=[u,r,s]) rfl rfl rfl w rfl rfl (Q7 (RT.one e.fa)) rfl ?_) a;intro aL G d;have BI:=Y2 G;have cO:=G.size;have a:Ext bA aL:=Below.trans a (G.below (by omega));refine⟨a,?_⟩;have w:Blk aL aS [u,r,s] 65:=d;have e:=e.wo BI fun i Q T V=>by omega
       refine r4 14 rfl (fun _ g=>q6 rfl) rfl (by kernel_rfl) (by kernel_rfl) (by kernel_rfl) ?_;refine Y3 (by kernel_rfl) ?_ a;exact X9 (by ((repeat (refine D3 rfl ?_)); exact D4)) (aI _ _ ⟨_,_,_,_,_,_,rfl,a,by omega,by omega,e,w,by omega,by omega,by omega⟩)
      ·refine Ai rfl rfl rfl ?_;intro aS aR d w;have i34:=d.ext;have hC:=d.eq;have cZ:=d.size
       replace a:=a.trans i34
       have H:=H.ext i34;have E:=E.ext i34;have y:=y.ext i34;have aF:=aF.ext i34;refine B9 8 (by kernel_rfl) (C5 rfl rfl rfl (Calls.mono (Ag Fg (fun _=>rfl) rfl (x:=(x0,x1,x2,W,())) bD ⟨_,_,rfl,H.arg,⟨_,_,rfl,E.arg,⟨_,_,rfl,y.arg,⟨_,_,rfl,aF.arg,⟨rfl,rfl⟩⟩⟩⟩⟩) ?_)) a;rintro _ cB ⟨v,gs,rfl,i35,d,hg,q⟩;refine⟨_,rfl,?_⟩
       replace a:=a.trans i35
       have cY:=i35.size;obtain⟨u,r,s,rfl,aJ⟩:=Ah (t1:=.bool) (t2:=y73) (t3:=y73) (l:=l) q d hg;have e:=aJ;refine r4 9 rfl (fun _ g=>q6 rfl) rfl (by kernel_rfl) (by kernel_rfl) (by kernel_rfl) ?_;refine r4 10 rfl (fun _ g=>q6 rfl) rfl (by kernel_rfl) (by kernel_rfl) (by kernel_rfl) ?_;refine r4 11 rfl (fun _ g=>q6 rfl) rfl (by kernel_rfl) (by kernel_rfl) (by kernel_rfl) ?_;have w:=w.ext i35;refine B9 13 (by kernel_rfl) (Aj (vs:=[u,r,s]) rfl rfl rfl w rfl rfl (Q7 (RT.one e.fa)) rfl ?_) a;intro aL G d;have BI:=Y2 G;have cO:=G.size;have a:Ext bA aL:=Below.trans a (G.below (by omega));refine⟨a,?_⟩;have w:Blk aL aS [u,r,s] 65:=d;have e:=e.wo BI fun i Q T V=>by omega
       refine r4 14 rfl (fun _ g=>q6 rfl) rfl (by kernel_rfl) (by kernel_rfl) (by kernel_rfl) ?_;refine Y3 (by kernel_rfl) ?_ a;exact X9 (by ((repeat (refine D3 rfl ?_)); exact D4)) (aI _ _ ⟨_,_,_,_,_,_,rfl,a,by omega,by omega,e,w,by omega,by omega,by omega⟩)
     ·refine Ai rfl rfl rfl ?_;intro aS aN d w;have i33:=d.ext;have gV:=d.eq;have dB:=d.size
      replace a:=a.trans i33
      have f4:=f4.ext i33;refine B9 7 (by kernel_rfl) (C5 rfl rfl rfl (Calls.mono (L3 T7 (fun _=>rfl) rfl (x:=(W,())) aT ⟨_,_,rfl,f4.arg,⟨rfl,rfl⟩⟩) ?_)) a;rintro _ aR ⟨aP,rfl,i34,q⟩;refine⟨_,rfl,?_⟩
      replace a:=a.trans i34
      have cZ:=i34.size;have hq:=O4 (t:=(.sl y106)) (x:=W) (fr:=true) q;have aF:Fa True aN.heap.size aR.heap.size aR (.sl y106) [aP] W:=RT.up hq (fun _ h=>h rfl);have H:=H.ext (i31.trans (i32.trans (i33.trans i34)));have E:=E.ext (i32.trans (i33.trans i34));have y:=y.ext (i33.trans i34);refine B9 8 (by kernel_rfl) (C5 rfl rfl rfl (Calls.mono (Ag Fg (fun _=>rfl) rfl (x:=(x0,x1,x2,W,())) bD ⟨_,_,rfl,H.arg,⟨_,_,rfl,E.arg,⟨_,_,rfl,y.arg,⟨_,_,rfl,aF.arg,⟨rfl,rfl⟩⟩⟩⟩⟩) ?_)) a;rintro _ cB ⟨v,gs,rfl,i35,d,hg,q⟩;refine⟨_,rfl,?_⟩
      replace a:=a.trans i35
      have cY:=i35.size;obtain⟨u,r,s,rfl,aJ⟩:=Ah (t1:=.bool) (t2:=y73) (t3:=y73) (l:=l) q d hg;have e:=aJ;refine r4 9 rfl (fun _ g=>q6 rfl) rfl (by kernel_rfl) (by kernel_rfl) (by kernel_rfl) ?_;refine r4 10 rfl (fun _ g=>q6 rfl) rfl (by kernel_rfl) (by kernel_rfl) (by kernel_rfl) ?_;refine r4 11 rfl (fun _ g=>q6 rfl) rfl (by kernel_rfl) (by kernel_rfl) (by kernel_rfl) ?_;have w:=w.ext (i34.trans i35);refine B9 13 (by kernel_rfl) (Aj (vs:=[u,r,s]) rfl rfl rfl w rfl rfl (Q7 (RT.one e.fa)) rfl ?_) a;intro aL G d;have BI:=Y2 G;have cO:=G.size;have a:Ext bA aL:=Below.trans a (G.below (by omega));refine⟨a,?_⟩;have w:Blk aL aS [u,r,s] 65:=d;have e:=e.wo BI fun i Q T V=>by omega
      refine r4 14 rfl (fun _ g=>q6 rfl) rfl (by kernel_rfl) (by kernel_rfl) (by kernel_rfl) ?_;refine Y3 (by kernel_rfl) ?_ a;exact X9 (by ((repeat (refine D3 rfl ?_)); exact D4)) (aI _ _ ⟨_,_,_,_,_,_,rfl,a,by omega,by omega,e,w,by omega,by omega,by omega⟩)
    ·refine Ai rfl rfl rfl ?_;intro aS aZ d w;have i32:=d.ext;have gS:=d.eq;have dC:=d.size
     replace a:=a.trans i32
     have f3:=f3.ext i32;refine B9 5 (by kernel_rfl) (C5 rfl rfl rfl (Calls.mono (L3 J7 (fun _=>rfl) rfl (x:=(x2,())) bB ⟨_,_,rfl,f3.arg,⟨rfl,rfl⟩⟩) ?_)) a;rintro _ aN ⟨aY,rfl,i33,q⟩;refine⟨_,rfl,?_⟩
     replace a:=a.trans i33
     have dB:=i33.size;have hq:=O4 (t:=(.sl (.int .i64))) (x:=x2) (fr:=true) q;have y:Fa True aZ.heap.size aN.heap.size aN (.sl (.int .i64)) [aY] x2:=RT.up hq (fun _ h=>h rfl);have f4:=f4.ext (i30.trans (i31.trans (i32.trans i33)));refine B9 7 (by kernel_rfl) (C5 rfl rfl rfl (Calls.mono (L3 T7 (fun _=>rfl) rfl (x:=(W,())) aT ⟨_,_,rfl,f4.arg,⟨rfl,rfl⟩⟩) ?_)) a;rintro _ aR ⟨aP,rfl,i34,q⟩;refine⟨_,rfl,?_⟩
     replace a:=a.trans i34
     have cZ:=i34.size;have hq:=O4 (t:=(.sl y106)) (x:=W) (fr:=true) q;have aF:Fa True aN.heap.size aR.heap.size aR (.sl y106) [aP] W:=RT.up hq (fun _ h=>h rfl);have H:=H.ext (i31.trans (i32.trans (i33.trans i34)));have E:=E.ext (i32.trans (i33.trans i34));have y:=y.ext i34;refine B9 8 (by kernel_rfl) (C5 rfl rfl rfl (Calls.mono (Ag Fg (fun _=>rfl) rfl (x:=(x0,x1,x2,W,())) bD ⟨_,_,rfl,H.arg,⟨_,_,rfl,E.arg,⟨_,_,rfl,y.arg,⟨_,_,rfl,aF.arg,⟨rfl,rfl⟩⟩⟩⟩⟩) ?_)) a;rintro _ cB ⟨v,gs,rfl,i35,d,hg,q⟩;refine⟨_,rfl,?_⟩
     replace a:=a.trans i35
     have cY:=i35.size;obtain⟨u,r,s,rfl,aJ⟩:=Ah (t1:=.bool) (t2:=y73) (t3:=y73) (l:=l) q d hg;have e:=aJ;refine r4 9 rfl (fun _ g=>q6 rfl) rfl (by kernel_rfl) (by kernel_rfl) (by kernel_rfl) ?_;refine r4 10 rfl (fun _ g=>q6 rfl) rfl (by kernel_rfl) (by kernel_rfl) (by kernel_rfl) ?_;refine r4 11 rfl (fun _ g=>q6 rfl) rfl (by kernel_rfl) (by kernel_rfl) (by kernel_rfl) ?_;have w:=w.ext (i33.trans (i34.trans i35));refine B9 13 (by kernel_rfl) (Aj (vs:=[u,r,s]) rfl rfl rfl w rfl rfl (Q7 (RT.one e.fa)) rfl ?_) a;intro aL G d;have BI:=Y2 G;have cO:=G.size;have a:Ext bA aL:=Below.trans a (G.below (by omega));refine⟨a,?_⟩;have w:Blk aL aS [u,r,s] 65:=d;have e:=e.wo BI fun i Q T V=>by omega
     refine r4 14 rfl (fun _ g=>q6 rfl) rfl (by kernel_rfl) (by kernel_rfl) (by kernel_rfl) ?_;refine Y3 (by kernel_rfl) ?_ a;exact X9 (by ((repeat (refine D3 rfl ?_)); exact D4)) (aI _ _ ⟨_,_,_,_,_,_,rfl,a,by omega,by omega,e,w,by omega,by omega,by omega⟩)
   ·refine Ai rfl rfl rfl ?_;intro aS dA d w;have i31:=d.ext;have hD:=d.eq;have dP:=d.size
    replace a:=a.trans i31
    have f2:=f2.ext i31;refine B9 3 (by kernel_rfl) (C5 rfl rfl rfl (Calls.mono (Gt f2 bI) ?_)) a;rintro _ aZ ⟨cV,cW,cL,cJ,cR,rfl,i32,bG⟩;refine⟨_,rfl,?_⟩
    replace a:=a.trans i32
    have dC:=i32.size;have E:=bG;have f3:=f3.ext (i30.trans (i31.trans i32));refine B9 5 (by kernel_rfl) (C5 rfl rfl rfl (Calls.mono (L3 J7 (fun _=>rfl) rfl (x:=(x2,())) bB ⟨_,_,rfl,f3.arg,⟨rfl,rfl⟩⟩) ?_)) a;rintro _ aN ⟨aY,rfl,i33,q⟩;refine⟨_,rfl,?_⟩
    replace a:=a.trans i33
    have dB:=i33.size;have hq:=O4 (t:=(.sl (.int .i64))) (x:=x2) (fr:=true) q;have y:Fa True aZ.heap.size aN.heap.size aN (.sl (.int .i64)) [aY] x2:=RT.up hq (fun _ h=>h rfl);have f4:=f4.ext (i30.trans (i31.trans (i32.trans i33)));refine B9 7 (by kernel_rfl) (C5 rfl rfl rfl (Calls.mono (L3 T7 (fun _=>rfl) rfl (x:=(W,())) aT ⟨_,_,rfl,f4.arg,⟨rfl,rfl⟩⟩) ?_)) a;rintro _ aR ⟨aP,rfl,i34,q⟩;refine⟨_,rfl,?_⟩
    replace a:=a.trans i34
    have cZ:=i34.size;have hq:=O4 (t:=(.sl y106)) (x:=W) (fr:=true) q;have aF:Fa True aN.heap.size aR.heap.size aR (.sl y106) [aP] W:=RT.up hq (fun _ h=>h rfl);have H:=H.ext (i31.trans (i32.trans (i33.trans i34)));have E:=E.ext (i33.trans i34);have y:=y.ext i34;refine B9 8 (by kernel_rfl) (C5 rfl rfl rfl (Calls.mono (Ag Fg (fun _=>rfl) rfl (x:=(x0,x1,x2,W,())) bD ⟨_,_,rfl,H.arg,⟨_,_,rfl,E.arg,⟨_,_,rfl,y.arg,⟨_,_,rfl,aF.arg,⟨rfl,rfl⟩⟩⟩⟩⟩) ?_)) a;rintro _ cB ⟨v,gs,rfl,i35,d,hg,q⟩;refine⟨_,rfl,?_⟩
    replace a:=a.trans i35
    have cY:=i35.size;obtain⟨u,r,s,rfl,aJ⟩:=Ah (t1:=.bool) (t2:=y73) (t3:=y73) (l:=l) q d hg;have e:=aJ;refine r4 9 rfl (fun _ g=>q6 rfl) rfl (by kernel_rfl) (by kernel_rfl) (by kernel_rfl) ?_;refine r4 10 rfl (fun _ g=>q6 rfl) rfl (by kernel_rfl) (by kernel_rfl) (by kernel_rfl) ?_;refine r4 11 rfl (fun _ g=>q6 rfl) rfl (by kernel_rfl) (by kernel_rfl) (by kernel_rfl) ?_;have w:=w.ext (i32.trans (i33.trans (i34.trans i35)));refine B9 13 (by kernel_rfl) (Aj (vs:=[u,r,s]) rfl rfl rfl w rfl rfl (Q7 (RT.one e.fa)) rfl ?_) a;intro aL G d;have BI:=Y2 G;have cO:=G.size;have a:Ext bA aL:=Below.trans a (G.below (by omega));refine⟨a,?_⟩;have w:Blk aL aS [u,r,s] 65:=d;have e:=e.wo BI fun i Q T V=>by omega
    refine r4 14 rfl (fun _ g=>q6 rfl) rfl (by kernel_rfl) (by kernel_rfl) (by kernel_rfl) ?_;refine Y3 (by kernel_rfl) ?_ a;exact X9 (by ((repeat (refine D3 rfl ?_)); exact D4)) (aI _ _ ⟨_,_,_,_,_,_,rfl,a,by omega,by omega,e,w,by omega,by omega,by omega⟩)
  ·refine Ai rfl rfl rfl ?_;intro aS dT d w;have i30:=d.ext;have hB:=d.eq;have dV:=d.size
   replace a:=a.trans i30
   have f1:=f1.ext i30;refine B9 1 (by kernel_rfl) (C5 rfl rfl rfl (Calls.mono (Ke f1 bZ) ?_)) a;rintro _ dA ⟨dR,dK,dO,dJ,dM,rfl,i31,cP⟩;refine⟨_,rfl,?_⟩
   replace a:=a.trans i31
   have dP:=i31.size;have H:=cP;have f2:=f2.ext (i30.trans i31);refine B9 3 (by kernel_rfl) (C5 rfl rfl rfl (Calls.mono (Gt f2 bI) ?_)) a;rintro _ aZ ⟨cV,cW,cL,cJ,cR,rfl,i32,bG⟩;refine⟨_,rfl,?_⟩
   replace a:=a.trans i32
   have dC:=i32.size;have E:=bG;have f3:=f3.ext (i30.trans (i31.trans i32));refine B9 5 (by kernel_rfl) (C5 rfl rfl rfl (Calls.mono (L3 J7 (fun _=>rfl) rfl (x:=(x2,())) bB ⟨_,_,rfl,f3.arg,⟨rfl,rfl⟩⟩) ?_)) a;rintro _ aN ⟨aY,rfl,i33,q⟩;refine⟨_,rfl,?_⟩
   replace a:=a.trans i33
   have dB:=i33.size;have hq:=O4 (t:=(.sl (.int .i64))) (x:=x2) (fr:=true) q;have y:Fa True aZ.heap.size aN.heap.size aN (.sl (.int .i64)) [aY] x2:=RT.up hq (fun _ h=>h rfl);have f4:=f4.ext (i30.trans (i31.trans (i32.trans i33)));refine B9 7 (by kernel_rfl) (C5 rfl rfl rfl (Calls.mono (L3 T7 (fun _=>rfl) rfl (x:=(W,())) aT ⟨_,_,rfl,f4.arg,⟨rfl,rfl⟩⟩) ?_)) a;rintro _ aR ⟨aP,rfl,i34,q⟩;refine⟨_,rfl,?_⟩
   replace a:=a.trans i34
   have cZ:=i34.size;have hq:=O4 (t:=(.sl y106)) (x:=W) (fr:=true) q;have aF:Fa True aN.heap.size aR.heap.size aR (.sl y106) [aP] W:=RT.up hq (fun _ h=>h rfl);have H:=H.ext (i32.trans (i33.trans i34));have E:=E.ext (i33.trans i34);have y:=y.ext i34;refine B9 8 (by kernel_rfl) (C5 rfl rfl rfl (Calls.mono (Ag Fg (fun _=>rfl) rfl (x:=(x0,x1,x2,W,())) bD ⟨_,_,rfl,H.arg,⟨_,_,rfl,E.arg,⟨_,_,rfl,y.arg,⟨_,_,rfl,aF.arg,⟨rfl,rfl⟩⟩⟩⟩⟩) ?_)) a;rintro _ cB ⟨v,gs,rfl,i35,d,hg,q⟩;refine⟨_,rfl,?_⟩
   replace a:=a.trans i35
   have cY:=i35.size;obtain⟨u,r,s,rfl,aJ⟩:=Ah (t1:=.bool) (t2:=y73) (t3:=y73) (l:=l) q d hg;have e:=aJ;refine r4 9 rfl (fun _ g=>q6 rfl) rfl (by kernel_rfl) (by kernel_rfl) (by kernel_rfl) ?_;refine r4 10 rfl (fun _ g=>q6 rfl) rfl (by kernel_rfl) (by kernel_rfl) (by kernel_rfl) ?_;refine r4 11 rfl (fun _ g=>q6 rfl) rfl (by kernel_rfl) (by kernel_rfl) (by kernel_rfl) ?_;have w:=w.ext (i31.trans (i32.trans (i33.trans (i34.trans i35))));refine B9 13 (by kernel_rfl) (Aj (vs:=[u,r,s]) rfl rfl rfl w rfl rfl (Q7 (RT.one e.fa)) rfl ?_) a;intro aL G d;have BI:=Y2 G;have cO:=G.size;have a:Ext bA aL:=Below.trans a (G.below (by omega));refine⟨a,?_⟩;have w:Blk aL aS [u,r,s] 65:=d;have e:=e.wo BI fun i Q T V=>by omega
   refine r4 14 rfl (fun _ g=>q6 rfl) rfl (by kernel_rfl) (by kernel_rfl) (by kernel_rfl) ?_;refine Y3 (by kernel_rfl) ?_ a;exact X9 (by ((repeat (refine D3 rfl ?_)); exact D4)) (aI _ _ ⟨_,_,_,_,_,_,rfl,a,by omega,by omega,e,w,by omega,by omega,by omega⟩)
 rintro dT _ ⟨bN,bO,bP,aS,gF,fY,rfl,i30,eL,fH,dX,w,fT,fO,fA⟩;have dV:=i30.size;have eH:=dX;refine nQ (p5 (ra ?_));refine Bf rfl w rfl rfl ?_;have f:=(P1 (f.ext i26) i27 fun h=>by omega).ext (i28.trans (i29.trans i30));refine Bf rfl f rfl rfl ?_;have aX:=aX.ext i30;refine cb MZ (x:=(l,l,())) dN ⟨_,_,rfl,eH.arg,⟨_,_,rfl,aX.arg,⟨rfl,rfl⟩⟩⟩ fun dA i31=>?_;have dP:=i31.size;refine pu ?_;refine pu ?_;refine Bg rfl rfl ?_;refine pu ?_;refine Bg rfl rfl ?_;refine pu ?_;refine Bg rfl rfl ?_;refine pu ?_;refine Gu (bne_self_eq_false _) ?_;refine pu ?_;refine oN (nQ (Dv rfl ?_));refine F9 (nQ (ra ?_));refine pu ?_;refine rb ?_;have P:=P.ext (i28.trans (i29.trans (i30.trans i31)));refine Bf rfl P rfl rfl ?_;refine pu ?_;have aB:=aB.ext (i30.trans i31);refine ci o31 (x:=((AH 1 l.1.length,S0 (1+(l.1.length:Int)) l.2.1.length,S0 (1+((l.1.length+2*l.2.1.length:Nat):Int)) l.2.2.length),(1:Int),())) dD ⟨_,_,rfl,aB.arg,⟨_,_,rfl,⟨rfl,by show lo .i64<=(1:Int); decide,by show(1:Int)<=hi .i64; decide⟩,⟨rfl,rfl⟩⟩⟩ fun aZ i32=>?_;have dC:=i32.size;refine pu ?_;refine oN (nQ (p5 (ra ?_)));refine pu ?_;refine pu ?_;refine Gu (decide_eq_false (by omega)) ?_;refine oN (nQ (Dv rfl ?_));refine F9 (nQ (p5 (ra ?_)));refine pu ?_;refine pu ?_;refine pu ?_;refine Gu (bne_self_eq_false _) ?_;refine oN (nQ (Dv rfl ?_));refine F9 (nQ (ra ?_));refine pu ?_;refine oN (nQ (I9 ?_))
 (repeat refine Af ?_)
 refine N3 Tryz.results5 rfl ?_;have hb:=(((((i27.ext ((i25.ext (i24.ext (i23.ext (((((((((((((i10.ext (((((((((hb.trans i1).trans i2).trans i3).trans i4).trans i5).trans i6).trans i7).trans i8).trans i9) fun i h=>by omega).trans i11).trans i12).trans i13).trans i14).trans i15).trans i16).trans i17).trans i18).trans i19).trans aG).trans i21).trans i22) fun i h=>by omega) fun i h=>by omega) fun i h=>by omega).trans i26) fun i h=>by omega).trans i28).trans i29).trans i30).trans i31).trans i32;exact⟨rfl,hb⟩
end Go.Proofs.YtechodbafnmddaaGreatDoor
end
section
namespace Go.Proofs.Xd
open Go Go.Proofs.Xv Go.Proofs.Xl
abbrev Fk:=List Int×List Int×List Int
abbrev G5:=Int×Int×Int×Int×List Fk×List Fk
abbrev P2:=ByteArray×Int×Int×Bool
abbrev G9:=ByteArray×Int×List Int
abbrev P3:=ByteArray×Int×Int
abbrev VG:=List Int×List Int×List Int×List Int
def j6(x l h:Int):Bool:=decide (l<=x)&&decide (x<=h)
theorem B3{x l h:Int}:j6 x l h=true↔l<=x/\x<=h:=by simp[j6]
def Fl(xs:List Int):Bool:=!(List.range xs.length).any fun i=>decide (0<i)&&decide (xs.getD i 0<=xs.getD (i-1) 0)
def I7(xs:List Int):Bool:=decide (1<=xs.length)&&decide (xs.length<=4)&&xs.all (j6 · 0 100000)&&Fl xs
def D2(t:Fk):Bool:=I7 t.1&&I7 t.2.1&&decide (t.2.2.length=t.1.length*t.2.1.length)&&t.2.2.all (j6 · (-1000000) 1000000)
theorem Dw{xs:List Int}(h:I7 xs=true):1<=xs.length/\xs.length<=4:=by
 simp only[I7,ba,dq] at h;exact⟨h.1.1.1,h.1.1.2⟩
theorem Gv{t:Fk}(h:D2 t=true):1<=t.1.length/\t.1.length<=4/\1<=t.2.1.length/\t.2.1.length<=4/\t.2.2.length=t.1.length*t.2.1.length/\1<=t.2.2.length/\t.2.2.length<=16:=by
 simp only[D2,ba,dq] at h;obtain⟨⟨⟨e,f⟩,g⟩,_⟩:=h;obtain⟨c,a⟩:=Dw e;obtain⟨d,b⟩:=Dw f;have j:1*1<=t.1.length*t.2.1.length:=Nat.mul_le_mul c d;have i:t.1.length*t.2.1.length<=4*4:=Nat.mul_le_mul a b;exact⟨c,a,d,b,g,by omega,by omega⟩
def Bh(xs:List Int):Int:=fN (fun i m=>min m (xs.getD (i+1) 0)) (xs.length-1) (xs.getD 0 0)
def I8(l:List Fk)(p:Bool):Bool:=decide (l.length=2)&&l.all fun t=>D2 t&&!(p&&decide (Bh t.2.2<0))
theorem BN{b:Type}(l:List b)(p:b->Bool):(!l.any fun x=>!p x)=l.all p:=by
 induction l with
 | nil=>rfl
 | cons a r c=>simp only[List.any_cons,List.all_cons,Bool.not_or,Bool.not_not,c]
end Go.Proofs.Xd
end
section
namespace Go.Proofs.Xd
open Go Go.Proofs.Sv Go.Proofs.Xv Go.Proofs.Xl
theorem q0Y(s:ByteArray):∀n,BK s n=!(List.range n).any fun i=>!Gr (H9 s i) i
 | 0=>rfl
 | n+1=>by
   rw[BK,q0Y s n,List.range_succ,List.any_append,Bool.not_or];simp
def Q8(f:Nat->ByteArray)(i:Nat):Bool:=(List.range i).any fun k=>decide (f k=f i)
def D5(n:Nat)(f:Nat->ByteArray):Bool:=!(List.range n).any fun i=>!K2 (f i)||Q8 f i
theorem n0v{n:Nat}{f g:Nat->ByteArray}(h:∀i,i<n->f i=g i):D5 n f=D5 n g:=by
 unfold D5;congr 1;refine NW fun i hi=>?_;rw[h i hi];congr 1;unfold Q8;refine NW fun k a=>?_;rw[h i hi,h k (by omega)]
theorem x0L(l:List ByteArray)(d:ByteArray)(i:Nat)(h:i<l.length):((l.take i).any fun y=>decide (l.getD i d=y))=Q8 (fun k=>l.getD k d) i:=by
 have b:(l.take i).length=i:=by rw[List.length_take]; omega
 rw[<- V7 (l.take i) d (fun y=>decide (l.getD i d=y)),b];unfold Q8;refine NW fun k a=>?_;have:(l.take i).getD k d=l.getD k d:=by
  rw[gq,gq,List.getElem?_take_of_lt a]
 rw[this,decide_eq_decide];exact eq_comm
theorem w0b{a b:Type}(f:a->b)(l:List a)(i:Nat)(d:a)(e:b)(h:i<l.length):(l.map f).getD i e=f (l.getD i d):=by
 rw[gq,gq,List.getElem?_map,List.getElem?_eq_getElem h]; rfl
theorem v0c{a b:Type}(l:List a)(d:a)(f:a->b):(List.range l.length).map (fun i=>f (l.getD i d))=l.map f:=by
 apply List.ext_getElem?;intro i;rw[List.getElem?_map,List.getElem?_map];by_cases h:i<l.length
 ·rw[List.getElem?_range h,List.getElem?_eq_getElem h];show some (f (l.getD i d))=some (f l[i]);rw[gq,List.getElem?_eq_getElem h]; rfl
 ·rw[List.getElem?_eq_none (by simpa using h),List.getElem?_eq_none (by omega)]; rfl
def CJ(n:Nat)(q:P2)(i:Nat):Bool:=j6 q.2.2.1 0 500&&(if i+1=n then q.2.1==2&&q.2.2.1==0&&!q.2.2.2 else q.2.1==1)
def Bi(n:Nat)(p:Nat->P2):Bool:=decide (2<=n)&&decide (n<=5)&&D5 n (fun i=>(p i).1)&&!(List.range n).any fun i=>!CJ n (p i) i
def J9(n:Nat)(p:Nat->P2):Int:=fN (fun i s=>if(p i).2.2.2=true then s+1 else s) n 0
def Gw(n:Nat)(p:Nat->P2):Int:=match(List.range n).find? (fun i=>(p i).2.2.2) with | some i=>(i:Int) | none => -1
def Kg(a:Nat->G5)(i:Nat):Bool:=(List.range i).any fun k=>(a k).1==(a i).1&&(a k).2.1==(a i).2.1&&(a k).2.2.1==(a i).2.2.1
def I2(n:Nat)(p:Nat->P2)(a:G5):Bool :=
 j6 a.2.1 0 ((n:Int)-1-1)&&j6 a.2.2.1 0 ((n:Int)-1) &&
 if a.1=1 then !(p a.2.1.toNat).2.2.2&&a.2.2.1==(n:Int)-1&&j6 a.2.2.2.1 1 3&&I8 a.2.2.2.2.1 true&&I8 a.2.2.2.2.2 true
 else if a.1=2∨a.1=3 then(p a.2.1.toNat).2.2.2&&a.2.2.1==(n:Int)-1&&a.2.2.2.1==0&&I8 a.2.2.2.2.1 true&&I8 a.2.2.2.2.2 true
 else if a.1=4∨a.1=5 then(p a.2.1.toNat).2.2.2&&decide (a.2.2.1 < (n:Int)-1)&&!(p a.2.2.1.toNat).2.2.2&&a.2.2.2.1==0&&I8 a.2.2.2.2.1 false&&(a.2.2.2.2.2.length:Int)==0
 else false
def Fm(n:Nat)(p:Nat->P2)(a:G5):Bool :=
 if a.1=4∨a.1=5 then a.2.2.2.1==0&&(a.2.2.2.2.2.length:Int)==0&&I8 a.2.2.2.2.1 false&&a.2.1==Gw n p&&decide (0<=a.2.1)&&j6 a.2.2.1 0 ((n:Int)-1-1)&&a.2.2.1 != a.2.1
 else I8 a.2.2.2.2.1 true&&I8 a.2.2.2.2.2 true&&a.2.2.1==(n:Int)-1&&j6 a.2.1 0 ((n:Int)-1-1) &&
  if a.1=1 then !(p a.2.1.toNat).2.2.2&&j6 a.2.2.2.1 1 3
  else if a.1=2∨a.1=3 then(p a.2.1.toNat).2.2.2&&a.2.2.2.1==0
  else false
theorem w0z(p:Nat->P2):∀n,0<=J9 n p/\J9 n p<=n
 | 0=>⟨Int.le_refl _,Int.le_refl _⟩
 | n+1=>by
   have:=w0z p n
   grind[J9,fN]
theorem r0F{p:Nat->P2}:∀{n i:Nat},i<n->(p i).2.2.2=true->1<=J9 n p
 | n+1,i,hi,h=>by
   have b:=(w0z p n).1;have c:i<n->1<=J9 n p:=fun a=>r0F a h;unfold J9 at *
   rw[fN]
   grind
theorem r0E{p:Nat->P2}:∀{n i j:Nat},i<j->j<n->(p i).2.2.2=true->(p j).2.2.2=true->2<=J9 n p
 | n+1,i,j,hij,hj,h,k=>by
   have c:j<n->2<=J9 n p:=fun a=>r0E hij a h k;have b:i<n->1<=J9 n p:=fun a=>r0F a h;unfold J9 at *
   rw[fN]
   grind
theorem E0O{p:Nat->P2}{n i:Nat}(d:J9 n p<=1)(hi:i<n):(p i).2.2.2=decide (Gw n p=(i:Int)):=by
 unfold Gw;cases h:(List.range n).find? (fun i=>(p i).2.2.2) with
 | none =>
   grind
 | some j =>
   have b:=List.find?_some h;have f:=List.mem_range.1 (List.mem_of_find?_eq_some h);show _=decide ((j:Int)=(i:Int));by_cases e:j=i
   ·grind
   ·rw[decide_eq_false (by omega),<- Bool.not_eq_true];intro c;rcases Nat.lt_or_gt_of_ne e with a | a
    ·have:=r0E (p:=p) a hi b c; omega
    simp_all
theorem E0N{p:Nat->P2}{n:Nat}:Gw n p<n:=by
 grind[Gw,List.range,List.mem_of_find?_eq_some]
theorem Kh{p:Nat->P2}{n:Nat}(h:Bi n p=true):2<=n/\n<=5/\(p (n-1)).2.2.2=false:=by
 grind[Bi,CJ]
theorem VI{p:Nat->P2}{n:Nat}(h:Bi n p=true)(j:J9 n p<=1)(a:G5):Fm n p a=I2 n p a:=by
 obtain⟨s,t,i⟩:=Kh h;obtain⟨b,r,q,m,de,u⟩:=a;rw[Bool.eq_iff_iff];unfold Fm I2;dsimp only;have f:∀x:Int,0<=x->x<=(n:Int)-1->(p x.toNat).2.2.2=decide (Gw n p=x):=fun x o l=>by
  rw[E0O j (by omega)];rw[decide_eq_decide]; omega
 have d:Gw n p≠(n:Int)-1:=fun e=>by
  have:=f ((n:Int)-1) (by omega) (by omega);have g:((n:Int)-1).toNat=n-1:=by omega
  rw[g,i,decide_eq_true e] at this;cases this
 have k:=E0N (p:=p) (n:=n);by_cases Dl:b=4∨b=5
 ·rw[if_pos Dl,if_neg (by omega),if_neg (by omega),if_pos Dl];simp only[ba,B3,dq,beq_iff_eq,bne_iff_ne,Bool.not_eq_true']
  grind
 ·rw[if_neg Dl];by_cases c:b=1
  ·rw[if_pos c,if_pos c];simp only[ba,B3,beq_iff_eq]
   grind
  ·rw[if_neg c,if_neg c];by_cases QZ:b=2∨b=3
   ·rw[if_pos QZ,if_pos QZ];simp only[ba,B3,beq_iff_eq]
    grind
   grind
def I3(m:Nat)(a:Nat->G5)(k:Int):Bool:=(List.range m).any fun i=>(a i).1==k
def Ki(k:Int)(n:Nat)(p:Nat->P2)(m:Nat)(a:Nat->G5)(tr:List Int):Bool :=
 if k=1 then J9 n p==0&&(tr.length:Int)==1*2 ^ (n-1)&&tr.all (j6 · 0 1)
 else if k=2 then J9 n p==1&&(tr.length:Int)==0&&!I3 m a 1&&!(I3 m a 2==I3 m a 3)
 else if k=3 then J9 n p==1&&(tr.length:Int)==0&&I3 m a 1&&I3 m a 2&&!I3 m a 3
 else false
theorem y0J{k:Int}{n:Nat}{p:Nat->P2}{m:Nat}{a:Nat->G5}{b:List Int}(h:Ki k n p m a b=true):J9 n p<=1:=by
 grind[Ki]
def Ic(q:G5->Bool)(m:Nat)(a:Nat->G5):Bool:=decide (m<=8)&&!(List.range m).any fun i=>!q (a i)||Kg a i
def Y4(q:Nat->(Nat->P2)->G5->Bool)(nm:ByteArray)(k:Int)(n:Nat)(p:Nat->P2)(m:Nat)(a:Nat->G5)(tr:List Int)(lk en:Int):Bool :=
 K2 nm&&Bi n p&&Ic (q n p) m a&&j6 lk 0 100000&&j6 en 0 100000&&Ki k n p m a tr
theorem E0Q(d:ByteArray)(k:Int)(n:Nat)(p:Nat->P2)(m:Nat)(a:Nat->G5)(b:List Int)(lk c:Int):Y4 Fm d k n p m a b lk c=Y4 I2 d k n p m a b lk c:=by
 unfold Y4;cases hp:Bi n p with
 | false=>simp
 | true =>
   cases hk:Ki k n p m a b with
   | false=>simp
   | true =>
     have:Fm n p=I2 n p:=funext fun x=>VI hp (y0J hk) x;rw[this]
theorem u0y{a:Type}(l:List a)(d:a)(q:a->Bool)(i:Nat)(h:i<=l.length):(l.take i).any q=(List.range i).any fun k=>q (l.getD k d):=by
 have c:(l.take i).length=i:=by rw[List.length_take]; omega
 rw[<- V7 (l.take i) d q,c];refine NW fun k b=>?_;rw[gq,gq,List.getElem?_take_of_lt b]
theorem o0m{n:Nat}{p:Nat->P2}{a:G5}(h:I2 n p a=true):1<=a.1/\a.1<=5:=by
 grind[I2]
theorem C0e{n:Nat}(h:n<=5) : -9223372036854775808<=(1:Int)*2 ^ (n-1)/\(1:Int)*2 ^ (n-1)<=9223372036854775807:=by
 have:∀k:Fin 6,-9223372036854775808<=(1:Int)*2 ^ (k.val-1)/\(1:Int)*2 ^ (k.val-1)<=9223372036854775807:=by decide
 exact this ⟨n,by omega⟩
def Ie(a:Nat->G5)(k:Int)(m:Nat):Int:=fN (fun i s=>if(a i).1=k then s+1 else s) m 0
theorem NX(a:Nat->G5)(k:Int):∀m,0<=Ie a k m/\Ie a k m<=m
 | 0=>⟨Int.le_refl _,Int.le_refl _⟩
 | m+1=>by
   have:=NX a k m
   grind[Ie,fN]
theorem Kj(a:Nat->G5)(k:Int):∀m,I3 m a k=decide (0<Ie a k m)
 | 0=>rfl
 | m+1=>by
   have c:=Kj a k m;have b:=(NX a k m).1
   grind[I3,Ie,fN]
def Ig(a:Nat->G5)(i:Nat)(v:List Int):List Int:=v.set (a i).1.toNat (v.getD (a i).1.toNat 0+1)
theorem VJ(a:Nat->G5):∀m,(∀i,i<m->1<=(a i).1/\(a i).1<=5)->(fN (Ig a) m (List.replicate 6 0)).length=6/\∀k:Nat,k<6->(fN (Ig a) m (List.replicate 6 0)).getD k 0=Ie a k m
 | 0,_=>⟨by simp[fN],fun k b=>by
   have:∀k:Fin 6,(List.replicate 6 (0:Int)).getD k.val 0=0:=by decide
   exact this ⟨k,b⟩⟩
 | m+1,h=>by
   obtain⟨c,d⟩:=VJ a m (fun i hi=>h i (by omega))
   grind[fN,Ig,Ie]
def CK(v:List Int)(x:Int):List Int:=v.set x.toNat (v.getD x.toNat 0+1)
def AI(v:List Int)(n b:Nat):Prop:=v.length=n/\∀k:Nat,0<=v.getD k 0/\v.getD k 0<=(b:Int)
theorem Ri(n b:Nat):AI (List.replicate n 0) n b:=by
 refine⟨List.length_replicate,fun k=>?_⟩;rw[gq,List.getElem?_replicate];split <;> (show(0:Int)<=0/\(0:Int)<=b; omega)
theorem Kk{v:List Int}{n b:Nat}(h:AI v n b)(x:Int):AI (CK v x) n (b+1):=by
 refine⟨by unfold CK; rw[List.length_set]; exact h.1,fun k=>?_⟩;have a:=h.2 x.toNat;have c:=h.2 k;unfold CK;rw[gq,List.getElem?_set];by_cases e:x.toNat=k
 ·rw[if_pos e];split
  ·rw[Option.getD_some]; omega
  ·show(0:Int)<=0/\(0:Int)<=_; omega
 ·rw[if_neg e,<- gq]; omega
theorem VK{v:List Int}{n b a:Nat}(h:AI v n b)(c:b<=a):AI v n a:=⟨h.1,fun k=>by have:=h.2 k; omega⟩
theorem y0E{v:List Int}{n b:Nat}(h:AI v n b){x:Int}(a:j6 x 0 ((n:Int)-1)=true):ix x v.length/\x.toNat<v.length:=by
 rw[B3] at a;rw[ix,h.1];omega
def Dx(n:Nat)(ok:Nat->Bool)(nm:Nat->ByteArray):Bool:=!((List.range n).any fun i=>!ok i||Q8 nm i)&&decide (n<=8)
theorem I0S{n:Nat}{b:Nat->Bool}{a:Nat->ByteArray}(h:∀i,i<n->b i=true->K2 (a i)=true):(if((List.range n).any fun i=>!b i)=true then false else decide (n<=8)&&D5 n a)=Dx n b a:=by
 unfold Dx D5;have e:((List.range n).any fun i=>!b i||Q8 a i)=(((List.range n).any fun i=>!b i)||(List.range n).any fun i=>Q8 a i):=Rj _ _;rw[e];cases ha:(List.range n).any fun i=>!b i with
 | true=>rfl
 | false =>
   have d:=(Dy (n:=n) (c:=fun i=>!b i)).1 (by rw[ha]; rfl);have:((List.range n).any fun i=>!K2 (a i)||Q8 a i)=(List.range n).any fun i=>Q8 a i:=NW fun i hi=>by
    have:=d i hi;rw[Bool.not_eq_false'] at this;rw[h i hi this]; rfl
   rw[this,if_neg (by simp),Bool.false_or,Bool.and_comm]
def U4(nc:Nat)(P4:Int->Nat)(nn:Nat)(x:G9):Bool:=j6 x.2.1 0 ((nc:Int)-1)&&(x.2.2.length:Int)==(P4 x.2.1:Int)&&x.2.2.all fun y=>j6 y 0 ((nn:Int)-1)
def U5(nn:Nat)(x:P3):Bool:=j6 x.2.1 1 2&&j6 x.2.2 0 ((nn:Int)-1)
def V8(x:Nat->G9)(i:Nat)(v:List Int):List Int:=CK v ((x i).2.2.getD ((x i).2.2.length-1) 0)
def O5(x:Nat->P3)(i:Nat)(v:List Int):List Int:=if(x i).2.1=1 then CK v (x i).2.2 else v
def Gx(ni np nn:Nat)(x:Nat->G9)(y:Nat->P3):List Int:=fN (O5 y) np (fN (V8 x) ni (List.replicate nn 0))
theorem VL(x:Nat->G9)(a:Nat):∀i,AI (fN (V8 x) i (List.replicate a 0)) a i
 | 0=>Ri a 0
 | i+1=>Kk (VL x a i) _
def Dz(lib:Bool)(nc:Nat)(P4:Int->Nat)(ni np nn:Nat)(x:Nat->G9)(y:Nat->P3)(nets:Nat->ByteArray):Bool :=
 lib&&decide (ni<=14)&&decide (nn<=30)&&decide (np<=8)&&D5 ni (fun i=>(x i).1)&&D5 nn nets&&D5 np (fun i=>(y i).1) &&
  !((List.range ni).any fun i=>!U4 nc P4 nn (x i))&&!((List.range np).any fun i=>!U5 nn (y i))&&(Gx ni np nn x y).all (·==1)
def BO(w:VG)(n:Int):Bool :=
 decide (1<=w.1.length)&&decide (w.1.length<=8)&&decide (w.2.1.length=w.1.length)&&decide (w.2.2.1.length=w.1.length)&&(w.2.2.2.length:Int)==n &&
  w.2.1.all (j6 · 0 1000)&&w.2.2.1.all (j6 · 0 500)&&w.2.2.2.all (j6 · 0 ((w.1.length:Int)-1)) &&
  !(List.range w.1.length).any fun i=>(i==0&&(w.1.getD i 0 != -1||w.2.1.getD 0 0 != 0))||(decide (0<i)&&!j6 (w.1.getD i 0) 0 ((i:Int)-1))
abbrev C0:=Int×Int×Int×Bool
def V9(x:G9)(i:Int)(k:Nat)(s:List C0):List C0:=s++[(i,(k:Int),x.2.2.getD k 0,(k:Int)==(x.2.2.length:Int)-1)]
def S5(y:Nat->P3)(i:Nat)(s:List C0):List C0:=s++[(-1,(i:Int),(y i).2.2,(y i).2.1==1)]
def Q9(x:Nat->G9)(i:Nat)(s:List C0):List C0:=fN (V9 (x i) i) (x i).2.2.length s
def P5(ni np:Nat)(x:Nat->G9)(y:Nat->P3):List C0:=fN (S5 y) np (fN (Q9 x) ni [])
theorem Ih(x:G9)(i:Int)(s:List C0):∀k,(fN (V9 x i) k s).length=s.length+k
 | 0=>rfl
 | k+1=>by
   rw[fN,V9,List.length_append,Ih x i s k]; rfl
theorem NY(y:Nat->P3)(s:List C0):∀k,(fN (S5 y) k s).length=s.length+k
 | 0=>rfl
 | k+1=>by
   rw[fN,S5,List.length_append,NY y s k]; rfl
def Fo(pl:Nat->C0)(i:Nat)(v:List Int):List Int:=if(pl i).2.2.2=false then CK v (pl i).2.2.1 else v
def A8(pl:Nat->C0)(t:Int)(m:Nat):Int:=fN (fun i s=>if((pl i).2.2.1==t&&!(pl i).2.2.2)=true then s+1 else s) m 0
theorem N4(pl:Nat->C0)(t:Int):∀m,0<=A8 pl t m/\A8 pl t m<=m
 | 0=>⟨Int.le_refl _,Int.le_refl _⟩
 | m+1=>by
   have:=N4 pl t m;unfold A8 at *
   rw[fN];split <;> omega
theorem m0Y(pl:Nat->C0)(n:Nat):∀m,(∀i,i<m->j6 (pl i).2.2.1 0 ((n:Int)-1)=true)->(fN (Fo pl) m (List.replicate n 0)).length=n/\∀k:Nat,k<n->(fN (Fo pl) m (List.replicate n 0)).getD k 0=A8 pl k m
 | 0,_=>⟨by simp[fN],fun k b=>by
   show(List.replicate n (0:Int)).getD k 0=0;rw[gq,List.getElem?_replicate,if_pos b]; rfl⟩
 | m+1,h=>by
   obtain⟨c,d⟩:=m0Y pl n m (fun i hi=>h i (by omega));have f:=B3.1 (h m (by omega));rw[fN];generalize fN (Fo pl) m (List.replicate n 0)=v at *
   unfold Fo;have e:∀k:Nat,A8 pl k (m+1)=if((pl m).2.2.1==(k:Int)&&!(pl m).2.2.2)=true then A8 pl k m+1 else A8 pl k m:=fun k=>by unfold A8; rw[fN]
   cases hd:(pl m).2.2.2 with
   | true =>
     refine⟨by rw[if_neg (by simp)]; exact c,fun k b=>?_⟩;rw[if_neg (by simp),d k b,e,hd,if_neg (by simp)]
   | false =>
     rw[if_pos rfl];unfold CK;refine⟨by rw[List.length_set]; exact c,fun k b=>?_⟩;rw[e,hd,gq,List.getElem?_set];by_cases a:(pl m).2.2.1.toNat=k
     ·rw[if_pos a,if_pos (by rw[c]; omega),if_pos (by simp; omega),Option.getD_some,a,d k b]
     ·rw[if_neg a,if_neg (by simp; omega),<- gq,d k b]
def P6(pl:Nat->C0)(t:Int)(i:Nat)(s:List Int):List Int:=if((pl i).2.2.1==t&&!(pl i).2.2.2)=true then s++[(i:Int)] else s
theorem NZ(pl:Nat->C0)(t:Int):∀m,((fN (P6 pl t) m []).length:Int)=A8 pl t m
 | 0=>rfl
 | m+1=>by
   have:=NZ pl t m;rw[fN];unfold A8 at *
   rw[fN];unfold P6 at *
   split
   ·rw[List.length_append];show((_+1:Nat):Int)=_;omega
   ·exact this
def Kl(n:Nat)(s:List C0):Prop:=∀p∈s,j6 p.2.2.1 0 ((n:Int)-1)=true
theorem r0m{n:Nat}{x:G9}{i:Int}(b:∀k,k<x.2.2.length->j6 (x.2.2.getD k 0) 0 ((n:Int)-1)=true){s:List C0}(a:Kl n s):∀k,k<=x.2.2.length->Kl n (fN (V9 x i) k s)
 | 0,_=>a
 | k+1,hk=>by
   rw[fN,V9];intro p c;rcases List.mem_append.1 c with h | h
   ·exact r0m b a k (by omega) p h
   ·cases List.mem_singleton.1 h;exact b k (by omega)
theorem k0Q{n:Nat}{x:Nat->G9}{ni:Nat}(a:∀i,i<ni->∀k,k < (x i).2.2.length->j6 ((x i).2.2.getD k 0) 0 ((n:Int)-1)=true):∀i,i<=ni->Kl n (fN (Q9 x) i [])
 | 0,_=>fun p b=>by cases b
 | i+1,hi=>by
   rw[fN,Q9];exact r0m (a i (by omega)) (k0Q a i (by omega)) _ (Nat.le_refl _)
theorem q0H{n:Nat}{y:Nat->P3}{np:Nat}(b:∀i,i<np->j6 (y i).2.2 0 ((n:Int)-1)=true){s:List C0}(a:Kl n s):∀k,k<=np->Kl n (fN (S5 y) k s)
 | 0,_=>a
 | k+1,hk=>by
   rw[fN,S5];intro p c;rcases List.mem_append.1 c with h | h
   ·exact q0H b a k (by omega) p h
   ·cases List.mem_singleton.1 h;exact b k (by omega)
theorem Rl{x:Nat->G9}{ni:Nat}(a:∀i,i<ni->(x i).2.2.length<=5):∀i,i<=ni->(fN (Q9 x) i []).length<=5*i
 | 0,_=>Nat.le_refl _
 | i+1,hi=>by
   rw[fN,Q9,Ih];have:=Rl a i (by omega);have:=a i (by omega);omega
theorem L8{a:Type}{l:List a}{i:Nat}{d:a}(h:i<l.length):l.getD i d∈l:=by
 rw[gq,List.getElem?_eq_getElem h];exact List.getElem_mem h
theorem Km{l:List Int}{p:Int->Bool}(h:l.all p=true){i:Nat}(hi:i<l.length):p (l.getD i 0)=true:=List.all_eq_true.1 h _ (L8 hi)
structure DesignFacts(nc:Nat)(P4:Int->Nat)(ni np nn:Nat)(x:Nat->G9)(y:Nat->P3):Prop where
 ni14:ni<=14
 np8:np<=8
 nn30:nn<=30
 inst:∀i,i<ni->U4 nc P4 nn (x i)=true
 port:∀i,i<np->U5 nn (y i)=true
theorem o0a{a:Bool}{c:Nat}{P4:Int->Nat}{ni np d:Nat}{x:Nat->G9}{y:Nat->P3}{b:Nat->ByteArray}(h:Dz a c P4 ni np d x y b=true):a=true/\DesignFacts c P4 ni np d x y:=by
 unfold Dz at h;simp only[ba,dq] at h;obtain⟨⟨⟨⟨⟨⟨⟨⟨⟨l,g⟩,f⟩,j⟩,_⟩,_⟩,_⟩,k⟩,e⟩,_⟩:=h;refine⟨l,g,j,f,fun i hi=>?_,fun i hi=>?_⟩
 ·have:=Dy.1 k i hi
  rwa [Bool.not_eq_false'] at this
 ·have:=Dy.1 e i hi
  rwa [Bool.not_eq_false'] at this
theorem DesignFacts.net{b:Nat}{P4:Int->Nat}{ni np a:Nat}{x:Nat->G9}{y:Nat->P3}(h:DesignFacts b P4 ni np a x y):(∀i,i<ni->∀k,k < (x i).2.2.length->j6 ((x i).2.2.getD k 0) 0 ((a:Int)-1)=true)/\∀i,i<np->j6 (y i).2.2 0 ((a:Int)-1)=true:=by
 refine⟨fun i hi k c=>?_,fun i hi=>?_⟩
 ·have:=h.inst i hi;unfold U4 at this;rw[ba] at this;exact Km (p:=fun y=>j6 y 0 ((a:Int)-1)) this.2 c
 ·have:=h.port i hi;unfold U5 at this;rw[ba] at this;exact this.2
end Go.Proofs.Xd
end
section
namespace Go.Proofs.Xd
open Go Go.Proofs Go.Proofs.Xl
def Gy(v:List Int)(i:Nat)(x:Int):List Int:=v.set i (v.getD i 0+x)
theorem o0s{v:List Int}{i:Nat}{x:Int}:(Gy v i x).length=v.length:=by grind[Gy]
theorem Rm{v:List Int}{i j:Nat}{x:Int}(hi:i<v.length):(Gy v i x).getD j 0=if j=i then v.getD i 0+x else v.getD j 0:=by
 grind[Gy]
def AJ(v:List Int)(k:Nat):Int:=fN (fun i s=>s+v.getD i 0) k 0
theorem Kn(v:List Int)(k:Nat):AJ v (k+1)=AJ v k+v.getD k 0:=rfl
theorem VM{v:List Int}{i:Nat}{x:Int}(hi:i<v.length):∀k,AJ (Gy v i x) k=AJ v k+if i<k then x else 0
 | 0=>by simp[AJ,fN]
 | k+1=>by
   rw[Kn,Kn,VM hi k,Rm hi];by_cases h:k=i
   ·subst h; simp; omega
   ·rw[if_neg h];by_cases a:i<k
    ·rw[if_pos a,if_pos (by omega)]; omega
    ·rw[if_neg a,if_neg (by omega)]; omega
theorem m0Q{v:List Int}(a:∀j,0<=v.getD j 0):∀k,0<=AJ v k
 | 0=>by simp[AJ,fN]
 | k+1=>by have:=m0Q a k; grind[Kn]
theorem VN{v:List Int}(a:∀j,0<=v.getD j 0):∀{k j:Nat},j<k->v.getD j 0<=AJ v k
 | k+1,j,h=>by
   rw[Kn];have b:=m0Q a k;have c:=a k;by_cases e:j=k
   ·grind
   ·have:=VN a (k:=k) (j:=j) (by omega); omega
structure Low(v:List Int)(n:Nat)(S:Int):Prop where
 len:v.length=n
 pos:∀j,0<=v.getD j 0
 sum:AJ v n<=S
theorem q0r{v:List Int}{c:Int}(a:∀j,v.getD j 0<=c):∀k:Nat,AJ v k<=c*(k:Int)
 | 0=>by simp[AJ,fN]
 | k+1=>by
   have:=q0r a k
   grind[Kn,Int.natCast_add,Int.mul_add]
theorem E0i{v:List Int}{n:Nat}(b:v.length=n)(h:v.all (j6 · 0 500)=true):Low v n (500*(n:Int)):=by
 have a:∀j,0<=v.getD j 0/\v.getD j 0<=500:=fun j=>by
  grind[Nat.lt_or_ge,B3,Km,j6,List.getElem?_eq_none]
 exact⟨b,fun j=>(a j).1,q0r (fun j=>(a j).2) n⟩
theorem Low.bd{v:List Int}{n:Nat}{S:Int}(h:Low v n S)(b:0<=S)(j:Nat):0<=v.getD j 0/\v.getD j 0<=S:=by
 refine⟨h.pos j,?_⟩;rcases Nat.lt_or_ge j n with a | a
 ·exact Int.le_trans (VN h.pos a) h.sum
 ·rw[gq,List.getElem?_eq_none (by rw[h.len]; exact a)]; exact b
theorem Low.add{v:List Int}{n:Nat}{S:Int}(h:Low v n S){i:Nat}(hi:i<n){x:Int}(b:0<=x):Low (Gy v i x) n (S+x):=by
 have a:i<v.length:=by rw[h.len]; exact hi
 refine⟨by rw[o0s]; exact h.len,fun j=>?_,?_⟩
 ·rw[Rm a];have:=h.pos i;have:=h.pos j;omega
 ·rw[VM a,if_pos hi]; have:=h.sum; omega
def CL(s c:Nat->Int)(i:Nat)(v:List Int):List Int:=Gy v (s i).toNat (c i)
theorem r0I{s c:Nat->Int}{v:List Int}{n:Nat}{S:Int}(h:Low v n S):∀m,(∀i,i<m->0<=s i/\(s i).toNat<n/\0<=c i/\c i<=500)->Low (fN (CL s c) m v) n (S+500*(m:Int))
 | 0,_=>⟨h.len,h.pos,by have:=h.sum; show AJ v n<=_; omega⟩
 | m+1,hm=>by
   have a:=r0I h m (fun i hi=>hm i (by omega));obtain⟨e,b,d,f⟩:=hm m (by omega);have:=a.add b d;refine⟨this.len,this.pos,?_⟩;have:=this.sum;rw[Int.natCast_add,Int.mul_add];refine Int.le_trans this ?_;omega
def Y5(P:Nat->Int)(n k:Nat)(v:List Int):List Int:=Gy v (P (n-1-k)).toNat (v.getD (n-1-k) 0)
structure Ko(v:List Int)(n k:Nat)(S:Int):Prop where
 len:v.length=n
 pos:∀j,0<=v.getD j 0
 bd:∀j,v.getD j 0<=S
 sum:AJ v (n-k)<=S
theorem VP{P:Nat->Int}{v:List Int}{n k:Nat}{S:Int}(h:Ko v n k S)(_:k<n-1)(f:0<=P (n-1-k)/\(P (n-1-k)).toNat<n-1-k):Ko (Y5 P n k v) n (k+1) S:=by
 have b:(P (n-1-k)).toNat<v.length:=by rw[h.len]; omega
 have a:∀j,0<=(Y5 P n k v).getD j 0:=fun j=>by
  unfold Y5;rw[Rm b];have:=h.pos (P (n-1-k)).toNat;have:=h.pos (n-1-k);have:=h.pos j;omega
 have d:AJ (Y5 P n k v) (n-(k+1))<=S:=by
  unfold Y5;have e:n-(k+1)=n-1-k:=by omega
  rw[VM b,e,if_pos f.2];have:=h.sum;rw[show n-k=(n-1-k)+1 by omega,Kn] at this;exact this
 refine⟨by unfold Y5; rw[o0s]; exact h.len,a,fun j=>?_,d⟩;by_cases e:j=(P (n-1-k)).toNat
 ·have c:j<n-(k+1):=by omega
  exact Int.le_trans (VN a c) d
 ·unfold Y5;rw[Rm b,if_neg e];exact h.bd j
theorem n0f{P:Nat->Int}{v:List Int}{n:Nat}{S:Int}(h:Low v n S)(a:0<=S)(b:∀i,0<i->i<n->0<=P i/\(P i).toNat<i):∀k,k<=n-1->Ko (fN (Y5 P n) k v) n k S
 | 0,_=>⟨h.len,h.pos,fun j=>(h.bd a j).2,h.sum⟩
 | k+1,hk=>VP (n0f h a b k (by omega)) (by omega) (b _ (by omega) (by omega))
def I0Q(cap:List Int)(n m:Nat)(s c P:Nat->Int):List Int:=fN (Y5 P n) (n-1) (fN (CL s c) m cap)
theorem Kp{a:Type}{l r:List a}{d:a}{i:Nat}(h:i<l.length):(l++r).getD i d=l.getD i d:=by
 grind
theorem VR{a:Type}{l r:List a}{d:a}{i:Nat}(h:l.length<=i):(l++r).getD i d=r.getD (i-l.length) d:=by
 grind
def U6(P R L:Nat->Int)(k:Nat)(s:List Int):List Int:=s++[s.getD (P (k+1)).toNat 0+R (k+1)*L (k+1)]
def E0G(n:Nat)(P R L:Nat->Int):List Int:=fN (U6 P R L) (n-1) [0]
theorem Oa{a b A B:Int}(c:0<=a)(d:a<=A)(e:0<=b)(f:b<=B):0<=a*b/\a*b<=A*B :=
 ⟨Int.mul_nonneg c e,Int.mul_le_mul d f e (Int.le_trans c d)⟩
theorem w0p{P R L:Nat->Int}{n:Nat}{S:Int}(a:∀i,i<n->0<=R i/\R i<=1000)(b:∀i,i<n->0<=L i/\L i<=S)(h:0<=S):∀k,k<=n-1->(fN (U6 P R L) k [0]).length=k+1/\∀j,0<=(fN (U6 P R L) k [0]).getD j 0/\(fN (U6 P R L) k [0]).getD j 0<=1000*S*(k:Int)
 | 0,_=>⟨rfl,fun j=>by
   grind[fN]⟩
 | k+1,hk=>by
   obtain⟨c,g⟩:=w0p a b h k (by omega);have l:=Oa (a (k+1) (by omega)).1 (a (k+1) (by omega)).2 (b (k+1) (by omega)).1 (b (k+1) (by omega)).2;have f:0<=1000*S*(k:Int):=Int.mul_nonneg (by omega) (by omega);have e:1000*S*((k+1:Nat):Int)=1000*S*(k:Int)+1000*S:=by rw[Int.natCast_add,Int.mul_add]; simp
   have d:fN (U6 P R L) (k+1) [0]=U6 P R L k (fN (U6 P R L) k [0]):=rfl;rw[d];generalize fN (U6 P R L) k [0]=s at c g
   grind[U6,List.length_append,Nat.lt_or_ge,Kp,VR,List.getD_cons_zero,List.getD_cons_succ,List.getD_nil]
theorem z0j{s:List Int}{k n:Nat}{x:Int}(a:s.length=k+1)(b:k+1<n):(s++List.replicate (n-1-k) 0).set (k+1) x=(s++[x])++List.replicate (n-1-(k+1)) 0:=by
 have e:n-1-k=(n-1-(k+1))+1:=by omega
 rw[e,List.replicate_succ,List.set_append_right _ _ (by omega),a,Nat.sub_self,List.set_cons_zero,List.append_assoc];rfl
theorem z0k{s:List Int}{k n p:Nat}(a:s.length=k+1)(b:p<k+1):(s++List.replicate (n-1-k) 0).getD p 0=s.getD p 0:=Kp (by omega)
def Ii(D:List Int)(S:Nat->Int)(i:Nat)(s:List Int):List Int:=s++[D.getD (S i).toNat 0]
theorem VT(D:List Int)(S:Nat->Int):∀i,(fN (Ii D S) i []).length=i
 | 0=>rfl
 | i+1=>by
   have:=VT D S i
   grind[Ii,fN,List.length_append]
theorem w0j(D:List Int)(S:Nat->Int):∀n i,i<n->(fN (Ii D S) n []).getD i 0=D.getD (S i).toNat 0
 | n+1,i,h=>by
   have b:=VT D S n;have a:=w0j D S n i
   grind[Ii,fN]
def Kq(ni np:Nat)(x:Nat->G9)(p:C0):Prop:=(p.1 = -1/\0<=p.2.1/\p.2.1.toNat<np)∨(0<=p.1/\p.1.toNat<ni/\0<=p.2.1/\p.2.1.toNat < (x p.1.toNat).2.2.length)
theorem k0Z{ni np:Nat}{x:Nat->G9}{i:Nat}(hi:i<ni){s:List C0}(b:∀p∈s,Kq ni np x p):∀k,k<=(x i).2.2.length->∀p∈fN (V9 (x i) i) k s,Kq ni np x p
 | 0,_=>b
 | k+1,hk=>fun p a=>by
   have a:p∈V9 (x i) i k (fN (V9 (x i) i) k s):=a;unfold V9 at a;rcases List.mem_append.1 a with a | a
   ·exact k0Z hi b k (by omega) p a
   ·cases List.mem_singleton.1 a;exact .inr ⟨Int.natCast_nonneg _,by omega,Int.natCast_nonneg _,by grind⟩
theorem h0H{ni np:Nat}{x:Nat->G9}:∀i,i<=ni->∀p∈fN (Q9 x) i [],Kq ni np x p
 | 0,_=>fun p a=>by cases a
 | i+1,hi=>k0Z (by omega) (h0H i (by omega)) _ (Nat.le_refl _)
theorem k0P{ni np:Nat}{x:Nat->G9}{y:Nat->P3}{s:List C0}(b:∀p∈s,Kq ni np x p):∀k,k<=np->∀p∈fN (S5 y) k s,Kq ni np x p
 | 0,_=>b
 | k+1,hk=>fun p a=>by
   have a:p∈S5 y k (fN (S5 y) k s):=a;unfold S5 at a;rcases List.mem_append.1 a with a | a
   ·exact k0P b k (by omega) p a
   ·cases List.mem_singleton.1 a;exact .inl ⟨rfl,Int.natCast_nonneg _,by grind⟩
theorem o0Y(ni np:Nat)(x:Nat->G9)(y:Nat->P3):∀p∈P5 ni np x y,Kq ni np x p:=k0P (h0H ni (Nat.le_refl _)) np (Nat.le_refl _)
theorem Rn(pl:Nat->C0)(t:Int):∀m,∀x∈fN (P6 pl t) m [],∃j:Nat,x=(j:Int)/\j<m/\(pl j).2.2.1=t/\(pl j).2.2.2=false
 | 0,x,h=>by cases h
 | m+1,x,h=>by
   have c:=Rn pl t m x;have h:x∈P6 pl t m (fN (P6 pl t) m []):=h;generalize fN (P6 pl t) m []=s at c h;unfold P6 at h;split at h
   ·rename_i d;rw[ba,beq_iff_eq,Bool.not_eq_true'] at d;rcases List.mem_append.1 h with h | h
    ·obtain⟨j,a,e,b⟩:=c h;exact⟨j,a,by omega,b⟩
    ·cases List.mem_singleton.1 h;exact⟨m,rfl,by omega,d⟩
   ·obtain⟨j,a,e,b⟩:=c h;exact⟨j,a,by omega,b⟩
structure o0u(w:VG)(n:Int):Prop where
 n1:1<=w.1.length
 n8:w.1.length<=8
 res:w.2.1.length=w.1.length
 cap:w.2.2.1.length=w.1.length
 snk:(w.2.2.2.length:Int)=n
 resIn:∀i,i<w.1.length->0<=w.2.1.getD i 0/\w.2.1.getD i 0<=1000
 capOk:w.2.2.1.all (j6 · 0 500)=true
 snkIn:∀i,i<w.2.2.2.length->0<=w.2.2.2.getD i 0/\(w.2.2.2.getD i 0).toNat<w.1.length
 par:∀i,0<i->i<w.1.length->0<=w.1.getD i 0/\(w.1.getD i 0).toNat<i
theorem r0V{w:VG}{n:Int}(h:BO w n=true):o0u w n:=by
 unfold BO at h;simp only[ba,dq,beq_iff_eq] at h;obtain⟨⟨⟨⟨⟨⟨⟨⟨l,g⟩,d⟩,j⟩,k⟩,e⟩,c⟩,b⟩,f⟩:=h;refine⟨l,g,d,j,k,fun i hi=>?_,c,fun i hi=>?_,fun i m hi=>?_⟩
 ·exact B3.1 (Km (p:=fun x=>j6 x 0 1000) e (by omega))
 ·have:=B3.1 (Km (p:=fun x=>j6 x 0 ((w.1.length:Int)-1)) b hi);omega
 ·have:=Dy.1 f i hi;rw[Bool.or_eq_false_iff] at this;have a:=this.2;rw[Bool.and_eq_false_iff,decide_eq_false_iff_not,Bool.not_eq_false',B3] at a;rcases a with h | h
  ·omega
  ·omega
abbrev u0:=Int×Int×Int×Int
def K3(k s:Int):List (Int×Int):=if(k==2)=true then [(0,0),(0,1)] else if(k==3)=true then [(1,0),(1,1)] else if(k != 1)=true then [] else if(s==1)=true then [(0,0),(1,1)] else if(s==2)=true then [(0,1),(1,0)] else [(0,0),(0,1),(1,0),(1,1)]
theorem Ro(k s:Int):(K3 k s).length<=4/\∀t∈K3 k s,0<=t.1/\t.1<=1/\0<=t.2/\t.2<=1:=by
 unfold K3;split
 ·grind
 split
 ·grind
 split
 ·grind
 grind
def AK(f a b x:Int)(tr:List (Int×Int))(k:Nat)(s:List u0):List u0:=s++[(2*(f+a)+(tr.getD k (0,0)).1,2*(f+b)+(tr.getD k (0,0)).2,1,x)]
theorem l0n(f a b x:Int)(c:List (Int×Int))(s:List u0):∀k,(fN (AK f a b x c) k s).length=s.length+k
 | 0=>rfl
 | k+1=>by
   have:=l0n f a b x c s k
   grind[AK,fN,List.length_append]
def U7(f:Int)(arcs:Nat->G5)(j:Nat)(s:List u0):List u0:=fN (AK f (arcs j).2.1 (arcs j).2.2.1 (j:Int) (K3 (arcs j).1 (arcs j).2.2.2.1)) (K3 (arcs j).1 (arcs j).2.2.2.1).length s
theorem VU(f:Int)(a:Nat->G5)(j:Nat)(s:List u0):(U7 f a j s).length<=s.length+4:=by
 grind[U7,l0n,Ro]
def Bj(f:Int)(arcs:Nat->G5)(m:Nat):List u0:=fN (U7 f arcs) m []
theorem Oc(f:Int)(a:Nat->G5):∀m,(Bj f a m).length<=4*m
 | 0=>Nat.le_refl _
 | m+1=>by
   have b:=Oc f a m;have c:=VU f a m (Bj f a m);show(U7 f a m (Bj f a m)).length<=_;omega
def Y6(nets:Nat->Nat)(arcs:Nat->Nat->G5)(ms:Nat->Nat)(i:Nat)(s:Int×List u0):Int×List u0:=(s.1+(nets i:Int),s.2++Bj s.1 (arcs i) (ms i))
theorem n0K{a:Nat->Nat}{b:Nat->Nat->G5}{ms:Nat->Nat}{n:Nat}(h:∀i,i<n->a i<=5/\ms i<=8):∀m,m<=n->0<=(fN (Y6 a b ms) m (0,[])).1/\(fN (Y6 a b ms) m (0,[])).1<=5*(m:Int)/\(fN (Y6 a b ms) m (0,[])).2.length<=32*m
 | 0,_=>⟨Int.le_refl _,Int.le_refl _,Nat.le_refl _⟩
 | m+1,hm=>by
   obtain⟨c,d,e⟩:=n0K h m (by omega);obtain⟨g,f⟩:=h m (by omega);show 0<=(Y6 a b ms m (fN (Y6 a b ms) m (0,[]))).1/\(Y6 a b ms m (fN (Y6 a b ms) m (0,[]))).1<=_/\(Y6 a b ms m (fN (Y6 a b ms) m (0,[]))).2.length<=_;generalize fN (Y6 a b ms) m (0,[])=z at c d e
   grind[Y6,Oc,Bj,List.length_append]
def Ak(pl:Nat->C0)(i:Nat)(s:List (List Int)×List Int):List (List Int)×List Int:=if(pl i).2.2.2=true then(s.1,s.2.set (pl i).2.2.1.toNat (i:Int)) else(s.1.set (pl i).2.2.1.toNat (s.1.getD (pl i).2.2.1.toNat []++[(i:Int)]),s.2)
def W2(pl:Nat->C0)(t:Int)(m:Nat):Int:=fN (fun i s=>if((pl i).2.2.1==t&&(pl i).2.2.2)=true then(i:Int) else s) m 0
theorem VV(pl:Nat->C0)(t:Int):∀m,0<=W2 pl t m/\W2 pl t m<=m
 | 0=>⟨Int.le_refl _,Int.le_refl _⟩
 | m+1=>by
   have:=VV pl t m;have e:W2 pl t (m+1)=if((pl m).2.2.1==t&&(pl m).2.2.2)=true then(m:Int) else W2 pl t m:=rfl
   omega
theorem k0L(pl:Nat->C0)(t:Int)(m:Nat):fN (P6 pl t) (m+1) []=if((pl m).2.2.1==t&&!(pl m).2.2.2)=true then fN (P6 pl t) m []++[(m:Int)] else fN (P6 pl t) m []:=rfl
theorem VW{a:Type}{l:List a}{i j:Nat}{x d:a}(hi:i<l.length):(l.set i x).getD j d=if j=i then x else l.getD j d:=by
 grind
theorem n0N(pl:Nat->C0)(n:Nat):∀m,(∀i,i<m->j6 (pl i).2.2.1 0 ((n:Int)-1)=true)->(fN (Ak pl) m (List.replicate n [],List.replicate n 0)).1.length=n/\(fN (Ak pl) m (List.replicate n [],List.replicate n 0)).2.length=n /\
  ∀k:Nat,k<n->(fN (Ak pl) m (List.replicate n [],List.replicate n 0)).1.getD k []=fN (P6 pl k) m []/\(fN (Ak pl) m (List.replicate n [],List.replicate n 0)).2.getD k 0=W2 pl k m
 | 0,_=>⟨List.length_replicate,List.length_replicate,fun k b=>by
   constructor
   ·show(List.replicate n ([]:List Int)).getD k []=[]
    grind
   ·show(List.replicate n (0:Int)).getD k 0=0
    grind⟩
 | m+1,h=>by
   obtain⟨a,d,g⟩:=n0N pl n m (fun i hi=>h i (by omega));have l:=B3.1 (h m (by omega));have e:fN (Ak pl) (m+1) (List.replicate n [],List.replicate n 0)=Ak pl m (fN (Ak pl) m (List.replicate n [],List.replicate n 0)):=rfl;rw[e];generalize fN (Ak pl) m (List.replicate n [],List.replicate n 0)=z at a d g;have j:(pl m).2.2.1.toNat<n:=by omega
   have c:∀k:Nat,W2 pl k (m+1)=if((pl m).2.2.1==(k:Int)&&(pl m).2.2.2)=true then(m:Int) else W2 pl k m:=fun _=>rfl
   have f:∀k:Nat,((pl m).2.2.1==(k:Int))=decide (k=(pl m).2.2.1.toNat):=fun k=>by
    grind
   unfold Ak;cases hd:(pl m).2.2.2 with
   | true =>
     rw[if_pos rfl];refine⟨a,by grind,fun k b=>?_⟩;rw[k0L,c k,f,hd]
     grind
   | false =>
     rw[if_neg (by simp)];refine⟨by grind,d,fun k b=>?_⟩;rw[k0L,c k,f,hd]
     grind
def VY(d s x:Int)(t:Nat)(z:List u0):List u0:=z++[(2*d+(t:Int),2*s+(t:Int),2,x)]
def CM(d:Int)(sn:List Int)(k:Nat)(z:List u0):List u0:=fN (VY d (sn.getD k 0) (k:Int)) 2 z
theorem VZ(d:Int)(a:List Int)(k:Nat)(z:List u0):(CM d a k z).length=z.length+2:=by
 show((z++_)++_).length=_
 grind
def BP(d:Nat->Int)(sn:Nat->List Int)(i:Nat)(z:List u0):List u0:=fN (CM (d i) (sn i)) (sn i).length z
theorem Rp(d:Int)(a:List Int)(z:List u0):∀k,(fN (CM d a) k z).length=z.length+2*k
 | 0=>rfl
 | k+1=>by
   have:=Rp d a z k
   grind[CM,fN,VZ]
theorem r0a(d:Nat->Int)(a:Nat->List Int)(z:List u0){n c:Nat}(h:∀i,i<n->(a i).length<=c):∀m,m<=n->(fN (BP d a) m z).length<=z.length+2*(c*m)
 | 0,_=>by simp[fN]
 | m+1,hm=>by
   have b:=r0a d a z h m (by omega)
   grind[fN,CM,BP,Rp,Nat.mul_add]
def Bk{α:Type}(f:Nat->α)(i:Nat)(s:List α):List α:=s++[f i]
theorem Ij{a:Type}(f:Nat->a):∀n,(fN (Bk f) n []).length=n
 | 0=>rfl
 | n+1=>by
   have:=Ij f n
   grind[Bk,fN,List.length_append]
theorem Od{a:Type}(f:Nat->a)(d:a):∀n i,i<n->(fN (Bk f) n []).getD i d=f i
 | n+1,i,h=>by
   have c:=Ij f n;have b:=Od f d n i
   grind[Bk,fN]
end Go.Proofs.Xd
end
section
namespace Go.Proofs.YtechodbafnmddaaGreatDoor
open Go Go.Proofs Go.Proofs.Xv Go.Proofs.Xl Go.Proofs.Xd
theorem Al(a b c:Int):B0 a b c=some (j6 a b c):=rfl
theorem U8(a b c:Int):q7 a b c=some (j6 a b c):=rfl
theorem P0d(a b c:Int):Ni a b c=some (!j6 a b c):=by
 unfold Ni;rw[Al,gP ⟨rfl,trivial⟩,vS]
theorem y0l(xs:List Int)(b c:Int)(h:xs.length<=9223372036854775807):Qh xs (b,c)=some (xs.any fun x=>!j6 x b c):=by
 have a:Qg xs (b,c)=_:=DA h (fun i=>!j6 (xs.getD i 0) b c) (fun g i hi=>Ik hi h (P0d _ _ _)) (fun g=>aE);have:=Il a;rw[V7 xs 0 (fun x=>!j6 x b c)] at this;exact this
theorem Im(xs:List Int)(b c:Int)(h:xs.length<=9223372036854775807):J8 xs b c=some (xs.all (j6 · b c)):=by
 unfold J8;rw[y0l _ _ _ h,gP ⟨rfl,trivial⟩,vS,BN]
theorem Wa(xs:List Int)(h:xs.length<=9223372036854775807)(b:1<=xs.length):Dq xs=some (Fl xs):=by
 have a:=E0h h (fun i=>decide (xs.getD i 0<=xs.getD (i-1) 0)) (some false) (e:=some true) (F:=A0W xs) 1 b (fun g i c hi=>by
  have e:((i:Int)-1).toNat=i-1:=by omega
  refine(CN hi h ⟨oo,oo,oo,trivial⟩).trans ?_;rw[e]; rfl) (fun g=>aE)
 refine a.trans ?_;unfold Fl
 grind
theorem M0B(xs:List Int)(h:xs.length<=9223372036854775807):BC xs=some (I7 xs):=by
 unfold BC;have e:F6 xs=some (xs.length:Int):=rfl;have b:∀a:Bool,(a=true->1<=xs.length)->(a=true/\True->(Dq xs).isSome=true):=fun a f d=>by grind[Wa]
 rw[e,vS,Al,vS,Im xs 0 100000 h,vS,gP ⟨rfl,rfl,fun _=>rfl,b _ (fun d=>by
  grind[j6]),trivial⟩]
 congr 1;unfold I7;by_cases c:1<=xs.length
 ·rw[Wa xs h c,vS]
  grind[j6]
 grind[decide,j6]
theorem M0C(xs:List Int)(h:xs.length<=9223372036854775807):DX xs=some (I7 xs):=by
 have c:=K4 (n:=xs.length) h (fun i=>!j6 (xs.getD i 0) 0 100000||decide (0<i)&&decide (xs.getD i 0<=xs.getD (i-1) 0)) (some false) (e:=PM xs ()) (F:=z0H xs) (fun g i hi=>by
  have e:((i:Int)-1).toNat=i-1:=by omega
  have k:decide ((0:Int) < (i:Int))=decide (0<i):=by rw[decide_eq_decide]; omega
  refine(CN hi h ⟨oo,rfl,fun d=>oo,fun d=>⟨by have:=d.1; simp at this; omega,by omega⟩,fun d=>oo,trivial⟩).trans ?_;rw[e,U8,vS,k]; rfl) (fun g=>aE)
 refine c.trans ?_;unfold I7 PM;have j:((List.range xs.length).any fun i=>!j6 (xs.getD i 0) 0 100000||decide (0<i)&&decide (xs.getD i 0<=xs.getD (i-1) 0))=!(xs.all (j6 · 0 100000)&&Fl xs):=by
  rw[<- BN,<- V7 xs 0 (fun x=>!j6 x 0 100000),Fl,<- Bool.not_or,Bool.not_not];rw[Bool.eq_iff_iff,Bool.or_eq_true,List.any_eq_true,List.any_eq_true,List.any_eq_true];constructor
  ·rintro⟨i,a,b⟩;rcases Bool.or_eq_true _ _ ▸ b with f | f
   ·exact .inl ⟨i,a,f⟩
   ·exact .inr ⟨i,a,f⟩
  ·rintro(⟨i,a,b⟩ | ⟨i,a,b⟩)
   ·exact⟨i,a,by rw[b]; rfl⟩
   ·exact⟨i,a,by rw[b,Bool.or_true]⟩
 rw[j];cases hA:(xs.all (j6 · 0 100000)&&Fl xs) with
 | false=>grind
 | true =>
   rw[if_neg (by simp),Bool.and_assoc,hA,Bool.and_true];refine congrArg some ?_
   grind
theorem O0J(t:q5)(i:wf y269 t):JN t=some (D2 t):=by
 obtain⟨⟨b,_⟩,⟨f,_⟩,g,_⟩:=i;unfold JN;have d:(I7 t.1&&I7 t.2.1)=true/\True->b7 ((t.1.length:Int)*(t.2.1.length:Int)):=fun a=>by
  have a:=a.1;rw[ba] at a;obtain⟨k,c⟩:=Dw a.1;obtain⟨l,h⟩:=Dw a.2;have j:t.1.length*t.2.1.length<=4*4:=Nat.mul_le_mul c h;have e:(t.1.length:Int)*(t.2.1.length:Int)=((t.1.length*t.2.1.length:Nat):Int):=by simp
  rw[e];exact oo
 rw[M0B _ b,M0B _ f,Im _ _ _ g,vS,vS,vS,gP ⟨rfl,fun _=>rfl,d,fun _=>rfl,trivial⟩];congr 1
 grind[D2]
theorem O0L(t:q5)(o:wf y269 t):Ma t=some (D2 t):=by
 obtain⟨⟨d,_⟩,⟨l,_⟩,c,_⟩:=o;unfold Ma;have f:(!I7 t.1||!I7 t.2.1)=false/\True->b7 ((t.1.length:Int)*(t.2.1.length:Int)):=fun a=>by
  have a:=a.1;simp only[Bool.or_eq_false_iff,Bool.not_eq_false'] at a;obtain⟨r,j⟩:=Dw a.1;obtain⟨s,m⟩:=Dw a.2;have q:t.1.length*t.2.1.length<=4*4:=Nat.mul_le_mul j m;have e:(t.1.length:Int)*(t.2.1.length:Int)=((t.1.length*t.2.1.length:Nat):Int):=by simp
  rw[e];exact oo
 rw[M0C _ d,M0C _ l,vS,vS,gP ⟨rfl,fun _=>rfl,f,trivial⟩];have b:=K4 (n:=t.2.2.length) c (fun i=>!j6 (t.2.2.getD i 0) (-1000000) 1000000) (some false) (e:=some true) (F:=z0J t) (fun g i hi=>CN hi c ⟨oo,rfl,trivial⟩) (fun g=>aE);rw[b,V7 t.2.2 0 (fun x=>!j6 x (-1000000) 1000000)];have e:((t.2.2.length:Int) != (t.1.length:Int)*(t.2.1.length:Int))=!decide (t.2.2.length=t.1.length*t.2.1.length):=by
  rw[Bool.eq_iff_iff];simp only[bne_iff_ne,Bool.not_eq_true',decide_eq_false_iff_not,ne_eq];constructor
  ·intro h k; exact h (by exact_mod_cast k)
  ·intro h k; exact h (by exact_mod_cast k)
 grind[D2,BN,I7,decide,j6]
end Go.Proofs.YtechodbafnmddaaGreatDoor
end
section
namespace Go.Proofs.YtechodbafnmddaaGreatDoor
open Go Go.Proofs Go.Proofs.Sv Go.Proofs.Xv Go.Proofs.Xl Go.Proofs.Xd
theorem Rq(s:ByteArray)(h:s.size<=9223372036854775807):AB s=some (K2 s):=by
 have a:=K4 (n:=s.size) h (fun i=>!Gr (H9 s i) i) (some false) (e:=PI s ()) (F:=ZU s) (fun g i hi=>by
  refine(E0W hi h ⟨oo,fun _=>oo,trivial⟩ ⟨oo,fun _=>oo,trivial⟩).trans ?_;have c:decide ((0:Int) < (i:Int))=decide (0<i):=by rw[decide_eq_decide]; omega
  have b:((i:Int)).toNat=i:=rfl;rw[c,b];unfold Gr BJ JX;rw[Bool.not_or]) (fun g=>aE)
 refine a.trans ?_;unfold K2 PI;rw[q0Y];cases(List.range s.size).any fun i=>!Gr (H9 s i) i
 ·rfl
 ·rfl
theorem Wb(s:ByteArray)(h:s.size<=9223372036854775807):T9 s=some (K2 s):=by
 unfold T9;have f:Gf s ⟨#[97,98,99,100,101,102,103,104,105,106,107,108,109,110,111,112,113,114,115,116,117,118,119,120,121,122,48,49,50,51,52,53,54,55,56,57]⟩=some ⟨(Lib.trimS s.data.toList low36).toArray⟩:=if_pos ⟨by decide,by decide⟩;have g:∀c,Qm ⟨#[97,98,99,100,101,102,103,104,105,106,107,108,109,110,111,112,113,114,115,116,117,118,119,120,121,122]⟩ c=some (Lib.indexByte low26 c.toNat.toUInt8):=fun _=>rfl;rw[f,g,Al,vS,vS,vS,gP ⟨rfl,fun _=>rfl,fun b=>⟨by decide,by
  have:=b.1;rw[ba,B3] at this;omega⟩,fun _=>rfl,trivial⟩,lE]
 refine congrArg some ?_;show(j6 (s.size:Int) 1 8&&decide ((⟨(Lib.trimS s.data.toList low36).toArray⟩:ByteArray)=⟨#[]⟩)&&decide (0<=Lib.indexByte low26 (H9 s (Int.toNat 0)).toNat.toUInt8))=K2 s;by_cases e:1<=s.size/\s.size<=8
 ·rw[y0C s e.1 e.2];have d:j6 (s.size:Int) 1 8=true:=by rw[B3]; omega
  have a:decide ((⟨(Lib.trimS s.data.toList low36).toArray⟩:ByteArray)=⟨#[]⟩)=(Lib.trimS s.data.toList low36==[]):=by
   rw[Bool.eq_iff_iff,dq,beq_iff_eq];constructor
   ·intro h;injection h with h;have:=congrArg Array.toList h;simpa using this
   ·intro h; rw[h]
  rw[d,a,Bool.true_and];rfl
 ·have d:j6 (s.size:Int) 1 8=false:=by rw[<- Bool.not_eq_true,B3]; omega
  have a:K2 s=false:=by
   rw[<- Bool.not_eq_true];intro b;simp only[K2,ba,dq] at b;omega
  rw[d,a]; rfl
theorem O0Q(xs:List ByteArray)(x:ByteArray)(h:xs.length<=9223372036854775807):Ql xs x=some (xs.any fun y=>decide (x=y)):=by
 have a:Qk xs x=_:=DA h (fun i=>decide (x=xs.getD i (a6 .str))) (fun g i hi=>by
  refine(if_pos (by simpa using hi)).trans ?_;rw[gP ⟨oo,trivial⟩,gP ⟨oo,trivial⟩];rfl) (fun g=>aE)
 have:=Il a;rw[V7 xs (a6 .str) (fun y=>decide (x=y))] at this;exact this
theorem Oe(xs:List ByteArray)(c:wf (.sl .str) xs):Ac xs=some (D5 xs.length fun i=>xs.getD i (a6 .str)):=by
 have h:=c.1;have a:=K4 (n:=xs.length) h (fun i=>!K2 (xs.getD i (a6 .str))||Q8 (fun i=>xs.getD i (a6 .str)) i) (some false) (e:=some true) (F:=A0b xs) (fun g i hi=>by
  have f:=N2 (d:=a6 .str) hi c;have k:(xs.take i).length<=9223372036854775807:=by rw[List.length_take]; omega
  have l:=Wb _ f;have b:=O0Q (xs.take i) (xs.getD i (a6 .str)) k;rw[x0L xs (a6 .str) i hi] at b;have j:((i:Int)).toNat=i:=rfl;refine(if_pos (by simpa using hi)).trans ?_;rw[j,l,b,vS,vS,gP ⟨oo,trivial⟩,gP ⟨rfl,fun _=>⟨by omega,by omega,by omega⟩,fun _=>rfl,trivial⟩,gP ⟨oo,trivial⟩]) (fun g=>aE)
 refine a.trans ?_;unfold D5;cases(List.range xs.length).any fun i=>!K2 (xs.getD i (a6 .str))||Q8 (fun i=>xs.getD i (a6 .str)) i <;> rfl
theorem Wc(xs:List ByteArray)(c:wf (.sl .str) xs):Cq xs=some (D5 xs.length fun i=>xs.getD i (a6 .str)):=by
 have h:=c.1;have b:=K4 (n:=xs.length) h (fun i=>!K2 (xs.getD i (a6 .str))||Q8 (fun i=>xs.getD i (a6 .str)) i) (some false) (e:=some true) (F:=ZX xs) (fun g i hi=>by
  have f:=N2 (d:=a6 .str) hi c;have o:=Rq _ f;have j:((i:Int)).toNat=i:=rfl;have a:=K4 (n:=i) (by omega) (fun k=>decide (xs.getD k (a6 .str)=xs.getD i (a6 .str))) (some false) (e:=g ((i:Int)+1)) (F:=ZW xs (i:Int) g) (fun l k m=>by
   refine(CN m (by omega) ⟨oo,oo,trivial⟩).trans ?_;rfl) (fun l=>by
   refine aE.trans ?_;unfold TX;exact gP ⟨oo,trivial⟩)
  refine(if_pos (by simpa using hi)).trans ?_;rw[j,o,vS,gP ⟨oo,rfl,trivial⟩,a];unfold Q8;cases K2 (xs.getD i (a6 .str)) <;> cases(List.range i).any fun k=>decide (xs.getD k (a6 .str)=xs.getD i (a6 .str)) <;> rfl) (fun g=>aE)
 refine b.trans ?_;unfold D5;cases(List.range xs.length).any fun i=>!K2 (xs.getD i (a6 .str))||Q8 (fun i=>xs.getD i (a6 .str)) i <;> rfl
theorem M0D(xs:List Int)(h:xs.length<=9223372036854775807)(b:1<=xs.length):JM xs=some (Bh xs):=by
 unfold JM;rw[if_neg (by simp; omega)];unfold UK;rw[gP ⟨oo,trivial⟩];have a:=lF (n:=xs.length-1) (by omega) (fun i (m:Int)=>(m,((i+1:Nat):Int))) (fun i m=>min m (xs.getD (i+1) 0)) (fun _ _=>True) (J:=fun m=>some m) (F:=UJ xs) (fun g i s hi _=>by
  refine(if_pos (by simp; omega)).trans ?_;rw[gP ⟨oo,trivial⟩,gP ⟨oo,trivial⟩];rfl) (fun _ _ _ _=>trivial) (fun g s _=>by
  have e:xs.length-1+1=xs.length:=by omega
  show UJ xs g (s,((xs.length-1+1:Nat):Int))=some s;rw[e];exact aE) (xs.getD 0 0) trivial
 exact a
theorem O0K(t:q5)(p:Bool)(a:wf y269 t):Nt t p=some (!D2 t||p&&decide (Bh t.2.2<0)):=by
 unfold Nt;have b:p=true/\(!D2 t)=false/\True->(JM t.2.2).isSome=true:=fun c=>by
  have d:D2 t=true:=by simpa using c.2.1
  rw[M0D _ a.2.2.1 (Gv d).2.2.2.2.2.1]; rfl
 rw[O0J t a,vS,gP ⟨rfl,b,trivial⟩,lE];refine congrArg some ?_;cases hT:D2 t with
 | false=>rfl
 | true=>rw[M0D _ a.2.2.1 (Gv hT).2.2.2.2.2.1,vS]
theorem Wd(l:List q5)(p:Bool)(b:wf (.sl y269) l):X8 l p=some (I8 l p):=by
 have h:=b.1;have c:Qt l p=_:=DA h (fun i=>!D2 (l.getD i (a6 y269))||p&&decide (Bh (l.getD i (a6 y269)).2.2<0)) (fun g i hi=>Ik hi h (O0K _ _ (N2 hi b))) (fun g=>aE);have a:Qu l p=_:=Il c;rw[V7 l (a6 y269) (fun t=>!D2 t||p&&decide (Bh t.2.2<0))] at a;unfold X8;rw[a,vS,gP ⟨fun _=>rfl,trivial⟩];refine congrArg some ?_;unfold I8;have e:((l.length:Int)==2)=decide (l.length=2):=by
  rw[Bool.eq_iff_iff,beq_iff_eq,dq]; omega
 rw[e,<- BN];congr 3;funext t;rw[Bool.not_and,Bool.not_not]
theorem r0o(xs:List Int):∀n,(fN (fun i (s:Int×Int)=>(min s.1 (xs.getD (i+1) 0),max s.2 (xs.getD (i+1) 0))) n (xs.getD 0 0,xs.getD 0 0)).1=fN (fun i m=>min m (xs.getD (i+1) 0)) n (xs.getD 0 0)
 | 0=>rfl
 | n+1=>by rw[fN,fN,r0o xs n]
theorem O0N(t:q5)(b:wf y269 t):∃l,Mb t=some (if D2 t=true then((Bh t.2.2,l),0) else((0,0),1)):=by
 unfold Mb;rw[O0L t b,vS,gP ⟨rfl,trivial⟩];cases hT:D2 t with
 | false=>exact⟨0,rfl⟩
 | true =>
   have c:=(Gv hT).2.2.2.2.2.1;have h:=b.2.2.1;have a:=lF (n:=t.2.2.length-1) (by omega) (fun i (s:Int×Int)=>(((i+1:Nat):Int),s.1,s.2)) (fun i s=>(min s.1 (t.2.2.getD (i+1) 0),max s.2 (t.2.2.getD (i+1) 0))) (fun _ _=>True) (J:=fun s=>some ((s.1,s.2),(0:Int))) (F:=TY t) (fun g i s hi _=>by
    refine(if_pos (by simp; omega)).trans ?_;rw[gP ⟨oo,trivial⟩,gP ⟨oo,trivial⟩,gP ⟨oo,trivial⟩];rfl) (fun _ _ _ _=>trivial) (fun g s _=>by
    have e:t.2.2.length-1+1=t.2.2.length:=by omega
    show TY t g (((t.2.2.length-1+1:Nat):Int),s.1,s.2)=_;rw[e];exact aE) (t.2.2.getD 0 0,t.2.2.getD 0 0) trivial
   rw[if_neg (by simp),gP ⟨oo,oo,trivial⟩];rw[r0o] at a;exact⟨_,a⟩
theorem Of(l:List q5)(p:Bool)(f:wf (.sl y269) l):Aa l p=some (I8 l p):=by
 unfold Aa;have e:((l.length:Int) != 2)=!decide (l.length=2):=by
  rw[Bool.eq_iff_iff]; simp; omega
 rw[e];unfold I8;by_cases b:l.length=2
 ·have a:=K4 (n:=2) (by decide) (fun i=>!D2 (l.getD i (a6 y269))||p&&decide (Bh (l.getD i (a6 y269)).2.2<0)) (some false) (e:=some true) (F:=TZ p l) (fun g i hi=>by
   obtain⟨m,d⟩:=O0N (l.getD i (a6 y269)) (N2 (by omega) f);have c:((i:Int)).toNat=i:=rfl;refine(if_pos (by simp; omega)).trans ?_;rw[c,d,vS,gP ⟨oo,rfl,trivial⟩,lE,gP ⟨oo,trivial⟩];cases D2 (l.getD i (a6 y269)) <;> rfl) (fun g=>by
   unfold TZ;exact if_neg (by decide))
  rw[decide_eq_true b,if_neg (by simp)];refine a.trans ?_;have:=V7 l (a6 y269) (fun t=>!D2 t||p&&decide (Bh t.2.2<0));rw[b] at this;rw[this,<- BN,Bool.true_and];have h:(fun t:q5=>!(D2 t&&!(p&&decide (Bh t.2.2<0))))=fun t=>!D2 t||p&&decide (Bh t.2.2<0):=by
   funext t; rw[Bool.not_and,Bool.not_not]
  rw[h];cases l.any fun t=>!D2 t||p&&decide (Bh t.2.2<0) <;> rfl
 ·rw[decide_eq_false b]; rfl
abbrev r6(c:l5)(i:Nat):F8:=c.2.2.1.getD i (a6 y293)
abbrev j7(c:l5)(i:Nat):A6:=c.2.2.2.1.getD i (a6 y158)
theorem We(c:l5)(a:wf y153 c):X7 c=some ((c.2.2.1.length:Int)-1):=by
 have h:=a.2.2.1.1;have e:Dp c.2.2.1=some (c.2.2.1.length:Int):=rfl;unfold X7;rw[e,vS,gP ⟨rfl,oo,trivial⟩,lE]
theorem M0E(c:l5)(a:wf y153 c)(x:Int):HK c x=some (j6 x 0 ((c.2.2.1.length:Int)-1-1)):=by
 have h:=a.2.2.1.1;unfold HK;rw[We c a,vS,Al,vS,gP ⟨rfl,oo,rfl,trivial⟩]
theorem O0M(c:l5)(b:wf y153 c):JO c=some (Gw c.2.2.1.length (r6 c)):=by
 have h:=b.2.2.1.1;have a:Qv c.2.2.1=_:=DA h (fun i=>(r6 c i).2.2.2) (fun g i hi=>Ik hi h rfl) (fun g=>aE);unfold JO;rw[a,vS,gP ⟨rfl,trivial⟩,lE];rfl
theorem Wf(c:l5)(d:wf y153 c)(k:Int):Q4 c k=some (I3 c.2.2.2.1.length (j7 c) k):=by
 have h:=d.2.2.2.1.1;have a:Qo c.2.2.2.1 k=_:=DA h (fun i=>(j7 c i).1==k) (fun g i hi=>Ik hi h rfl) (fun g=>aE);have b:Qp c.2.2.2.1 k=_:=Il a;unfold Q4;rw[b,vS,gP ⟨rfl,trivial⟩];rfl
theorem O0P(c:l5)(a:A6)(d:wf y153 c)(t:wf y158 a):HL c a=some (Fm c.2.2.1.length (r6 c) a):=by
 obtain⟨_,_,_,_,n,q⟩:=t;have r:Qw a.1=some (a.1==4||a.1==5):=rfl;have l:j6 a.2.1 0 ((c.2.2.1.length:Int)-1-1)=true->ix a.2.1 c.2.2.1.length:=fun h=>by
  rw[B3] at h; exact oo
 unfold HL;rw[r,Wd _ _ n,Wd _ _ n,Wd _ _ q,O0M c d,M0E c d,M0E c d,We c d]
 repeat rw[vS]
 rw[gP ⟨rfl,trivial⟩];unfold Fm;by_cases Dl:a.1=4∨a.1=5
 ·have i:(a.1==4||a.1==5)=true:=by simpa using Dl
  rw[if_pos i,if_pos Dl,gP ⟨fun _=>rfl,fun _=>rfl,fun _=>rfl,trivial⟩,lE]
 ·have i:(a.1==4||a.1==5)=false:=by
   rw[<- Bool.not_eq_true]; simpa using Dl
  rw[i,if_neg (by simp),if_neg Dl,gP ⟨rfl,fun _=>rfl,fun _=>rfl,fun _=>rfl,trivial⟩,lE];by_cases g:I8 a.2.2.2.2.1 true=true/\I8 a.2.2.2.2.2 true=true/\a.2.2.1=(c.2.2.1.length:Int)-1/\j6 a.2.1 0 ((c.2.2.1.length:Int)-1-1)=true
  ·obtain⟨o,m,k,e⟩:=g;have s:(I8 a.2.2.2.2.1 true&&I8 a.2.2.2.2.2 true&&a.2.2.1==(c.2.2.1.length:Int)-1&&j6 a.2.1 0 ((c.2.2.1.length:Int)-1-1))=true:=by
    rw[o,m,e,k]; simp
   have u:(!I8 a.2.2.2.2.1 true||!I8 a.2.2.2.2.2 true||a.2.2.1 != (c.2.2.1.length:Int)-1||!j6 a.2.1 0 ((c.2.2.1.length:Int)-1-1))=false:=by
    rw[o,m,e,k]; simp
   rw[s,Bool.true_and];refine(if_neg (by rw[u]; simp)).trans ?_;by_cases f:a.1=1
   ·rw[if_pos (beq_iff_eq.2 f),if_pos f,Al,gP ⟨l e,fun _=>rfl,trivial⟩];rfl
   ·rw[if_neg (by grind),if_neg f];have j:∀b,Nu c a b=some (if b=true then(r6 c a.2.1.toNat).2.2.2&&a.2.2.2.1==0 else false):=fun b=>by
     unfold Nu;cases b with
     | false=>rfl
     | true=>rw[if_pos rfl,if_pos rfl,gP ⟨l e,trivial⟩]
    grind
  grind
theorem O0X(c:l5)(a:A6)(l:wf y153 c)(k:wf y158 a):Me c a=some (I2 c.2.2.1.length (r6 c) a):=by
 obtain⟨_,_,_,_,f,g⟩:=k;have h:=l.2.2.1.1;unfold Me;rw[gP ⟨oo,trivial⟩,U8,U8]
 repeat rw[vS]
 rw[gP ⟨oo,rfl,fun _=>rfl,trivial⟩];unfold I2;by_cases e:j6 a.2.1 0 ((c.2.2.1.length:Int)-1-1)=true/\j6 a.2.2.1 0 ((c.2.2.1.length:Int)-1)=true
 ·obtain⟨j,i⟩:=e;have q:=B3.1 j;have o:=B3.1 i;rw[j,i,if_neg (by simp),gP ⟨oo,trivial⟩,lE,Bool.true_and,Bool.true_and];by_cases d:a.1=1
  ·rw[if_pos (beq_iff_eq.2 d),if_pos d,U8,Of _ _ f,Of _ _ g,gP ⟨fun _=>rfl,fun _=>rfl,fun _=>rfl,trivial⟩];rfl
  ·rw[if_neg (by grind),if_neg d];have m:∀b,Mc (r6 c a.2.1.toNat) a c b=some (if b=true then(r6 c a.2.1.toNat).2.2.2&&decide (a.2.2.1 < (c.2.2.1.length:Int)-1)&&!(r6 c a.2.2.1.toNat).2.2.2&&a.2.2.2.1==0&&I8 a.2.2.2.2.1 false&&(a.2.2.2.2.2.length:Int)==0 else false):=fun b=>by
    unfold Mc;cases b with
    | false=>rfl
    | true =>
      rw[if_pos rfl,if_pos rfl,Of _ _ f,gP ⟨fun _=>oo,fun _=>rfl,trivial⟩];rfl
   have n:∀b,Md (r6 c a.2.1.toNat) a c b=some (if b=true then(r6 c a.2.1.toNat).2.2.2&&a.2.2.1==(c.2.2.1.length:Int)-1&&a.2.2.2.1==0&&I8 a.2.2.2.2.1 true&&I8 a.2.2.2.2.2 true else if a.1=4∨a.1=5 then(r6 c a.2.1.toNat).2.2.2&&decide (a.2.2.1 < (c.2.2.1.length:Int)-1)&&!(r6 c a.2.2.1.toNat).2.2.2&&a.2.2.2.1==0&&I8 a.2.2.2.2.1 false&&(a.2.2.2.2.2.length:Int)==0 else false):=fun b=>by
    unfold Md;cases b with
    | true =>
      rw[if_pos rfl,if_pos rfl,Of _ _ f,Of _ _ g,gP ⟨fun _=>rfl,fun _=>rfl,trivial⟩];rfl
    | false =>
      grind
   grind
 grind
theorem Wg{c:l5}(a:wf y153 c):wf (.sl y293) c.2.2.1:=a.2.2.1
theorem Wh{c:l5}(a:wf y153 c):wf (.sl y158) c.2.2.2.1:=a.2.2.2.1
theorem Kr{a:Type}(l:List a)(f:a->ByteArray)(d:a)(e:ByteArray):D5 (l.map f).length (fun i=>(l.map f).getD i e)=D5 l.length fun i=>f (l.getD i d):=by
 grind[List.length_map,n0v,hi,w0b]
theorem Ks{a:Type}{l:List a}{f:a->ByteArray}(h:l.length<=9223372036854775807)(b:∀x∈l,(f x).size<=9223372036854775807):wf (.sl .str) (l.map f):=by
 refine⟨by grind,fun x c=>?_⟩;obtain⟨y,d,rfl⟩:=List.mem_map.1 c;exact b y d
def Am(f:Nat->ByteArray)(i:Nat)(s:List ByteArray):List ByteArray:=s++[f i]
theorem w0d(f:Nat->ByteArray):∀n,fN (Am f) n []=(List.range n).map f
 | 0=>rfl
 | n+1=>by
   rw[fN,w0d f n,List.range_succ,List.map_append]; rfl
theorem Kt{a:Type}(l:List a)(d:a)(f:a->ByteArray):fN (Am fun i=>f (l.getD i d)) l.length []=l.map f:=by
 rw[w0d,v0c]
theorem Rr{n i b:Nat}(h:i<n)(c:n<=1048576)(a:b<=4096):i+1<=9223372036854775807/\(i+1)*b<=140737488355328:=by
 have:(i+1)*b<=1048576*4096:=Nat.mul_le_mul (by omega) a;exact oo
theorem O0T(l:List F8)(d:wf (.sl y293) l)(j:l.length<=1048576):Gg l=some (Bi l.length fun i=>l.getD i (a6 y293)):=by
 have h:=d.1;have a:=Og (n:=l.length) h (fun i (s:List ByteArray)=>(s,(i:Int))) (Am fun i=>(l.getD i (a6 y293)).1) (fun i=>!CJ l.length (l.getD i (a6 y293)) i) (some false) (fun i s=>s.length=i) (J:=Nw l) (F:=z0R l) (fun g i s hi m=>by
  refine(if_pos (by simpa using hi)).trans ?_;have t:((i:Int)).toNat=i:=rfl;have E:(s++[(l.getD i (a6 y293)).1]).length<=9223372036854775807:=by rw[List.length_append]; show s.length+1<=_; omega
  have G:=Rr (b:=16) hi j (by decide);have w:∀c,Qz (i:Int) g c=g (c,((i+1:Nat):Int)):=fun c=>gP ⟨oo,trivial⟩;rw[t,gP ⟨oo,trivial⟩,lE,gP ⟨⟨by show s.length+1<=_; omega,by show(s.length+1)*16<=_; omega⟩,trivial⟩,gP ⟨oo,trivial⟩,w,Al,gP ⟨fun _=>rfl,trivial⟩,vS];unfold CJ Am;dsimp only;by_cases y:i+1=l.length
  ·have r:((i:Int)==(l.length:Int)-1)=true:=by rw[beq_iff_eq]; omega
   rw[if_pos r,if_pos y];generalize l.getD i (a6 y293)=q;have P:(q.2.1 != 2)=!(q.2.1==2):=rfl;have H:(q.2.2.1 != 0)=!(q.2.2.1==0):=rfl
   grind[j6]
  grind) (fun i s hi m _=>by grind[Am,List.length_append]) (fun g s _=>aE) [] rfl
 refine a.trans ?_;rw[Kt];have z:wf (.sl .str) (l.map fun q:F8=>q.1):=Ks h fun x e=>(d.2 x e).1;have o:Dp l=some (l.length:Int):=rfl;have k:∀v:List ByteArray,wf (.sl .str) v->Nw l v=some (j6 (l.length:Int) 2 5&&D5 v.length fun i=>v.getD i (a6 .str)):=fun v u=>by
  rw[Nw];rw[o,Oe _ u]
  repeat rw[vS]
  rw[Al,vS,gP ⟨rfl,rfl,fun _=>rfl,trivial⟩]
 rw[k _ z,Kr l (fun q:F8=>q.1) (a6 y293)];unfold Bi;have f:j6 (l.length:Int) 2 5=(decide (2<=l.length)&&decide (l.length<=5)):=by
  rw[Bool.eq_iff_iff,B3]; simp; omega
 rw[f];cases(List.range l.length).any fun i=>!CJ l.length (l.getD i (a6 y293)) i
 ·simp
 ·simp
theorem O0Y(c:l5)(y:wf y153 c):Mf c=some (if Bi c.2.2.1.length (r6 c)=true then(J9 c.2.2.1.length (r6 c),true) else(0,false)):=by
 have m:=Wg y;have h:=m.1;unfold Mf;by_cases b:2<=c.2.2.1.length/\c.2.2.1.length<=5
 ·have l:(decide ((c.2.2.1.length:Int)<2)||decide (5 < (c.2.2.1.length:Int)))=false:=by
   rw[<- Bool.not_eq_true]; simp; omega
  rw[l,if_neg (by simp)];have f:=Og (n:=c.2.2.1.length) h (fun i (s:Int)=>(s,(i:Int))) (fun i s=>if(r6 c i).2.2.2=true then s+1 else s) (fun i=>(!K2 (r6 c i).1||Q8 (fun i=>(r6 c i).1) i)||!CJ c.2.2.1.length (r6 c i) i) (some ((0:Int),false)) (fun i s=>0<=s/\s<=i) (J:=Ua) (F:=z0X c) (fun g i s hi G=>by
   refine(if_pos (by simpa using hi)).trans ?_;have H:((i:Int)).toNat=i:=rfl;have r:(r6 c i).1.size<=9223372036854775807:=(N2 (d:=a6 y293) hi m).1;rw[H,gP ⟨oo,trivial⟩,lE];have a:=K4 (n:=i) (by omega) (fun k=>decide ((r6 c k).1=(r6 c i).1)) (some ((0:Int),false)) (e:=PO (i:Int) s (r6 c i) c g ()) (F:=z0W c (r6 c i) (i:Int) s g) (fun v k P=>CN P (by omega) ⟨oo,trivial⟩) (fun v=>aE);refine a.trans ?_;have t:PO (i:Int) s (r6 c i) c g ()=if(!K2 (r6 c i).1||!CJ c.2.2.1.length (r6 c i) i)=true then some ((0:Int),false) else g (if(r6 c i).2.2.2=true then s+1 else s,((i+1:Nat):Int)):=by
    have o:∀j,PN (i:Int) g j=g (j,((i+1:Nat):Int)):=fun j=>gP ⟨oo,trivial⟩;show gd _ (if(!vl (AB (r6 c i).1)||!vl (q7 (r6 c i).2.2.1 0 500))=true then _ else gd _ (if _=true then _ else if _=true then gd _ _ else _))=_;rw[Rq _ r,U8,vS,vS,gP ⟨rfl,fun _=>rfl,trivial⟩,gP ⟨oo,fun _=>oo,trivial⟩,gP ⟨oo,trivial⟩,o,o];generalize r6 c i=q;have u:((i:Int)==(c.2.2.1.length:Int)-1)=decide (i+1=c.2.2.1.length):=by
     rw[Bool.eq_iff_iff,beq_iff_eq,dq]; omega
    have Q:decide ((i:Int) < (c.2.2.1.length:Int)-1)=!decide (i+1=c.2.2.1.length):=by
     rw[Bool.eq_iff_iff]; simp; omega
    rw[u,Q];have hz:CJ c.2.2.1.length q i=(j6 q.2.2.1 0 500&&(if decide (i+1=c.2.2.1.length)=true then q.2.1==2&&q.2.2.1==0&&!q.2.2.2 else q.2.1==1)):=by
     unfold CJ;by_cases W:i+1=c.2.2.1.length
     ·grind
     ·grind
    rw[hz];have T:(q.2.1 != 2)=!(q.2.1==2):=rfl;have E:(q.2.2.1 != 0)=!(q.2.2.1==0):=rfl;have n3:(q.2.1 != 1)=!(q.2.1==1):=rfl;rw[T,E,n3];cases K2 q.1 <;> cases j6 q.2.2.1 0 500 <;> cases decide (i+1=c.2.2.1.length) <;> cases q.2.1==2 <;> cases q.2.2.1==0 <;> cases q.2.1==1 <;> cases q.2.2.2 <;> rfl
   rw[t];have V:Q8 (fun i=>(r6 c i).1) i=(List.range i).any fun k=>decide ((r6 c k).1=(r6 c i).1):=rfl
   grind) (fun i s hi G _=>by
   omega) (fun g s _=>aE) 0 oo
  refine f.trans ?_;rw[Rj];unfold Bi D5;rw[decide_eq_true b.1,decide_eq_true b.2];cases(List.range c.2.2.1.length).any (fun i=>!K2 (r6 c i).1||Q8 (fun i=>(r6 c i).1) i) <;> cases(List.range c.2.2.1.length).any (fun i=>!CJ c.2.2.1.length (r6 c i) i) <;> rfl
 ·have l:(decide ((c.2.2.1.length:Int)<2)||decide (5 < (c.2.2.1.length:Int)))=true:=by
   simp; omega
  have X:¬Bi c.2.2.1.length (r6 c)=true:=fun w=>by
   obtain⟨z,x,_⟩:=Kh w;exact b ⟨z,x⟩
  grind
theorem O0S(c:l5)(l:wf y153 c):HM c=some (Ic (Fm c.2.2.1.length (r6 c)) c.2.2.2.1.length (j7 c)):=by
 have f:=Wh l;have h:=f.1;have m:∀(a:List A6) (o:A6),a.length<=9223372036854775807->Nv a o=some (a.any fun x=>x.1==o.1&&x.2.1==o.2.1&&x.2.2.1==o.2.2.1):=fun a o j=>by
  have q:Qx a o=_:=DA j (fun i=>(a.getD i (a6 y158)).1==o.1&&(a.getD i (a6 y158)).2.1==o.2.1&&(a.getD i (a6 y158)).2.2.1==o.2.2.1) (fun g i hi=>Ik hi j rfl) (fun g=>aE);have k:Nv a o=_:=Il q;rw[V7 a (a6 y158) (fun x=>x.1==o.1&&x.2.1==o.2.1&&x.2.2.1==o.2.2.1)] at k;exact k
 have b:=K4 (n:=c.2.2.2.1.length) h (fun i=>!Fm c.2.2.1.length (r6 c) (j7 c i)||Kg (j7 c) i) (some false) (e:=Qy c ()) (F:=z0Q c) (fun g i hi=>by
  have r:((i:Int)).toNat=i:=rfl;have s:(c.2.2.2.1.take i).length<=9223372036854775807:=by rw[List.length_take]; omega
  have t:=O0P c (j7 c i) l (N2 hi f);have d:=m (c.2.2.2.1.take i) (j7 c i) s;rw[u0y c.2.2.2.1 (a6 y158) _ i (by omega)] at d;refine(if_pos (by grind)).trans ?_;rw[r,gP ⟨oo,trivial⟩,lE,t,d,vS,vS,gP ⟨rfl,fun _=>⟨by omega,by omega,by omega⟩,fun _=>rfl,trivial⟩,gP ⟨oo,trivial⟩];rfl) (fun g=>aE)
 refine b.trans ?_;unfold Ic Qy;have e:decide ((c.2.2.2.1.length:Int)<=8)=decide (c.2.2.2.1.length<=8):=by rw[decide_eq_decide]; omega
 rw[e];cases(List.range c.2.2.2.1.length).any fun i=>!Fm c.2.2.1.length (r6 c) (j7 c i)||Kg (j7 c) i
 ·simp
 ·simp
theorem Oh{n:Nat}(h:1<=n):((n:Int)-1).toNat=n-1:=by omega
theorem O0R(c:l5)(a:wf y153 c)(u:2<=c.2.2.1.length)(t:c.2.2.1.length<=5):Qr c=some (Ki c.2.1 c.2.2.1.length (r6 c) c.2.2.2.1.length (j7 c) c.2.2.2.2.1):=by
 have q:=Wg a;have h:=q.1;have m:=a.2.2.2.2.1.1;have f:=lF (n:=c.2.2.1.length) h (fun i (s:Int)=>(s,(i:Int))) (fun i s=>if(r6 c i).2.2.2=true then s+1 else s) (fun i s=>0<=s/\s<=i) (J:=JL c) (F:=z0P c) (fun g i s hi r=>by
  have k:∀j,Qq (i:Int) g j=g (j,((i+1:Nat):Int)):=fun j=>gP ⟨oo,trivial⟩;have l:((i:Int)).toNat=i:=rfl;refine(if_pos (by grind)).trans ?_;rw[l,gP ⟨oo,trivial⟩,lE,gP ⟨oo,trivial⟩,k,k]
  grind) (fun i s hi r=>by
  omega) (fun g s _=>aE) 0 oo
 refine f.trans ?_;show JL c (J9 c.2.2.1.length (r6 c))=_;have o:∀b:Int,JL c b=some (if c.2.1=1 then b==0&&(c.2.2.2.2.1.length:Int)==1*2 ^ (c.2.2.1.length-1)&&c.2.2.2.2.1.all (j6 · 0 1)
  else if c.2.1=2 then b==1&&(c.2.2.2.2.1.length:Int)==0&&!I3 c.2.2.2.1.length (j7 c) 1&&!(I3 c.2.2.2.1.length (j7 c) 2==I3 c.2.2.2.1.length (j7 c) 3)
  else if c.2.1=3 then b==1&&(c.2.2.2.2.1.length:Int)==0&&I3 c.2.2.2.1.length (j7 c) 1&&I3 c.2.2.2.1.length (j7 c) 2&&!I3 c.2.2.2.1.length (j7 c) 3
  else false):=fun b=>by
  rw[JL,We c a,Im _ _ _ m,Wf c a,Wf c a,Wf c a]
  repeat rw[vS]
  rw[Oh (by omega)];by_cases d:c.2.1=1
  ·rw[if_pos (beq_iff_eq.2 d),if_pos d,gP ⟨fun _=>rfl,fun _=>⟨by omega,C0e t⟩,fun _=>rfl,trivial⟩,lE,Oh (by omega)]
  ·rw[if_neg (by grind),if_neg d];by_cases e:c.2.1=2
   ·rw[if_pos (beq_iff_eq.2 e),if_pos e,gP ⟨fun _=>rfl,fun _=>rfl,fun _=>rfl,trivial⟩]
   ·rw[if_neg (by grind),if_neg e];by_cases k3:c.2.1=3
    ·rw[if_pos (beq_iff_eq.2 k3),if_pos k3,gP ⟨fun _=>rfl,fun _=>rfl,fun _=>rfl,trivial⟩]
    grind
 exact o (J9 c.2.2.1.length (r6 c))
abbrev CO(q:Nat->(Nat->P2)->G5->Bool)(c:l5):Bool:=Y4 q c.1 c.2.1 c.2.2.1.length (r6 c) c.2.2.2.1.length (j7 c) c.2.2.2.2.1 c.2.2.2.2.2.1 c.2.2.2.2.2.2
theorem P0a(c:l5)(b:wf y153 c)(d:c.2.2.1.length<=1048576):Nx c=some (CO I2 c):=by
 have e:=Wg b;show _=some (Y4 I2 _ _ _ _ _ _ _ _ _);rw[<- E0Q];unfold Nx Y4;rw[Wb c.1 b.1,O0T _ e d,O0S c b,Al,Al]
 repeat rw[vS]
 cases hpo:Bi c.2.2.1.length (r6 c) with
 | false =>
   rw[gP ⟨rfl,fun _=>rfl,fun a=>by simp at a,fun a=>by simp at a,fun a=>by simp at a,fun a=>by simp at a,trivial⟩];simp
 | true =>
   obtain⟨f,g,_⟩:=Kh hpo;rw[O0R c b f g,vS,gP ⟨rfl,fun _=>rfl,fun _=>rfl,fun _=>rfl,fun _=>rfl,fun _=>rfl,trivial⟩]
theorem O0W(c:l5)(q:wf y153 c)(w:c.2.2.2.1.length<=8)(k:∀i,i<c.2.2.2.1.length->1<=(j7 c i).1/\(j7 c i).1<=5):LZ c=some (fN (Ig (j7 c)) c.2.2.2.1.length (List.replicate 6 0)):=by
 have h:=(Wh q).1;unfold LZ;rw[gP ⟨⟨by omega,rfl,by decide,by omega⟩,trivial⟩];have t:=lF (n:=c.2.2.2.1.length) h (fun i (v:List Int)=>((i:Int),v)) (Ig (j7 c)) (fun i v=>i<=c.2.2.2.1.length/\v=fN (Ig (j7 c)) i (List.replicate 6 0)) (J:=fun v=>some v) (F:=z0U c) (fun g i v hi e=>by
  obtain⟨m,u⟩:=VJ (j7 c) i (fun j y=>k j (by omega));obtain⟨x,z⟩:=k i hi;have l:v.length=6:=by rw[e.2]; exact m
  have a:=u (j7 c i).1.toNat (by omega);have r:=NX (j7 c) ((j7 c i).1.toNat:Int) i;rw[<- e.2] at a;have o:((i:Int)).toNat=i:=rfl;refine(if_pos (by grind)).trans ?_;have f:b7 (v.getD (j7 c i).1.toNat 0+1):=by rw[a]; exact oo
  have b:ix (j7 c i).1 v.length:=oo;have d:(j7 c i).1.toNat<v.length:=by omega
  rw[o,gP ⟨oo,b,d,f,b,d,trivial⟩,lE,gP ⟨oo,trivial⟩];rfl) (fun i v hi e=>⟨by omega,by rw[e.2]; rfl⟩) (fun g s _=>aE) (List.replicate 6 0) ⟨by omega,rfl⟩
 grind
theorem P0c(c:l5)(f:wf y153 c):Mh c=some (CO I2 c):=by
 have P:=Wh f;have h:=P.1;show _=some (Y4 I2 _ _ _ _ _ _ _ _ _);unfold Mh Y4;rw[O0Y c f,Rq c.1 f.1,U8,U8]
 repeat rw[vS]
 rw[gP ⟨rfl,trivial⟩,lE,gP ⟨fun _=>rfl,fun _=>rfl,fun _=>rfl,trivial⟩];cases hpo:Bi c.2.2.1.length (r6 c) with
 | false =>
   grind
 | true =>
   obtain⟨h2,h5,_⟩:=Kh hpo;have e9:(if true=true then(J9 c.2.2.1.length (r6 c),true) else((0:Int),false))=(J9 c.2.2.1.length (r6 c),true):=rfl;rw[e9];by_cases r:K2 c.1=true/\c.2.2.2.1.length<=8/\j6 c.2.2.2.2.2.1 0 100000=true/\j6 c.2.2.2.2.2.2 0 100000=true
   ·obtain⟨g1,W,s,g4⟩:=r;have e0:decide (8 < (c.2.2.2.1.length:Int))=false:=decide_eq_false (by omega);rw[g1,e0,s,g4];refine(if_neg (by simp)).trans ?_;have u:=K4 (n:=c.2.2.2.1.length) h (fun i=>!I2 c.2.2.1.length (r6 c) (j7 c i)||Kg (j7 c) i) (some false) (e:=PQ c (J9 c.2.2.1.length (r6 c),true) ()) (F:=A0i c (J9 c.2.2.1.length (r6 c),true)) (fun g i hi=>by
     have e3:((i:Int)).toNat=i:=rfl;have e1:=O0X c (j7 c i) f (N2 hi P);have d:=K4 (n:=i) (by omega) (fun k=>(j7 c k).1==(j7 c i).1&&(j7 c k).2.1==(j7 c i).2.1&&(j7 c k).2.2.1==(j7 c i).2.2.1) (some false) (e:=g ((i:Int)+1)) (F:=A0h c (j7 c i) (i:Int) g) (fun s k hk=>CN hk (by omega) ⟨oo,fun _=>oo,fun _=>oo,trivial⟩) (fun s=>by
      refine aE.trans ?_;exact gP ⟨oo,trivial⟩)
     refine(if_pos (by grind)).trans ?_;rw[e3,gP ⟨oo,trivial⟩,lE,e1,vS,gP ⟨rfl,trivial⟩,d];unfold Kg
     grind) (fun g=>aE)
    refine u.trans ?_;unfold Ic;rw[decide_eq_true W];cases hany:(List.range c.2.2.2.1.length).any fun i=>!I2 c.2.2.1.length (r6 c) (j7 c i)||Kg (j7 c) i with
    | true=>simp
    | false =>
      rw[if_neg (by simp)];have b:∀i,i<c.2.2.2.1.length->I2 c.2.2.1.length (r6 c) (j7 c i)=true:=fun i hi=>by
       grind
      have j:=O0W c f W (fun i hi=>o0m (b i hi));obtain⟨y,a⟩:=VJ (j7 c) c.2.2.2.1.length (fun i hi=>o0m (b i hi));have V:=a 1 (by omega);have c2:=a 2 (by omega);have H:=a 3 (by omega);rw[PQ,j,vS,gP ⟨rfl,trivial⟩,lE];generalize fN (Ig (j7 c)) c.2.2.2.1.length (List.replicate 6 0)=v at *
      have q1:((v.getD 1 0)==(0:Int))=!I3 c.2.2.2.1.length (j7 c) 1:=by
       rw[V,Kj];have:=(NX (j7 c) 1 c.2.2.2.1.length).1;rw[Bool.eq_iff_iff]; simp; omega
      have q:decide (0<v.getD 1 0)=I3 c.2.2.2.1.length (j7 c) 1:=by rw[V,Kj]; rfl
      have G:decide (0<v.getD 2 0)=I3 c.2.2.2.1.length (j7 c) 2:=by rw[c2,Kj]; rfl
      have q3:decide (0<v.getD 3 0)=I3 c.2.2.2.1.length (j7 c) 3:=by rw[H,Kj]; rfl
      have z:((v.getD 3 0)==(0:Int))=!I3 c.2.2.2.1.length (j7 c) 3:=by
       rw[H,Kj];have:=(NX (j7 c) 3 c.2.2.2.1.length).1;rw[Bool.eq_iff_iff]; simp; omega
      have X:ix (1:Int) v.length:=oo;have i2:ix (2:Int) v.length:=oo;have i3:ix (3:Int) v.length:=oo;have Y:Int.toNat (1:Int)<v.length:=by rw[y]; decide
      have T:Int.toNat (2:Int)<v.length:=by rw[y]; decide
      have n3:Int.toNat (3:Int)<v.length:=by rw[y]; decide
      unfold Ki;by_cases o:c.2.1=1
      ·rw[if_pos (beq_iff_eq.2 o),if_pos o];have Q:=f.2.2.2.2.1.1;have l:=K4 (n:=c.2.2.2.2.1.length) Q (fun i=>!j6 (c.2.2.2.2.1.getD i 0) 0 1) (some false) (e:=Mg (J9 c.2.2.1.length (r6 c),true) c ()) (F:=A0g c (J9 c.2.2.1.length (r6 c),true)) (fun g i hi=>CN hi Q ⟨oo,rfl,trivial⟩) (fun g=>aE);refine l.trans ?_;rw[V7 c.2.2.2.2.1 0 (fun x=>!j6 x 0 1),<- BN];have e5:Mg (J9 c.2.2.1.length (r6 c),true) c ()=some (J9 c.2.2.1.length (r6 c)==0&&(c.2.2.2.2.1.length:Int)==1*2 ^ (c.2.2.1.length-1)):=by
        rw[Mg,Oh (by omega),gP ⟨fun _=>oo,fun _=>oo,fun _=>⟨by omega,C0e h5⟩,trivial⟩]
       rw[e5];cases c.2.2.2.2.1.any fun x=>!j6 x 0 1 <;> simp
      ·rw[if_neg (by simpa using o),if_neg o];by_cases m:c.2.1=2
       ·rw[if_pos (beq_iff_eq.2 m),if_pos m,gP ⟨fun _=>X,fun _=>Y,fun _=>i2,fun _=>T,fun _=>i3,fun _=>n3,trivial⟩];have w:Int.toNat (1:Int)=1:=rfl;have t:Int.toNat (2:Int)=2:=rfl;have E:Int.toNat (3:Int)=3:=rfl;rw[w,t,E,q1,G,q3];cases J9 c.2.2.1.length (r6 c)==1 <;> cases(c.2.2.2.2.1.length:Int)==0 <;> cases I3 c.2.2.2.1.length (j7 c) 1 <;> cases I3 c.2.2.2.1.length (j7 c) 2 <;> cases I3 c.2.2.2.1.length (j7 c) 3 <;> rfl
       ·rw[if_neg (by simpa using m),if_neg m];by_cases k3:c.2.1=3
        ·rw[if_pos (beq_iff_eq.2 k3),if_pos k3,gP ⟨fun _=>X,fun _=>Y,fun _=>i2,fun _=>T,fun _=>i3,fun _=>n3,trivial⟩];have w:Int.toNat (1:Int)=1:=rfl;have t:Int.toNat (2:Int)=2:=rfl;have E:Int.toNat (3:Int)=3:=rfl;rw[w,t,E,q,G,z];cases J9 c.2.2.1.length (r6 c)==1 <;> cases(c.2.2.2.2.1.length:Int)==0 <;> cases I3 c.2.2.2.1.length (j7 c) 1 <;> cases I3 c.2.2.2.1.length (j7 c) 2 <;> cases I3 c.2.2.2.1.length (j7 c) 3 <;> rfl
        ·rw[if_neg (by grind),if_neg k3];rfl
   grind[K2,decide,j6,trans,Ic]
abbrev An(l:List l5)(i:Nat):l5:=l.getD i (a6 y153)
abbrev Fp(l:List l5):Bool:=Dx l.length (fun i=>CO I2 (An l i)) (fun i=>(An l i).1)
theorem w0B{c:l5}(h:CO I2 c=true):K2 c.1=true:=by
 grind[Y4,I2]
theorem P0m(l:List l5)(e:wf (.sl y153) l)(f:h9 (.sl y153) l<=1048576):Nz l=some (Fp l):=by
 have h:=e.1;have r:=C4 f;have a:=Og (n:=l.length) h (fun i (s:List ByteArray)=>(s,(i:Int))) (Am fun i=>(An l i).1) (fun i=>!CO I2 (An l i)) (some false) (fun i s=>s.length=i) (J:=Ny l) (F:=A0w l) (fun g i s hi t=>by
  have j:((i:Int)).toNat=i:=rfl;have d:h9 y153 (An l i)<=1048576:=R8 hi f;have m:(An l i).2.2.1.length<=1048576:=C4 (cF (cS (cS d)));have w:=P0a (An l i) (N2 hi e) m;have z:=Rr (b:=16) hi r (by decide);refine(if_pos (by grind)).trans ?_;rw[j,gP ⟨oo,trivial⟩,lE,w,vS,gP ⟨rfl,trivial⟩,gP ⟨⟨by grind,by grind⟩,trivial⟩,gP ⟨oo,trivial⟩];rfl) (fun i s hi t _=>by grind[Am,List.length_append]) (fun g s _=>aE) [] rfl
 refine a.trans ?_;rw[Kt l (a6 y153) (fun c:l5=>c.1)];have u:wf (.sl .str) (l.map fun c:l5=>c.1):=Ks h fun x o=>(e.2 x o).1;have q:∀v:List ByteArray,wf (.sl .str) v->Ny l v=some (decide (l.length<=8)&&D5 v.length fun i=>v.getD i (a6 .str)):=fun v k=>by
  have y:decide ((l.length:Int)<=8)=decide (l.length<=8):=by rw[decide_eq_decide]; omega
  rw[Ny,Oe _ k,vS,gP ⟨fun _=>rfl,trivial⟩,y]
 rw[q _ u,Kr l (fun c:l5=>c.1) (a6 y153)];show _=some (Dx _ _ _);rw[<- I0S (fun i _ d=>w0B d)];split <;> rfl
theorem P0q(l:List l5)(c:wf (.sl y153) l):Mi l=some (Fp l):=by
 have h:=c.1;have b:=K4 (n:=l.length) h (fun i=>!CO I2 (An l i)||Q8 (fun i=>(An l i).1) i) (some false) (e:=PR l ()) (F:=A0K l) (fun g i hi=>by
  have d:((i:Int)).toNat=i:=rfl;have m:=P0c (An l i) (N2 hi c);have a:=K4 (n:=i) (by omega) (fun k=>decide ((An l k).1=(An l i).1)) (some false) (e:=g ((i:Int)+1)) (F:=A0J l (i:Int) g) (fun f k j=>CN j (by omega) ⟨oo,oo,trivial⟩) (fun f=>by
   refine aE.trans ?_;exact gP ⟨oo,trivial⟩)
  refine(if_pos (by grind)).trans ?_;rw[d,m,vS,gP ⟨oo,rfl,trivial⟩,a];unfold Q8
  grind) (fun g=>aE)
 refine b.trans ?_;show _=some (Dx _ _ _);unfold Dx PR;have o:decide ((l.length:Int)<=8)=decide (l.length<=8):=by rw[decide_eq_decide]; omega
 rw[o];cases(List.range l.length).any (fun i=>!CO I2 (An l i)||Q8 (fun i=>(An l i).1) i) <;> rfl
abbrev j9(d:q9)(i:Nat):H2:=d.1.getD i (a6 y155)
abbrev B7(d:q9)(i:Nat):K1:=d.2.2.getD i (a6 y231)
abbrev Ao(l:List l5)(x:Int):Nat:=(l.getD x.toNat (a6 y153)).2.2.1.length
abbrev Io(l:List l5)(d:q9):Bool:=Dz (Fp l) l.length (Ao l) d.1.length d.2.2.length d.2.1.length (j9 d) (B7 d) (fun i=>d.2.1.getD i (a6 .str))
theorem M0I(d:q9)(a:wf y53 d)(x:Int):HJ d x=some (j6 x 0 ((d.2.1.length:Int)-1)):=by
 have h:=a.2.1.1;have e:JK d.2.1=some (d.2.1.length:Int):=rfl;unfold HJ;rw[e]
 repeat rw[vS]
 rw[Al,vS,gP ⟨rfl,oo,rfl,trivial⟩]
theorem P0k(d:q9)(l:List l5)(x:H2)(m:wf y53 d)(j:wf (.sl y153) l)(f:wf y155 x):Np d l x=some (U4 l.length (Ao l) d.2.1.length x):=by
 have h:=j.1;have a:=f.2.2.1;have e:Ge l=some (l.length:Int):=rfl;have n:∀y,No y d=some (!j6 y 0 ((d.2.1.length:Int)-1)):=fun y=>by
  unfold No;rw[M0I d m,gP ⟨rfl,trivial⟩,vS]
 have c:Qi x.2.2 d=_:=DA a (fun i=>!j6 (x.2.2.getD i 0) 0 ((d.2.1.length:Int)-1)) (fun g i hi=>Ik hi a (n _)) (fun g=>aE);have b:Qj x.2.2 d=_:=Il c;rw[V7 x.2.2 0 (fun y=>!j6 y 0 ((d.2.1.length:Int)-1))] at b;unfold Np;rw[e,b]
 repeat rw[vS]
 rw[Al,vS,gP ⟨rfl,oo,rfl,fun k=>by
  have:=B3.1 k.1;exact oo,fun _=>rfl,trivial⟩,BN]
 rfl
theorem P0l(d:q9)(a:wf y53 d)(u:h9 y53 d<=1048576):Qn d=some (decide (d.1.length<=14)&&decide (d.2.1.length<=30)&&decide (d.2.2.length<=8)&&D5 d.1.length (fun i=>(j9 d i).1)&&D5 d.2.1.length (fun i=>d.2.1.getD i (a6 .str))&&D5 d.2.2.length (fun i=>(B7 d i).1)):=by
 have e:=a.1.1;have f:=a.2.2.1;have r:d.1.length<=1048576:=C4 (cF u);have l:d.2.2.length<=1048576:=C4 (cS (cS u));have k:=lF (n:=d.1.length) e (fun i (s:List ByteArray)=>(s,(i:Int))) (Am fun i=>(j9 d i).1) (fun i s=>s.length=i) (J:=Nr d) (F:=A0v d) (fun g i s hi o=>by
  have q:((i:Int)).toNat=i:=rfl;have w:=Rr (b:=16) hi r (by decide);refine(if_pos (by grind)).trans ?_;rw[q,gP ⟨oo,trivial⟩,lE,gP ⟨⟨by grind,by grind⟩,trivial⟩,gP ⟨oo,trivial⟩];rfl) (fun i s hi o=>by grind[Am,List.length_append]) (fun g s _=>aE) [] rfl
 refine k.trans ?_;rw[Kt d.1 (a6 y155) (fun c:H2=>c.1)];have m:wf (.sl .str) (d.1.map fun c:H2=>c.1):=Ks e fun x j=>(a.1.2 x j).1;have t:wf (.sl .str) (d.2.2.map fun c:K1=>c.1):=Ks f fun x j=>(a.2.2.2 x j).1;have H:∀v:List ByteArray,wf (.sl .str) v->v.length=d.1.length->Nr d v=some (decide (d.1.length<=14)&&decide (d.2.1.length<=30)&&decide (d.2.2.length<=8)&&(D5 v.length fun i=>v.getD i (a6 .str))&&D5 d.2.1.length (fun i=>d.2.1.getD i (a6 .str))&&D5 d.2.2.length (fun i=>(B7 d i).1)):=fun v V G=>by
  rw[Nr];have h:=lF (n:=d.2.2.length) f (fun i (s:List ByteArray)=>(s,(i:Int))) (Am fun i=>(B7 d i).1) (fun i s=>s.length=i) (J:=Nq v d) (F:=A0u d v) (fun g i s hi o=>by
   have q:((i:Int)).toNat=i:=rfl;have w:=Rr (b:=16) hi l (by decide);refine(if_pos (by grind)).trans ?_;rw[q,gP ⟨oo,trivial⟩,lE,gP ⟨⟨by grind,by grind⟩,trivial⟩,gP ⟨oo,trivial⟩];rfl) (fun i s hi o=>by grind[Am,List.length_append]) (fun g s _=>aE) [] rfl
  refine h.trans ?_;rw[Kt d.2.2 (a6 y231) (fun c:K1=>c.1)];have y:∀z:List ByteArray,wf (.sl .str) z->z.length=d.2.2.length->Nq v d z=some (decide (d.1.length<=14)&&decide (d.2.1.length<=30)&&decide (d.2.2.length<=8)&&(D5 v.length fun i=>v.getD i (a6 .str))&&D5 d.2.1.length (fun i=>d.2.1.getD i (a6 .str))&&D5 z.length (fun i=>z.getD i (a6 .str))):=fun z hz P=>by
   have Q:decide ((v.length:Int)<=14)=decide (d.1.length<=14):=by rw[decide_eq_decide]; omega
   have E:decide ((d.2.1.length:Int)<=30)=decide (d.2.1.length<=30):=by rw[decide_eq_decide]; omega
   have T:decide ((z.length:Int)<=8)=decide (d.2.2.length<=8):=by rw[decide_eq_decide]; omega
   rw[Nq,Oe _ V,Oe _ hz,Oe _ a.2.1,vS,vS,vS,gP ⟨fun _=>rfl,fun _=>rfl,fun _=>rfl,trivial⟩,Q,E,T]
  rw[y _ t (List.length_map _),Kr d.2.2 (fun c:K1=>c.1) (a6 y231)]
 rw[H _ m (List.length_map _),Kr d.1 (fun c:H2=>c.1) (a6 y155)]
theorem Rs{l:List l5}(h:Fp l=true){x:Int}(b:j6 x 0 ((l.length:Int)-1)=true):2<=Ao l x/\Ao l x<=5:=by
 have h:Dx _ _ _=true:=h;unfold Dx at h;rw[ba] at h;rw[B3] at b;have:=Dy.1 h.1 x.toNat (by omega);rw[Bool.or_eq_false_iff,Bool.not_eq_false'] at this;have a:Y4 I2 _ _ _ _ _ _ _ _ _=true:=this.1;unfold Y4 at a;simp only[ba] at a;have:=Kh a.1.1.1.1.2
 grind
theorem Wi{b a:Nat}{P4:Int->Nat}{x:G9}(h:U4 b P4 a x=true)(c:∀y,j6 y 0 ((b:Int)-1)=true->2<=P4 y):1<=x.2.2.length/\j6 (x.2.2.getD (x.2.2.length-1) 0) 0 ((a:Int)-1)=true:=by
 grind[U4]
theorem P0p(l:List l5)(d:q9)(v:wf (.sl y153) l)(c:wf y53 d):PL l d=some (!((List.range d.1.length).any fun i=>!U4 l.length (Ao l) d.2.1.length (j9 d i))&&!((List.range d.2.2.length).any fun i=>!U5 d.2.1.length (B7 d i))):=by
 have h:=v.1;have m:=c.1.1;have j:=c.2.2.1;have t:=c.2.1.1;have w:PK d ()=some (!((List.range d.2.2.length).any fun i=>!U5 d.2.1.length (B7 d i))):=by
  have b:=K4 (n:=d.2.2.length) j (fun i=>!U5 d.2.1.length (B7 d i)) (some false) (e:=some true) (F:=ZZ d) (fun g i hi=>by
   have f:((i:Int)).toNat=i:=rfl;refine(if_pos (by grind)).trans ?_;rw[f,U8,U8,vS,vS,gP ⟨oo,rfl,fun _=>oo,fun _=>oo,fun _=>rfl,trivial⟩,gP ⟨oo,trivial⟩]
   grind[U5,Bool.not_and]) (fun g=>aE)
  refine b.trans ?_;cases(List.range d.2.2.length).any fun i=>!U5 d.2.1.length (B7 d i) <;> rfl
 have b:=K4 (n:=d.1.length) m (fun i=>!U4 l.length (Ao l) d.2.1.length (j9 d i)) (some false) (e:=PK d ()) (F:=A0G d l) (fun g i hi=>by
  have f:((i:Int)).toNat=i:=rfl;have s:=N2 (d:=a6 y155) hi c.1;have o:=s.2.2.1;refine(if_pos (by grind)).trans ?_;rw[f,gP ⟨oo,trivial⟩,lE,U8,vS,gP ⟨oo,rfl,fun u=>by
   have:=u.1;rw[Bool.not_eq_false'] at this;have:=B3.1 this;exact oo,trivial⟩]
  have a:=K4 (n:=(j9 d i).2.2.length) o (fun k=>!j6 ((j9 d i).2.2.getD k 0) 0 ((d.2.1.length:Int)-1)) (some false) (e:=g ((i:Int)+1)) (F:=A0F (j9 d i) d (i:Int) g) (fun q k r=>by
   refine(CN r o ⟨oo,oo,rfl,trivial⟩).trans ?_;rfl) (fun q=>by
   refine aE.trans ?_;exact gP ⟨oo,trivial⟩)
  rw[V7 (j9 d i).2.2 0 (fun y=>!j6 y 0 ((d.2.1.length:Int)-1))] at a;rw[a];unfold U4
  grind[BN]) (fun g=>aE)
 refine b.trans ?_
 grind
theorem q0L(v:List Int):(!v.any fun x=>x != 1)=v.all (·==1):=BN v (fun x=>x==1)
theorem Wj{n b:Nat}(h:n<=1048576)(a:b<=4096):(0<=(n:Int)/\(n:Int)=(n:Int)/\(n:Int).toNat*b<=281474976710656/\(n:Int)<=9223372036854775807)/\True:=by
 have c:n*b<=1048576*4096:=Nat.mul_le_mul h a;exact⟨⟨by omega,rfl,by rw[Int.toNat_natCast]; omega,by omega⟩,trivial⟩
theorem Oi{v:List Int}{n b:Nat}{x:Int}(h:AI v n b)(e:b<=2097152)(d:j6 x 0 ((n:Int)-1)=true):ix x v.length/\x.toNat<v.length/\b7 (v.getD x.toNat 0+1)/\ix x v.length/\x.toNat<v.length/\True:=by
 obtain⟨a,c⟩:=y0E h d;have:=h.2 x.toNat;exact⟨a,c,oo,a,c,trivial⟩
theorem Rt{n:Nat}(a:1<=n)(h:n<=9223372036854775807):b7 ((n:Int)-1)/\ix ((n:Int)-1) n:=⟨oo,oo⟩
theorem P0x(l:List l5)(d:q9)(H:wf (.sl y153) l)(c:wf y53 d)(Q:h9 (.sl y153) l<=1048576)(k:h9 y53 d<=1048576):NB l d=some (Io l d):=by
 have o:=c.1.1;have q:=c.2.2.1;have mi:d.1.length<=1048576:=C4 (cF k);have T:d.2.1.length<=1048576:=C4 (cF (cS k));have Y:d.2.2.length<=1048576:=C4 (cS (cS k));show _=some (Dz _ _ _ _ _ _ _ _ _);unfold NB Dz;rw[P0m l H Q,P0l d c k,vS,vS,gP ⟨rfl,fun _=>rfl,trivial⟩];cases hlo:Fp l with
 | false=>grind
 | true =>
   rw[Bool.true_and];cases hno:(decide (d.1.length<=14)&&decide (d.2.1.length<=30)&&decide (d.2.2.length<=8)&&D5 d.1.length (fun i=>(j9 d i).1)&&D5 d.2.1.length (fun i=>d.2.1.getD i (a6 .str))&&D5 d.2.2.length (fun i=>(B7 d i).1)) with
   | false=>grind
   | true =>
     refine(if_neg (by simp)).trans ?_;rw[gP (Wj T (by decide)),Int.toNat_natCast];have h:∀y,j6 y 0 ((l.length:Int)-1)=true->2<=Ao l y:=fun y X=>(Rs hlo X).1;have m:=Og (n:=d.1.length) o (fun i (v:List Int)=>((i:Int),v)) (V8 (j9 d)) (fun i=>!U4 l.length (Ao l) d.2.1.length (j9 d i)) (some false) (fun i v=>i<=d.1.length/\AI v d.2.1.length i) (J:=QD d) (F:=B0j d l) (fun g i v hi e=>by
      have r:((i:Int)).toNat=i:=rfl;have w:=N2 (d:=a6 y155) hi c.1;refine(if_pos (by grind)).trans ?_;rw[r,gP ⟨oo,trivial⟩,lE,P0k d l _ c H w,vS,gP ⟨rfl,trivial⟩];cases hin:U4 l.length (Ao l) d.2.1.length (j9 d i) with
      | false=>rfl
      | true =>
        obtain⟨t,W⟩:=Wi hin h;have a:(j9 d i).2.2.length<=9223372036854775807:=w.2.2.1;refine(if_neg (by simp)).trans ?_;rw[Oh t,gP ⟨(Rt t a).1,(Rt t a).2,Oi e.2 (by omega) W⟩,lE,gP ⟨oo,trivial⟩];rfl) (fun i v hi e _=>⟨by omega,Kk e.2 _⟩) (fun g v _=>aE) (List.replicate d.2.1.length 0) ⟨by omega,Ri _ _⟩
     refine m.trans ?_;cases hia:(List.range d.1.length).any fun i=>!U4 l.length (Ao l) d.2.1.length (j9 d i) with
     | true=>simp
     | false =>
       refine(if_neg (by simp)).trans ?_;have b:=VL (j9 d) d.2.1.length d.1.length;unfold Gx;generalize fN (V8 (j9 d)) d.1.length (List.replicate d.2.1.length 0)=v0 at *
       rw[QD];have j:=Og (n:=d.2.2.length) q (fun i (v:List Int)=>((i:Int),v)) (O5 (B7 d)) (fun i=>!U5 d.2.1.length (B7 d i)) (some false) (fun i v=>i<=d.2.2.length/\AI v d.2.1.length (d.1.length+i)) (J:=NA) (F:=B0i d) (fun g i v hi e=>by
        have r:((i:Int)).toNat=i:=rfl;have G:∀u,QC (i:Int) g u=g (((i+1:Nat):Int),u):=fun u=>gP ⟨oo,trivial⟩;refine(if_pos (by grind)).trans ?_;rw[r,gP ⟨oo,trivial⟩,lE,M0I d c,vS,gP ⟨fun _=>rfl,trivial⟩,G,G];have V:((B7 d i).2.1 != 1&&(B7 d i).2.1 != 2||!j6 (B7 d i).2.2 0 ((d.2.1.length:Int)-1))=!U5 d.2.1.length (B7 d i):=by
         unfold U5;rw[Bool.not_and];congr 1;rw[Bool.eq_iff_iff];simp only[ba,bne_iff_ne,Bool.not_eq_true',<- Bool.not_eq_true,B3];omega
        show(if((B7 d i).2.1 != 1&&(B7 d i).2.1 != 2||!j6 (B7 d i).2.2 0 ((d.2.1.length:Int)-1))=true then some false else _)=_;rw[V];cases hpo:U5 d.2.1.length (B7 d i) with
        | false=>rfl
        | true =>
          have f:j6 (B7 d i).2.2 0 ((d.2.1.length:Int)-1)=true:=by
           unfold U5 at hpo;rw[ba] at hpo;exact hpo.2
          refine(if_neg (by simp)).trans ?_;show _=g (_,O5 (B7 d) i v);unfold O5;by_cases E:(B7 d i).2.1=1
          ·rw[if_pos (beq_iff_eq.2 E),if_pos E];exact gP (Oi e.2 (by omega) f)
          grind) (fun i v hi e _=>⟨by omega,by
          grind[O5,Kk,VK]⟩) (fun g v _=>aE) v0 ⟨by omega,b⟩
       refine j.trans ?_;cases hpa:(List.range d.2.2.length).any fun i=>!U5 d.2.1.length (B7 d i) with
       | true=>simp
       | false =>
         refine(if_neg (by simp)).trans ?_;have s:∀v:List Int,v.length<=9223372036854775807->NA v=some (v.all (·==1)):=fun v s=>by
          have P:QA v=_:=DA s (fun i=>v.getD i 0 != 1) (fun g i hi=>Ik hi s rfl) (fun g=>aE);have z:QB v=_:=Il P;rw[V7 v 0 (fun x=>x != 1)] at z;rw[NA,z,vS,gP ⟨rfl,trivial⟩,q0L]
         have a:(fN (O5 (B7 d)) d.2.2.length v0).length<=9223372036854775807:=by
          have:∀n,(fN (O5 (B7 d)) n v0).length=v0.length:=by
           intro n
           induction n with
           | zero=>rfl
           | succ n ih =>
             grind[fN,O5,CK,List.length_set]
          rw[this,b.1]; omega
         grind
theorem P0y(l:List l5)(d:q9)(hl:wf (.sl y153) l)(m:wf y53 d)(md:h9 y53 d<=1048576):Mp l d=some (Io l d):=by
 have q:=m.1.1;have r:=m.2.2.1;have mi:d.1.length<=1048576:=C4 (cF md);have mn:d.2.1.length<=1048576:=C4 (cF (cS md));have mp:d.2.2.length<=1048576:=C4 (cS (cS md));show _=some (Dz _ _ _ _ _ _ _ _ _);unfold Mp;rw[P0q l hl,P0p l d hl m,vS,vS,gP ⟨rfl,fun _=>rfl,trivial⟩];by_cases k:Fp l=true/\d.1.length<=14/\d.2.1.length<=30/\d.2.2.length<=8/\((List.range d.1.length).any fun i=>!U4 l.length (Ao l) d.2.1.length (j9 d i))=false/\((List.range d.2.2.length).any fun i=>!U5 d.2.1.length (B7 d i))=false
 ·obtain⟨E,W,V,h8,H,Q⟩:=k;have a1:decide (14 < (d.1.length:Int))=false:=decide_eq_false (by omega);have a2:decide (30 < (d.2.1.length:Int))=false:=decide_eq_false (by omega);have a3:decide (8 < (d.2.2.length:Int))=false:=decide_eq_false (by omega);rw[E,a1,a2,a3,H,Q];refine(if_neg (by simp)).trans ?_;have P:∀y,j6 y 0 ((l.length:Int)-1)=true->2<=Ao l y:=fun y hy=>(Rs E hy).1;have T:∀i,i<d.1.length->U4 l.length (Ao l) d.2.1.length (j9 d i)=true:=fun i hi=>by
   grind
  have o:∀i,i<d.2.2.length->U5 d.2.1.length (B7 d i)=true:=fun i hi=>by
   grind
  have TB:∀v:List Int,v.length<=9223372036854775807->Mj v=some (v.all (·==1)):=fun v u=>by
   rw[Mj];have a:=K4 (n:=v.length) u (fun i=>v.getD i 0 != 1) (some false) (e:=some true) (F:=u0n v) (fun g i hi=>by
    refine(CN hi u ⟨oo,by omega,trivial⟩).trans ?_;rfl) (fun g=>aE)
   refine a.trans ?_;rw[V7 v 0 (fun x=>x != 1),<- q0L]
   grind
  have k7:∀v:List Int,AI v d.2.1.length d.1.length->Mm d v=some ((fN (O5 (B7 d)) d.2.2.length v).all (·==1)):=fun v0 j=>by
   rw[Mm];have a:=lF (n:=d.2.2.length) r (fun i (v:List Int)=>((i:Int),v)) (O5 (B7 d)) (fun i v=>i<=d.2.2.length/\AI v d.2.1.length (d.1.length+i)) (J:=Mj) (F:=B0o d) (fun g i v hi b=>by
    have t:((i:Int)).toNat=i:=rfl;have j8:∀v',PS (i:Int) g v'=g (((i+1:Nat):Int),v'):=fun v'=>gP ⟨oo,trivial⟩;have G:j6 (B7 d i).2.2 0 ((d.2.1.length:Int)-1)=true:=by
     have:=o i hi;unfold U5 at this;rw[ba] at this;exact this.2
    refine(if_pos (by grind)).trans ?_;rw[t,gP ⟨oo,trivial⟩,j8];show(if((B7 d i).2.1==1)=true then _ else _)=g (_,O5 (B7 d) i v);unfold O5;by_cases k1:(B7 d i).2.1=1
    ·rw[if_pos (beq_iff_eq.2 k1),if_pos k1];refine(gP ⟨oo,Oi b.2 (by omega) G⟩).trans ?_;rw[lE];exact j8 _
    grind) (fun i v hi b=>⟨by omega,by
    grind[O5,Kk,VK]⟩) (fun g v _=>aE) v0 ⟨by omega,j⟩
   refine a.trans (TB _ ?_);have:∀n,(fN (O5 (B7 d)) n v0).length=v0.length:=by
    intro n
    induction n with
    | zero=>rfl
    | succ n ih =>
      grind[fN,O5,CK,List.length_set]
   rw[this,j.1]; omega
  have k5:lp (Ub d) ((0:Int),List.replicate d.2.1.length 0)=some ((Gx d.1.length d.2.2.length d.2.1.length (j9 d) (B7 d)).all (·==1)):=by
   have a:=lF (n:=d.1.length) q (fun i (v:List Int)=>((i:Int),v)) (V8 (j9 d)) (fun i v=>i<=d.1.length/\AI v d.2.1.length i) (J:=Mm d) (F:=Ub d) (fun g i v hi b=>by
    have t:((i:Int)).toNat=i:=rfl;have w:=N2 (d:=a6 y155) hi m.1;obtain⟨X,g2⟩:=Wi (T i hi) P;have f:(j9 d i).2.2.length<=9223372036854775807:=w.2.2.1;refine(if_pos (by grind)).trans ?_;rw[t,gP ⟨oo,trivial⟩,lE,Oh X,gP ⟨(Rt X f).1,(Rt X f).2,Oi b.2 (by omega) g2⟩,lE,gP ⟨oo,trivial⟩];rfl) (fun i v hi b=>⟨by omega,Kk b.2 _⟩) (fun g v _=>aE) (List.replicate d.2.1.length 0) ⟨by omega,Ri _ _⟩
   refine a.trans (k7 _ (VL _ _ _))
  have Y:wf (.sl .str) (d.1.map fun c:H2=>c.1):=Ks q fun x w=>(m.1.2 x w).1;have aA:wf (.sl .str) (d.2.2.map fun c:K1=>c.1):=Ks r fun x w=>(m.2.2.2 x w).1;have k2:∀v z:List ByteArray,wf (.sl .str) v->wf (.sl .str) z->Mn d v z=some ((D5 v.length fun i=>v.getD i (a6 .str))&&(D5 z.length fun i=>z.getD i (a6 .str))&&D5 d.2.1.length (fun i=>d.2.1.getD i (a6 .str))&&(Gx d.1.length d.2.2.length d.2.1.length (j9 d) (B7 d)).all (·==1)):=fun v z u hz=>by
   rw[Mn,Wc _ u,Wc _ hz,Wc _ m.2.1,vS,vS,vS,gP ⟨rfl,fun _=>rfl,fun _=>rfl,trivial⟩,gP (Wj mn (by decide)),Int.toNat_natCast,k5];cases(D5 v.length fun i=>v.getD i (a6 .str)) <;> cases(D5 z.length fun i=>z.getD i (a6 .str)) <;> cases D5 d.2.1.length (fun i=>d.2.1.getD i (a6 .str)) <;> rfl
  have k3:∀v:List ByteArray,wf (.sl .str) v->Mo d v=some ((D5 v.length fun i=>v.getD i (a6 .str))&&D5 d.2.2.length (fun i=>(B7 d i).1)&&D5 d.2.1.length (fun i=>d.2.1.getD i (a6 .str))&&(Gx d.1.length d.2.2.length d.2.1.length (j9 d) (B7 d)).all (·==1)):=fun v u=>by
   rw[Mo];have a:=lF (n:=d.2.2.length) r (fun i (s:List ByteArray)=>((i:Int),s)) (Am fun i=>(B7 d i).1) (fun i s=>s.length=i) (J:=Mn d v) (F:=B0p d v) (fun g i s hi b=>by
    have t:((i:Int)).toNat=i:=rfl;refine(if_pos (by grind)).trans ?_;rw[t,gP ⟨oo,⟨by grind,by grind⟩,trivial⟩,gP ⟨oo,trivial⟩];rfl) (fun i s hi b=>by grind[Am,List.length_append]) (fun g s _=>aE) [] rfl
   refine a.trans ?_;rw[Kt d.2.2 (a6 y231) (fun c:K1=>c.1),k2 _ _ u aA,Kr d.2.2 (fun c:K1=>c.1) (a6 y231)]
  have a:=lF (n:=d.1.length) q (fun i (s:List ByteArray)=>((i:Int),s)) (Am fun i=>(j9 d i).1) (fun i s=>s.length=i) (J:=Mo d) (F:=B0q d) (fun g i s hi b=>by
   have t:((i:Int)).toNat=i:=rfl;refine(if_pos (by grind)).trans ?_;rw[t,gP ⟨oo,⟨by grind,by grind⟩,trivial⟩,gP ⟨oo,trivial⟩];rfl) (fun i s hi b=>by grind[Am,List.length_append]) (fun g s _=>aE) [] rfl
  refine a.trans ?_;rw[Kt d.1 (a6 y155) (fun c:H2=>c.1),k3 _ Y,Kr d.1 (fun c:H2=>c.1) (a6 y155)];unfold Dz;rw[H,Q,decide_eq_true W,decide_eq_true V,decide_eq_true h8];cases D5 d.1.length (fun i=>(j9 d i).1) <;> cases D5 d.2.1.length (fun i=>d.2.1.getD i (a6 .str)) <;> cases D5 d.2.2.length (fun i=>(B7 d i).1) <;> rfl
 ·have e0:(!Fp l||decide (14 < (d.1.length:Int))||decide (30 < (d.2.1.length:Int))||decide (8 < (d.2.2.length:Int))||!(!((List.range d.1.length).any fun i=>!U4 l.length (Ao l) d.2.1.length (j9 d i))&&!((List.range d.2.2.length).any fun i=>!U5 d.2.1.length (B7 d i))))=true:=by
   rw[<- Bool.not_eq_false];intro h;simp only[Bool.or_eq_false_iff,Bool.not_eq_false',decide_eq_false_iff_not,ba,Bool.not_eq_true'] at h;exact k ⟨h.1.1.1.1,by omega,by omega,by omega,h.2.1,h.2.2⟩
  refine(if_pos e0).trans ?_;refine congrArg some ?_
  symm
  rw[<- Bool.not_eq_true];intro h;unfold Dz at h;simp only[ba,dq,Bool.not_eq_true'] at h;obtain⟨⟨⟨⟨⟨⟨⟨⟨⟨c1,c2⟩,c3⟩,c4⟩,_⟩,_⟩,_⟩,c5⟩,c6⟩,_⟩:=h;exact k ⟨c1,c2,c3,c4,c5,c6⟩
end Go.Proofs.YtechodbafnmddaaGreatDoor
end

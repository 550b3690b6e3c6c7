/- Plain words on names: no program in sight. -/
import Derived.Test.YtechodbafnmddaaGreatDoorXA
import Derived.Lib.SlTrimSet
import Derived.Lib.Bytealg
import Derived.Test.YtechodbafnmddaaGreatDoorProg
import Derived.KernelRfl
import Derived.Test.YtechodbafnmddaaGreatDoorXK
import Derived.Test.YtechodbafnmddaaGreatDoorTY
import Derived.Test.YtechodbafnmddaaGreatDoorF94b
import Derived.Test.YtechodbafnmddaaGreatDoorXF
import Derived.Test.YtechodbafnmddaaGreatDoorG94
set_option maxHeartbeats 0
section
namespace Go.Proofs.Sv
open Go
def Bn(c:Int):Bool:=decide (c≥97)&&decide (c<=122)
def IP(c:Int):Bool:=decide (c≥48)&&decide (c<=57)
def FG(c:Int)(i:Nat):Bool:=Bn c||(IP c&&decide (0<i))
def Bo(s:ByteArray):Nat->Bool
 | 0=>true
 | k+1=>Bo s k&&FG (F8 s k) k
def J4(s:ByteArray):Bool:=Bo s s.size&&decide ((s.size:Int)≥1)&&decide ((s.size:Int)<=8)
theorem u0B(s:ByteArray)(k:Nat):∀j,k<=j->Bo s j=true->Bo s k=true:=by
 intro j c h
 induction j with
 | zero=>have:k=0:=by omega
         subst this; rfl
 | succ j a =>
   by_cases b:k=j+1
   ·subst b; exact h
   ·simp only[Bo,ba] at h;exact a (by omega) h.1
def low26:List UInt8:=[97,98,99,100,101,102,103,104,105,106,107,108,109,110,111,112,113,114,115,116,117,118,119,120,121,122]
def low36:List UInt8:=[97,98,99,100,101,102,103,104,105,106,107,108,109,110,111,112,113,114,115,116,117,118,119,120,121,122,48,49,50,51,52,53,54,55,56,57]
theorem u0S:∀n:Fin 256,low26.contains (UInt8.ofNat n.val)=Bn (n.val:Int):=by decide +kernel
theorem u0Q:∀n:Fin 256,low36.contains (UInt8.ofNat n.val)=(Bn (n.val:Int)||IP (n.val:Int)):=by decide +kernel
theorem u0R(b:UInt8):low26.contains b=Bn (b.toNat:Int):=by
 have:=u0S ⟨b.toNat,b.toNat_lt⟩;simpa using this
theorem n0h(b:UInt8):low36.contains b=(Bn (b.toNat:Int)||IP (b.toNat:Int)):=by
 have:=u0Q ⟨b.toNat,b.toNat_lt⟩;simpa using this
theorem g0o(c:UInt8):∀l:List UInt8,decide (0<=Lib.indexByte l c)=l.contains c
 | []=>by simp[Lib.indexByte]
 | b :: l=>by
   have g:=g0o c l;have i:=Lib.indexByte_ge l c;unfold Lib.indexByte;by_cases d:b=c
   ·subst d; simp
   ·have a:¬c=b:=fun h=>d h.symm;have f:(b==c)=false:=by simpa using d
    rw[f,List.contains_cons,show(c==b)=false by simpa using a,<- g];by_cases e:Lib.indexByte l c = -1
    ·simp[e]
    ·have:(Lib.indexByte l c == -1)=false:=by simpa using e
     rw[this];simp only[Bool.false_eq_true,if_false,Bool.false_or];rw[Bool.eq_iff_iff]; simp only[dq]; omega
theorem g0v{a:Type}(p:a->Bool):∀l:List a,l.dropWhile p=[]↔∀x∈l,p x=true
 | []=>by simp
 | x :: r=>by
   rw[List.dropWhile_cons];by_cases h:p x=true
   ·simp[h,g0v p r]
   ·simp[h]
theorem g0g{a:Type}(p:a->Bool)(x:a):∀l:List a,x∈l.takeWhile p->p x=true
 | [],h=>by cases h
 | y :: r,h=>by
   rw[List.takeWhile_cons] at h;by_cases b:p y=true
   ·rw[if_pos b] at h;rcases List.mem_cons.1 h with rfl | h
    ·exact b
    ·exact g0g p x r h
   ·rw[if_neg b] at h; cases h
theorem t0J(l cs:List UInt8):Lib.trimS l cs=[]↔∀b∈l,cs.contains b=true:=by
 unfold Lib.trimS Lib.trimLeftS Lib.trimRightS;rw[g0v];constructor
 ·intro h b a;have e:l=(l.reverse.dropWhile (cs.contains ·)).reverse++(l.reverse.takeWhile (cs.contains ·)).reverse:=by
   rw[<- List.reverse_append,List.takeWhile_append_dropWhile,List.reverse_reverse]
  rw[e] at a;rcases List.mem_append.1 a with a | a
  ·exact h b a
  ·have:=List.mem_reverse.1 a;exact g0g (cs.contains ·) b _ this
 ·intro h b a;exact h b (by have:=(List.dropWhile_sublist _).mem (List.mem_reverse.1 a); exact List.mem_reverse.1 this)
theorem q0C(s:ByteArray)(d:Bn (F8 s 0)=true):∀k,k<=s.size->(Bo s k=true↔∀i,i<k->(Bn (F8 s i)||IP (F8 s i))=true)
 | 0,_=>by simp[Bo]
 | k+1,hk=>by
   have f:=q0C s d k (by omega);simp only[Bo,ba,f];constructor
   ·rintro⟨g,a⟩ i hi;by_cases b:i=k
    ·subst b;unfold FG at a;cases hl:Bn (F8 s i) with
     | true=>simp
     | false=>rw[hl] at a; simp only[Bool.false_or,ba] at a; simp[a.1]
    ·exact g i (by omega)
   ·intro h;refine⟨fun i hi=>h i (by omega),?_⟩;have:=h k (by omega);unfold FG;by_cases c:k=0
    ·subst c; simp[d]
    ·have e:decide (0<k)=true:=by simp; omega
     rw[e]; simpa using this
theorem w0Q(s:ByteArray):Lib.trimS s.data.toList low36=[]↔∀i,i<s.size->(Bn (F8 s i)||IP (F8 s i))=true:=by
 rw[t0J];have c:s.data.toList.length=s.size:=by simp
 constructor
 ·intro h i hi;have a:i<s.data.toList.length:=by rw[c]; exact hi
  have:=h s.data.toList[i] (List.getElem_mem a);rw[n0h] at this;unfold F8;rw[gq,List.getElem?_eq_getElem a];exact this
 ·intro h b d;obtain⟨i,hi,rfl⟩:=List.getElem_of_mem d;have:=h i (by rw[<- c]; exact hi);unfold F8 at this;rw[gq,List.getElem?_eq_getElem hi] at this;rw[n0h]; exact this
theorem x0G(s:ByteArray)(d:1<=s.size)(e:s.size<=8):J4 s=((Lib.trimS s.data.toList low36==[])&&decide (0<=Lib.indexByte low26 (F8 s 0).toNat.toUInt8)):=by
 have c:(F8 s 0).toNat.toUInt8=s.data.toList.getD 0 0:=by unfold F8; simp
 rw[c,g0o,u0R];show J4 s=(_&&Bn (F8 s 0));have a:decide ((s.size:Int)≥1)=true:=by simp; omega
 have b:decide ((s.size:Int)<=8)=true:=by simp; omega
 unfold J4;rw[a,b,Bool.and_true,Bool.and_true];cases h0:Bn (F8 s 0) with
 | false =>
   rw[Bool.and_false];cases hn:Bo s s.size with
   | false=>rfl
   | true =>
     have:=u0B s 1 s.size d hn;simp[Bo,FG,h0] at this
 | true =>
   rw[Bool.and_true,Bool.eq_iff_iff,q0C s h0 s.size (Nat.le_refl _),beq_iff_eq,w0Q]
end Go.Proofs.Sv
end
section
namespace Go.Proofs.YtechodbafnmddaaGreatDoor
open Go Go.Proofs Go.Proofs.Sv
instance:K2 Tryz.prog 2:=⟨by kernel_rfl⟩
instance:Info Tryz.prog 2 1 8 (.int .i64 0):=⟨by kernel_rfl⟩
instance:K2 Tryz.prog 3:=⟨by kernel_rfl⟩
instance:Info Tryz.prog 3 1 8 (.int .i64 0):=⟨by kernel_rfl⟩
instance:K2 Tryz.prog 4:=⟨by kernel_rfl⟩
instance:GX Tryz.prog 4:=⟨by kernel_rfl⟩
instance:Info Tryz.prog 4 1 1 (.bool false):=⟨by kernel_rfl⟩
instance:K2 Tryz.prog 5:=⟨by kernel_rfl⟩
instance:Info Tryz.prog 5 1 1 (.int .u8 0):=⟨by kernel_rfl⟩
instance:K2 Tryz.prog 9:=⟨by kernel_rfl⟩
instance:IQ Tryz.prog 9:=⟨by kernel_rfl⟩
instance:Info Tryz.prog 9 1 16 (.string ⟨#[]⟩):=⟨by kernel_rfl⟩
instance:K2 Tryz.prog 26:=⟨by kernel_rfl⟩
instance:H4 Tryz.prog 26 9:=⟨by kernel_rfl⟩
instance:Info Tryz.prog 26 1 24 (.slice none 0 0):=⟨by kernel_rfl⟩
instance:L5 Tryz.prog 32:=⟨by kernel_rfl⟩
instance:x8 Tryz.prog 32 0 0:=⟨by kernel_rfl⟩
instance:x8 Tryz.prog 32 1 1:=⟨by kernel_rfl⟩
instance:x8 Tryz.prog 32 2 4:=⟨by kernel_rfl⟩
instance:Info Tryz.prog 32 5 120 (.agg #[.slice none 0 0,.slice none 0 0,.slice none 0 0,.slice none 0 0,.slice none 0 0]):=⟨by kernel_rfl⟩
instance:L5 Tryz.prog 34:=⟨by kernel_rfl⟩
instance:x8 Tryz.prog 34 0 0:=⟨by kernel_rfl⟩
instance:x8 Tryz.prog 34 1 1:=⟨by kernel_rfl⟩
instance:x8 Tryz.prog 34 2 2:=⟨by kernel_rfl⟩
instance:x8 Tryz.prog 34 3 3:=⟨by kernel_rfl⟩
instance:x8 Tryz.prog 34 4 4:=⟨by kernel_rfl⟩
instance:Info Tryz.prog 34 5 48 (.agg #[.string ⟨#[]⟩,.int .i64 0,.int .i64 0,.int .i64 0,.int .i64 0]):=⟨by kernel_rfl⟩
instance:K2 Tryz.prog 35:=⟨by kernel_rfl⟩
instance:H4 Tryz.prog 35 2:=⟨by kernel_rfl⟩
instance:Info Tryz.prog 35 1 24 (.slice none 0 0):=⟨by kernel_rfl⟩
instance:K2 Tryz.prog 36:=⟨by kernel_rfl⟩
instance:H4 Tryz.prog 36 106:=⟨by kernel_rfl⟩
instance:Info Tryz.prog 36 1 24 (.slice none 0 0):=⟨by kernel_rfl⟩
instance:K2 Tryz.prog 37:=⟨by kernel_rfl⟩
instance:H4 Tryz.prog 37 4:=⟨by kernel_rfl⟩
instance:Info Tryz.prog 37 1 24 (.slice none 0 0):=⟨by kernel_rfl⟩
instance:L5 Tryz.prog 40:=⟨by kernel_rfl⟩
instance:x8 Tryz.prog 40 0 0:=⟨by kernel_rfl⟩
instance:x8 Tryz.prog 40 1 1:=⟨by kernel_rfl⟩
instance:x8 Tryz.prog 40 2 2:=⟨by kernel_rfl⟩
instance:Info Tryz.prog 40 3 72 (.agg #[.slice none 0 0,.slice none 0 0,.slice none 0 0]):=⟨by kernel_rfl⟩
instance:K2 Tryz.prog 47:=⟨by kernel_rfl⟩
instance:H4 Tryz.prog 47 153:=⟨by kernel_rfl⟩
instance:Info Tryz.prog 47 1 24 (.slice none 0 0):=⟨by kernel_rfl⟩
instance:L5 Tryz.prog 49:=⟨by kernel_rfl⟩
instance:x8 Tryz.prog 49 0 0:=⟨by kernel_rfl⟩
instance:Info Tryz.prog 49 1 24 (.agg #[.slice none 0 0]):=⟨by kernel_rfl⟩
instance:K2 Tryz.prog 50:=⟨by kernel_rfl⟩
instance:H4 Tryz.prog 50 155:=⟨by kernel_rfl⟩
instance:Info Tryz.prog 50 1 24 (.slice none 0 0):=⟨by kernel_rfl⟩
instance:K2 Tryz.prog 51:=⟨by kernel_rfl⟩
instance:H4 Tryz.prog 51 231:=⟨by kernel_rfl⟩
instance:Info Tryz.prog 51 1 24 (.slice none 0 0):=⟨by kernel_rfl⟩
instance:L5 Tryz.prog 53:=⟨by kernel_rfl⟩
instance:x8 Tryz.prog 53 0 0:=⟨by kernel_rfl⟩
instance:x8 Tryz.prog 53 1 1:=⟨by kernel_rfl⟩
instance:x8 Tryz.prog 53 2 2:=⟨by kernel_rfl⟩
instance:Info Tryz.prog 53 3 72 (.agg #[.slice none 0 0,.slice none 0 0,.slice none 0 0]):=⟨by kernel_rfl⟩
instance:K2 Tryz.prog 54:=⟨by kernel_rfl⟩
instance:H4 Tryz.prog 54 172:=⟨by kernel_rfl⟩
instance:Info Tryz.prog 54 1 24 (.slice none 0 0):=⟨by kernel_rfl⟩
instance:L5 Tryz.prog 56:=⟨by kernel_rfl⟩
instance:x8 Tryz.prog 56 0 0:=⟨by kernel_rfl⟩
instance:x8 Tryz.prog 56 1 1:=⟨by kernel_rfl⟩
instance:x8 Tryz.prog 56 2 4:=⟨by kernel_rfl⟩
instance:Info Tryz.prog 56 5 120 (.agg #[.slice none 0 0,.slice none 0 0,.slice none 0 0,.slice none 0 0,.slice none 0 0]):=⟨by kernel_rfl⟩
instance:K2 Tryz.prog 61:=⟨by kernel_rfl⟩
instance:H4 Tryz.prog 61 75:=⟨by kernel_rfl⟩
instance:Info Tryz.prog 61 1 24 (.slice none 0 0):=⟨by kernel_rfl⟩
instance:K2 Tryz.prog 63:=⟨by kernel_rfl⟩
instance:H4 Tryz.prog 63 73:=⟨by kernel_rfl⟩
instance:Info Tryz.prog 63 1 24 (.slice none 0 0):=⟨by kernel_rfl⟩
instance:L5 Tryz.prog 65:=⟨by kernel_rfl⟩
instance:x8 Tryz.prog 65 0 0:=⟨by kernel_rfl⟩
instance:x8 Tryz.prog 65 1 1:=⟨by kernel_rfl⟩
instance:x8 Tryz.prog 65 2 2:=⟨by kernel_rfl⟩
instance:Info Tryz.prog 65 3 72 (.agg #[.slice none 0 0,.slice none 0 0,.slice none 0 0]):=⟨by kernel_rfl⟩
instance:L5 Tryz.prog 73:=⟨by kernel_rfl⟩
instance:x8 Tryz.prog 73 0 0:=⟨by kernel_rfl⟩
instance:x8 Tryz.prog 73 1 1:=⟨by kernel_rfl⟩
instance:Info Tryz.prog 73 2 16 (.agg #[.int .i64 0,.int .i64 0]):=⟨by kernel_rfl⟩
instance:L5 Tryz.prog 75:=⟨by kernel_rfl⟩
instance:x8 Tryz.prog 75 0 0:=⟨by kernel_rfl⟩
instance:x8 Tryz.prog 75 1 1:=⟨by kernel_rfl⟩
instance:x8 Tryz.prog 75 2 3:=⟨by kernel_rfl⟩
instance:Info Tryz.prog 75 5 40 (.agg #[.int .i64 0,.int .i64 0,.int .i64 0,.int .i64 0,.int .i64 0]):=⟨by kernel_rfl⟩
instance:L5 Tryz.prog 106:=⟨by kernel_rfl⟩
instance:x8 Tryz.prog 106 0 0:=⟨by kernel_rfl⟩
instance:x8 Tryz.prog 106 1 1:=⟨by kernel_rfl⟩
instance:x8 Tryz.prog 106 2 3:=⟨by kernel_rfl⟩
instance:Info Tryz.prog 106 5 40 (.agg #[.int .i64 0,.int .i64 0,.int .i64 0,.int .i64 0,.int .i64 0]):=⟨by kernel_rfl⟩
instance:K2 Tryz.prog 150:=⟨by kernel_rfl⟩
instance:H4 Tryz.prog 150 293:=⟨by kernel_rfl⟩
instance:Info Tryz.prog 150 1 24 (.slice none 0 0):=⟨by kernel_rfl⟩
instance:K2 Tryz.prog 151:=⟨by kernel_rfl⟩
instance:H4 Tryz.prog 151 158:=⟨by kernel_rfl⟩
instance:Info Tryz.prog 151 1 24 (.slice none 0 0):=⟨by kernel_rfl⟩
instance:L5 Tryz.prog 153:=⟨by kernel_rfl⟩
instance:x8 Tryz.prog 153 0 0:=⟨by kernel_rfl⟩
instance:x8 Tryz.prog 153 1 1:=⟨by kernel_rfl⟩
instance:x8 Tryz.prog 153 2 2:=⟨by kernel_rfl⟩
instance:x8 Tryz.prog 153 3 3:=⟨by kernel_rfl⟩
instance:x8 Tryz.prog 153 4 4:=⟨by kernel_rfl⟩
instance:x8 Tryz.prog 153 5 5:=⟨by kernel_rfl⟩
instance:x8 Tryz.prog 153 6 6:=⟨by kernel_rfl⟩
instance:Info Tryz.prog 153 7 112 (.agg #[.string ⟨#[]⟩,.int .i64 0,.slice none 0 0,.slice none 0 0,.slice none 0 0,.int .i64 0,.int .i64 0]):=⟨by kernel_rfl⟩
instance:L5 Tryz.prog 155:=⟨by kernel_rfl⟩
instance:x8 Tryz.prog 155 0 0:=⟨by kernel_rfl⟩
instance:x8 Tryz.prog 155 1 1:=⟨by kernel_rfl⟩
instance:x8 Tryz.prog 155 2 2:=⟨by kernel_rfl⟩
instance:Info Tryz.prog 155 3 48 (.agg #[.string ⟨#[]⟩,.int .i64 0,.slice none 0 0]):=⟨by kernel_rfl⟩
instance:K2 Tryz.prog 156:=⟨by kernel_rfl⟩
instance:H4 Tryz.prog 156 269:=⟨by kernel_rfl⟩
instance:Info Tryz.prog 156 1 24 (.slice none 0 0):=⟨by kernel_rfl⟩
instance:L5 Tryz.prog 158:=⟨by kernel_rfl⟩
instance:x8 Tryz.prog 158 0 0:=⟨by kernel_rfl⟩
instance:x8 Tryz.prog 158 1 1:=⟨by kernel_rfl⟩
instance:x8 Tryz.prog 158 2 2:=⟨by kernel_rfl⟩
instance:x8 Tryz.prog 158 3 3:=⟨by kernel_rfl⟩
instance:x8 Tryz.prog 158 4 4:=⟨by kernel_rfl⟩
instance:x8 Tryz.prog 158 5 5:=⟨by kernel_rfl⟩
instance:Info Tryz.prog 158 6 80 (.agg #[.int .i64 0,.int .i64 0,.int .i64 0,.int .i64 0,.slice none 0 0,.slice none 0 0]):=⟨by kernel_rfl⟩
instance:L5 Tryz.prog 172:=⟨by kernel_rfl⟩
instance:x8 Tryz.prog 172 0 0:=⟨by kernel_rfl⟩
instance:x8 Tryz.prog 172 1 1:=⟨by kernel_rfl⟩
instance:x8 Tryz.prog 172 2 2:=⟨by kernel_rfl⟩
instance:x8 Tryz.prog 172 3 3:=⟨by kernel_rfl⟩
instance:Info Tryz.prog 172 4 96 (.agg #[.slice none 0 0,.slice none 0 0,.slice none 0 0,.slice none 0 0]):=⟨by kernel_rfl⟩
instance:L5 Tryz.prog 231:=⟨by kernel_rfl⟩
instance:x8 Tryz.prog 231 0 0:=⟨by kernel_rfl⟩
instance:x8 Tryz.prog 231 1 1:=⟨by kernel_rfl⟩
instance:x8 Tryz.prog 231 2 2:=⟨by kernel_rfl⟩
instance:Info Tryz.prog 231 3 32 (.agg #[.string ⟨#[]⟩,.int .i64 0,.int .i64 0]):=⟨by kernel_rfl⟩
instance:L5 Tryz.prog 269:=⟨by kernel_rfl⟩
instance:x8 Tryz.prog 269 0 0:=⟨by kernel_rfl⟩
instance:x8 Tryz.prog 269 1 1:=⟨by kernel_rfl⟩
instance:x8 Tryz.prog 269 2 2:=⟨by kernel_rfl⟩
instance:Info Tryz.prog 269 3 72 (.agg #[.slice none 0 0,.slice none 0 0,.slice none 0 0]):=⟨by kernel_rfl⟩
instance:K2 Tryz.prog 291:=⟨by kernel_rfl⟩
instance:H4 Tryz.prog 291 5:=⟨by kernel_rfl⟩
instance:Info Tryz.prog 291 1 24 (.slice none 0 0):=⟨by kernel_rfl⟩
instance:L5 Tryz.prog 293:=⟨by kernel_rfl⟩
instance:x8 Tryz.prog 293 0 0:=⟨by kernel_rfl⟩
instance:x8 Tryz.prog 293 1 1:=⟨by kernel_rfl⟩
instance:x8 Tryz.prog 293 2 2:=⟨by kernel_rfl⟩
instance:x8 Tryz.prog 293 3 3:=⟨by kernel_rfl⟩
instance:Info Tryz.prog 293 4 40 (.agg #[.string ⟨#[]⟩,.int .i64 0,.int .i64 0,.bool false]):=⟨by kernel_rfl⟩
instance:C4 Tryz.prog 7:=⟨by kernel_rfl⟩
instance:C4 Tryz.prog 8:=⟨by kernel_rfl⟩
instance:C4 Tryz.prog 9:=⟨by kernel_rfl⟩
instance:C4 Tryz.prog 10:=⟨by kernel_rfl⟩
instance:C4 Tryz.prog 12:=⟨by kernel_rfl⟩
instance:C4 Tryz.prog 13:=⟨by kernel_rfl⟩
instance:C4 Tryz.prog 14:=⟨by kernel_rfl⟩
instance:C4 Tryz.prog 15:=⟨by kernel_rfl⟩
instance:C4 Tryz.prog 16:=⟨by kernel_rfl⟩
instance:C4 Tryz.prog 18:=⟨by kernel_rfl⟩
instance:C4 Tryz.prog 19:=⟨by kernel_rfl⟩
instance:C4 Tryz.prog 20:=⟨by kernel_rfl⟩
instance:C4 Tryz.prog 21:=⟨by kernel_rfl⟩
instance:C4 Tryz.prog 27:=⟨by kernel_rfl⟩
instance:C4 Tryz.prog 28:=⟨by kernel_rfl⟩
instance:C4 Tryz.prog 29:=⟨by kernel_rfl⟩
instance:C4 Tryz.prog 30:=⟨by kernel_rfl⟩
instance:C4 Tryz.prog 32:=⟨by kernel_rfl⟩
instance:C4 Tryz.prog 33:=⟨by kernel_rfl⟩
instance:C4 Tryz.prog 34:=⟨by kernel_rfl⟩
instance:C4 Tryz.prog 70:=⟨by kernel_rfl⟩
instance:C4 Tryz.prog 71:=⟨by kernel_rfl⟩
instance:C4 Tryz.prog 72:=⟨by kernel_rfl⟩
instance:C4 Tryz.prog 73:=⟨by kernel_rfl⟩
instance:C4 Tryz.prog 74:=⟨by kernel_rfl⟩
instance:C4 Tryz.prog 129:=⟨by kernel_rfl⟩
instance:C4 Tryz.prog 130:=⟨by kernel_rfl⟩
instance:C4 Tryz.prog 131:=⟨by kernel_rfl⟩
instance:C4 Tryz.prog 132:=⟨by kernel_rfl⟩
instance:C4 Tryz.prog 179:=⟨by kernel_rfl⟩
instance:C4 Tryz.prog 180:=⟨by kernel_rfl⟩
instance:C4 Tryz.prog 181:=⟨by kernel_rfl⟩
instance:C4 Tryz.prog 222:=⟨by kernel_rfl⟩
end Go.Proofs.YtechodbafnmddaaGreatDoor
end
section
namespace Go.Proofs.YtechodbafnmddaaGreatDoor
open Go Go.Proofs Go.Proofs.Xv
instance : FacT Tryz.prog := ⟨fun _ => ⟨fun g e => (nomatch (show Tryz.prog.globalNamed "internal/strconv.uint64pow10" = none by kernel_rfl).symm.trans e), fun g e => (nomatch (show Tryz.prog.globalNamed "strconv.ErrSyntax" = none by kernel_rfl).symm.trans e), fun g e => (nomatch (show Tryz.prog.globalNamed "strconv.ErrRange" = none by kernel_rfl).symm.trans e), fun f g e _ => (nomatch (show Tryz.prog.funcNamed "strings.Split" = none by kernel_rfl).symm.trans e)⟩⟩
end Go.Proofs.YtechodbafnmddaaGreatDoor
end
section
namespace Go.Proofs.YtechodbafnmddaaGreatDoor
open Go Go.Proofs Go.Proofs.Sv Go.Proofs.Xv Go.RowKit
attribute [local irreducible] VS VO VQ VH M3 Y0 CL MM D6 TS
attribute [local simp] u6 I8 Value.cells
instance:M1 Tryz.prog:=⟨by kernel_rfl⟩
instance:MN Tryz.prog 5:=⟨by kernel_rfl⟩
instance:PR Tryz.prog 3:=⟨by kernel_rfl⟩
instance:PR Tryz.prog 2:=⟨by kernel_rfl⟩
theorem x0x{k:Int}{n:Nat}(g:0<k)(h:k*(10:Int) ^ n<=9223372036854775807):n<=18/\k.tdiv 10*(10:Int) ^ (n+1)<=9223372036854775807:=by
 have f:(0:Int) < (10:Int) ^ n:=Int.pow_pos (by decide);constructor
 ·rcases Nat.lt_or_ge 18 n with a | a
  ·have d:(10:Int) ^ 19<=(10:Int) ^ n:=by
    have b:10 ^ 19<=10 ^ n:=Nat.pow_le_pow_right (n:=10) (by decide) (by omega:19<=n)
    exact_mod_cast b
   have i:(1:Int)*(10:Int) ^ n<=k*(10:Int) ^ n:=Int.mul_le_mul_of_nonneg_right (by omega) (by omega);have:(10:Int) ^ 19=10000000000000000000:=by decide
   omega
  ·exact a
 ·have e:k.tdiv 10*(10:Int) ^ (n+1)=(k.tdiv 10*10)*(10:Int) ^ n:=by rw[Int.pow_succ,Int.mul_comm ((10:Int) ^ n) 10,<- Int.mul_assoc]
  have c:k.tdiv 10*10<=k:=by
   rw[Int.tdiv_eq_ediv_of_nonneg (by omega)];omega
  rw[e];exact Int.le_trans (Int.mul_le_mul_of_nonneg_right c (by omega)) h
set_option maxHeartbeats 2000000 in
theorem K0R{k:Int}{w:World}(h:K1 k):Calls Tryz.prog 179 #[.int .i64 k] w fun en w'=>∃s,en=.returned (.string s)/\s.size<=9223372036854775807/\Ext w w':=by
 have b:Below w.heap.size w w:=Below.refl _ _;refine Q4 Tryz.func179 Tryz.ntmps179 rfl rfl ?_
 (repeat (first | refine L6 rfl rfl ?_ | refine l9 ?_ | refine I9 ?_ | refine oN ?_ | refine nQ ?_ | refine D7 ?_ | refine F4 ?_ | refine G7 ?_ | refine V6 ?_ | refine Bp ?_ | refine N0 ?_ | refine N1 ?_ | refine N2 ?_ | refine N3 rfl ?_))
 refine P5 rfl (fun d=>?_) (fun d=>?_)
 · (repeat (first | refine L6 rfl rfl ?_ | refine l9 ?_ | refine I9 ?_ | refine oN ?_ | refine nQ ?_ | refine D7 ?_ | refine F4 ?_ | refine G7 ?_ | refine V6 ?_ | refine Bp ?_ | refine N0 ?_ | refine N1 ?_ | refine N2 ?_ | refine N3 rfl ?_))
   (first | refine L7 Tryz.results179 rfl ?_ | refine q0U Tryz.results179 rfl ?_ | refine q0T Tryz.results179 rfl rfl ?_ | refine n0v Tryz.results179 rfl (by assumption) rfl rfl ?_ | refine q0S Tryz.results179 rfl (by assumption) rfl ?_)
   exact⟨_,rfl,by decide,b⟩
 · (repeat (first | refine L6 rfl rfl ?_ | refine l9 ?_ | refine I9 ?_ | refine oN ?_ | refine nQ ?_ | refine D7 ?_ | refine F4 ?_ | refine G7 ?_ | refine V6 ?_ | refine Bp ?_ | refine N0 ?_ | refine N1 ?_ | refine N2 ?_ | refine N3 rfl ?_))
   have r:0<k:=by simp at d; omega
   refine Ad (fun s:Int×ByteArray=>(3,.string s.2) :: (0,.int .i64 s.1) :: []) (fun s w'=>0<=s.1/\s.1<=9223372036854775807/\s.1*(10:Int) ^ s.2.size<=9223372036854775807/\(s.1=0->s.2.size<=19)/\Below w.heap.size w w') (fun s=>s.1.toNat) (k,⟨#[]⟩) ⟨by omega,h.2,by show k*(10:Int) ^ 0<=_; rw[Int.pow_zero,Int.mul_one]; exact h.2,fun _=>Nat.zero_le _,b⟩ (by ((repeat (refine J5 rfl ?_)); exact J6)) ?_;rintro⟨m,s⟩ q ⟨e,j,l,i,b⟩;dsimp only at e j l i
   (repeat (first | refine L6 rfl rfl ?_ | refine l9 ?_ | refine I9 ?_ | refine oN ?_ | refine nQ ?_ | refine D7 ?_ | refine F4 ?_ | refine G7 ?_ | refine V6 ?_ | refine Bp ?_ | refine N0 ?_ | refine N1 ?_ | refine N2 ?_ | refine N3 rfl ?_))
   refine P5 rfl (fun d=>?_) (fun d=>?_)
   ·have g:0<m:=by simpa using d
    obtain⟨E,t⟩:=x0x g l
    (repeat (first | refine L6 rfl rfl ?_ | refine l9 ?_ | refine I9 ?_ | refine oN ?_ | refine nQ ?_ | refine D7 ?_ | refine F4 ?_ | refine G7 ?_ | refine V6 ?_ | refine Bp ?_ | refine N0 ?_ | refine N1 ?_ | refine N2 ?_ | refine N3 rfl ?_))
    have z:=Int.tmod_nonneg 10 e;have F:=Int.tmod_lt_of_pos m (show(0:Int)<10 by decide);have n:0<=m.tdiv 10:=Int.tdiv_nonneg e (by decide);have y:m.tdiv 10<m:=by
     rw[Int.tdiv_eq_ediv_of_nonneg e];omega
    refine F0 _ (PS (a:=m) rfl rfl (show(10:Int)≠0 by decide)) rfl ?_;refine F0 _ (MO rfl rfl (by omega)) rfl ?_;refine F0 _ (o0w rfl) rfl ?_
    (refine l0e rfl rfl rfl rfl rfl ?_; intro G q f u; have o:=f.eq; have o:=f.size; have v:=f.ext; replace b:=b.trans (v.mono b.size))
    refine F0 _ (k0v (ms:=[((48:Int)+m.tmod 10) % 256]) rfl rfl u.at) rfl ?_;have hz:(strOfNums [((48:Int)+m.tmod 10) % 256]).size=1:=rfl;generalize strOfNums [((48:Int)+m.tmod 10) % 256]=c at hz
    (repeat (first | refine L6 rfl rfl ?_ | refine l9 ?_ | refine I9 ?_ | refine oN ?_ | refine nQ ?_ | refine D7 ?_ | refine F4 ?_ | refine G7 ?_ | refine V6 ?_ | refine Bp ?_ | refine N0 ?_ | refine N1 ?_ | refine N2 ?_ | refine N3 rfl ?_))
    refine F0 _ (TT rfl rfl (by show c.size+s.size<=_; omega)) rfl ?_
    (repeat (first | refine L6 rfl rfl ?_ | refine l9 ?_ | refine I9 ?_ | refine oN ?_ | refine nQ ?_ | refine D7 ?_ | refine F4 ?_ | refine G7 ?_ | refine V6 ?_ | refine Bp ?_ | refine N0 ?_ | refine N1 ?_ | refine N2 ?_ | refine N3 rfl ?_))
    refine F0 _ (q0c rfl rfl ⟨by omega,j⟩ (show(0:Int)<10 by decide)) rfl ?_
    (repeat (first | refine L6 rfl rfl ?_ | refine l9 ?_ | refine I9 ?_ | refine oN ?_ | refine nQ ?_ | refine D7 ?_ | refine F4 ?_ | refine G7 ?_ | refine V6 ?_ | refine Bp ?_ | refine N0 ?_ | refine N1 ?_ | refine N2 ?_ | refine N3 rfl ?_))
    refine Ae (m.tdiv 10,c++s) ⟨n,by show m.tdiv 10<=_; omega,?_,?_,b⟩ (by show(m.tdiv 10).toNat<m.toNat; omega) (by ((repeat (refine J5 rfl ?_)); exact J6))
    ·show m.tdiv 10*(10:Int) ^ (c++s).size<=_;rw[ByteArray.size_append,hz,Nat.add_comm];exact t
    ·intro _;show(c++s).size<=19;rw[ByteArray.size_append,hz];omega
   ·have g:m=0:=by
     have:¬(0<m):=by simpa using d
     omega
    have x:=i g
    (repeat (first | refine L6 rfl rfl ?_ | refine l9 ?_ | refine I9 ?_ | refine oN ?_ | refine nQ ?_ | refine D7 ?_ | refine F4 ?_ | refine G7 ?_ | refine V6 ?_ | refine Bp ?_ | refine N0 ?_ | refine N1 ?_ | refine N2 ?_ | refine N3 rfl ?_))
    refine F0 _ (TT rfl rfl (by show(ByteArray.mk #[109]).size+s.size<=_; have:(ByteArray.mk #[109]).size=1:=rfl; omega)) rfl ?_
    (repeat (first | refine L6 rfl rfl ?_ | refine l9 ?_ | refine I9 ?_ | refine oN ?_ | refine nQ ?_ | refine D7 ?_ | refine F4 ?_ | refine G7 ?_ | refine V6 ?_ | refine Bp ?_ | refine N0 ?_ | refine N1 ?_ | refine N2 ?_ | refine N3 rfl ?_))
    (first | refine L7 Tryz.results179 rfl ?_ | refine q0U Tryz.results179 rfl ?_ | refine q0T Tryz.results179 rfl rfl ?_ | refine n0v Tryz.results179 rfl (by assumption) rfl rfl ?_ | refine q0S Tryz.results179 rfl (by assumption) rfl ?_)
    refine⟨_,rfl,?_,b⟩;show(ByteArray.mk #[109]++s).size<=_;rw[ByteArray.size_append];have:(ByteArray.mk #[109]).size=1:=rfl;omega
theorem tC:TxC Tryz.prog 179:=fun _ _ h=>K0R h
set_option maxHeartbeats 2000000 in
theorem CM:Ay Tryz.prog 28 (.sl (.int .i64)):=by
 intro F w u x k H v h0 Y;have j:=v;obtain⟨p,m,z,q,t,_⟩:=j;simp only[List.cons.injEq,and_true] at z;subst z;have d:=Az (.int .i64) x;refine Q4 Tryz.func28 Tryz.ntmps28 rfl rfl ?_;refine ra ?_;refine pu ?_;refine oN (nQ (l9 (ra ?_)));refine pu ?_;refine oN (nQ (F4 ?_));refine Ad (fun i:Nat=>(1,.int .i64 (k+(y9 (.int .i64) x i:Int))) :: (5,.int .i64 (i:Int)) :: (0,.slice p x.length m) :: []) (fun i E=>i<=x.length/\WM F w E) (fun i=>x.length-i) 0 ⟨Nat.zero_le _,WM.refl F w⟩ (by rw[Bq]; simp only[Int.natCast_zero,Int.add_zero]; ((repeat (refine J5 rfl ?_)); exact J6)) ?_;rintro i w1 ⟨hi,g⟩;have G:=K3 (.int .i64) x i hi;refine l9 (ra ?_);refine pu ?_;refine pu ?_;refine F0 _ (Af rfl) rfl ?_;refine pu ?_;refine oN (nQ ?_);refine P5 rfl (fun h=>?_) (fun h=>?_)
 ·have a:i<x.length:=by simpa using h
  obtain⟨_,b,o,c,rfl,P,V,l,r⟩:=SH.get v a;have f:=AA (e:=(.int .i64)) (xs:=x) a;have s:=K3 (.int .i64) x (i+1) (by omega);generalize x[i]=y at r f;obtain⟨X,rfl,_,_⟩:=r;have T:l7 (.int .i64) y=1:=rfl;refine D7 (nQ (l9 (F4 ?_)));refine ra ?_;refine pu ?_;refine pu ?_;refine pu ?_;refine im a ?_;refine si g P V (l 0 _ rfl) fun W g=>?_;refine rc ?_;refine pu ?_;refine ad ?_;refine pu ?_;refine Br ?_;refine pu ?_;refine ad ?_;refine pu ?_;refine oN ?_;have Q:k+((y9 (.int .i64) x (i+1):Nat):Int)=((k+(y9 (.int .i64) x i:Int))+1):=by rw[f,T]; omega
  refine Ae (i+1) ⟨by omega,g⟩ (by omega) (by rw[Q,Int.natCast_succ]; ((repeat (refine J5 rfl ?_)); exact J6))
 ·have n:i=x.length:=by
   have:¬i<x.length:=by simpa using h
   omega
  subst n;refine N0 (N1 (N2 (N3 rfl (nQ (ra ?_)))));refine pu ?_;refine pu ?_;refine oN (nQ (G7 ?_));refine L7 Tryz.results28 rfl ?_;rw[d];exact⟨rfl,g⟩
set_option maxHeartbeats 2000000 in
theorem M0v:Ay Tryz.prog 222 (.sl y269):=by
 intro F w u x k f Q h0 hk;have m:=Q;obtain⟨p,n,T,v,P,_⟩:=m;simp only[List.cons.injEq,and_true] at T;subst T;have h:=Az y269 x;refine Q4 Tryz.func222 Tryz.ntmps222 rfl rfl ?_;refine ra ?_;refine pu ?_;refine oN (nQ (l9 (ra ?_)));refine pu ?_;refine oN (nQ (F4 ?_));refine Ad (fun i:Nat=>(1,.int .i64 (k+(y9 y269 x i:Int))) :: (5,.int .i64 (i:Int)) :: (0,.slice p x.length n) :: []) (fun i V=>i<=x.length/\WM F w V) (fun i=>x.length-i) 0 ⟨Nat.zero_le _,WM.refl F w⟩ (by rw[Bq]; simp only[Int.natCast_zero,Int.add_zero]; ((repeat (refine J5 rfl ?_)); exact J6)) ?_;rintro i w1 ⟨hi,d⟩;have W:=K3 y269 x i hi;refine l9 (ra ?_);refine pu ?_;refine pu ?_;refine F0 _ (Af rfl) rfl ?_;refine pu ?_;refine oN (nQ ?_);refine P5 rfl (fun l=>?_) (fun l=>?_)
 ·have a:i<x.length:=by simpa using l
  obtain⟨_,b,o,c,rfl,r,hU,g,z⟩:=SH.get Q a;have j:=AA (e:=y269) (xs:=x) a;have E:=K3 y269 x (i+1) (by omega);generalize x[i]=y at z j;obtain⟨_,_,rfl,s,⟨_,_,rfl,G,H⟩⟩:=z;have X:=s;obtain⟨_,_,rfl,_⟩:=X;have Y:=G;obtain⟨_,_,rfl,_⟩:=Y;have r2:=H;obtain⟨_,_,rfl,_⟩:=r2;have hy:l7 y269 y=(l7 (.sl (.int .i64)) y.1+(l7 (.sl (.int .i64)) y.2.1+l7 (.sl (.int .i64)) y.2.2)):=rfl;refine D7 (nQ (l9 (F4 ?_)));refine ra ?_;refine pu ?_;refine pu ?_;refine im a ?_;refine fm ?_;refine lm d r (g 0 _ rfl) ?_;refine pu ?_;refine mc CM f d s fun t d _=>?_;refine pu ?_;refine rb ?_;refine pu ?_;refine pu ?_;refine im a ?_;refine fm ?_;refine lm d r (g 1 _ rfl) ?_;refine pu ?_;refine mc CM f d G fun t d _=>?_;refine pu ?_;refine rc ?_;refine pu ?_;refine pu ?_;refine im a ?_;refine fm ?_;refine lm d r (g 2 _ rfl) ?_;refine pu ?_;refine mc CM f d H fun t d _=>?_;refine pu ?_;refine Br ?_;refine pu ?_;refine ad ?_;refine pu ?_;refine oN ?_;have he:k+((y9 y269 x (i+1):Nat):Int)=((((k+(y9 y269 x i:Int))+(l7 (.sl (.int .i64)) y.1:Int))+(l7 (.sl (.int .i64)) y.2.1:Int))+(l7 (.sl (.int .i64)) y.2.2:Int)):=by rw[j,hy]; omega
  refine Ae (i+1) ⟨by omega,d⟩ (by omega) (by rw[he,Int.natCast_succ]; ((repeat (refine J5 rfl ?_)); exact J6))
 ·have q:i=x.length:=by
   have:¬i<x.length:=by simpa using l
   omega
  subst q;refine N0 (N1 (N2 (N3 rfl (nQ (ra ?_)))));refine pu ?_;refine pu ?_;refine oN (nQ (G7 ?_));refine L7 Tryz.results222 rfl ?_;rw[h];exact⟨rfl,d⟩
set_option maxHeartbeats 2000000 in
theorem P0L:Ay Tryz.prog 181 (.sl y158):=by
 intro F w u x k h Q h0 hk;have r:=Q;obtain⟨p,s,T,v,P,_⟩:=r;simp only[List.cons.injEq,and_true] at T;subst T;have l:=Az y158 x;refine Q4 Tryz.func181 Tryz.ntmps181 rfl rfl ?_;refine ra ?_;refine pu ?_;refine oN (nQ (l9 (ra ?_)));refine pu ?_;refine oN (nQ (F4 ?_));refine Ad (fun i:Nat=>(1,.int .i64 (k+(y9 y158 x i:Int))) :: (5,.int .i64 (i:Int)) :: (0,.slice p x.length s) :: []) (fun i V=>i<=x.length/\WM F w V) (fun i=>x.length-i) 0 ⟨Nat.zero_le _,WM.refl F w⟩ (by rw[Bq]; simp only[Int.natCast_zero,Int.add_zero]; ((repeat (refine J5 rfl ?_)); exact J6)) ?_;rintro i w1 ⟨hi,d⟩;have W:=K3 y158 x i hi;refine l9 (ra ?_);refine pu ?_;refine pu ?_;refine F0 _ (Af rfl) rfl ?_;refine pu ?_;refine oN (nQ ?_);refine P5 rfl (fun q=>?_) (fun q=>?_)
 ·have a:i<x.length:=by simpa using q
  obtain⟨_,b,o,c,rfl,g,n,f,z⟩:=SH.get Q a;have m:=AA (e:=y158) (xs:=x) a;have E:=K3 y158 x (i+1) (by omega);generalize x[i]=y at z m;obtain⟨_,_,rfl,⟨z0,rfl,_,_⟩,⟨_,_,rfl,⟨z1,rfl,_,_⟩,⟨_,_,rfl,⟨z2,rfl,_,_⟩,⟨_,_,rfl,⟨z3,rfl,_,_⟩,⟨_,_,rfl,H,G⟩⟩⟩⟩⟩:=z;have Y:=H;obtain⟨_,_,rfl,_⟩:=Y;have X:=G;obtain⟨_,_,rfl,_⟩:=X;have hy:l7 y158 y=(1+(1+(1+(1+(l7 (.sl y269) y.2.2.2.2.1+l7 (.sl y269) y.2.2.2.2.2))))):=rfl;refine D7 (nQ (l9 (F4 ?_)));refine ra ?_;refine pu ?_;refine pu ?_;refine pu ?_;refine im a ?_;refine fm ?_;refine si d g n (f 0 _ rfl) fun j d=>?_;refine rb ?_;refine pu ?_;refine ad ?_;refine pu ?_;refine rb ?_;refine pu ?_;refine pu ?_;refine pu ?_;refine im a ?_;refine fm ?_;refine si d g n (f 1 _ rfl) fun j d=>?_;refine rb ?_;refine pu ?_;refine ad ?_;refine pu ?_;refine rb ?_;refine pu ?_;refine pu ?_;refine pu ?_;refine im a ?_;refine fm ?_;refine si d g n (f 2 _ rfl) fun j d=>?_;refine rb ?_;refine pu ?_;refine ad ?_;refine pu ?_;refine rb ?_;refine pu ?_;refine pu ?_;refine pu ?_;refine im a ?_;refine fm ?_;refine si d g n (f 3 _ rfl) fun j d=>?_;refine rb ?_;refine pu ?_;refine ad ?_;refine pu ?_;refine rb ?_;refine pu ?_;refine pu ?_;refine im a ?_;refine fm ?_;refine lm d g (f 4 _ rfl) ?_;refine pu ?_;refine mc M0v h d H fun j d _=>?_;refine pu ?_;refine rc ?_;refine pu ?_;refine pu ?_;refine im a ?_;refine fm ?_;refine lm d g (f 5 _ rfl) ?_;refine pu ?_;refine mc M0v h d G fun j d _=>?_;refine pu ?_;refine Br ?_;refine pu ?_;refine ad ?_;refine pu ?_;refine oN ?_;have he:k+((y9 y158 x (i+1):Nat):Int)=(((((((k+(y9 y158 x i:Int))+1)+1)+1)+1)+(l7 (.sl y269) y.2.2.2.2.1:Int))+(l7 (.sl y269) y.2.2.2.2.2:Int)):=by rw[m,hy]; omega
  refine Ae (i+1) ⟨by omega,d⟩ (by omega) (by rw[he,Int.natCast_succ]; ((repeat (refine J5 rfl ?_)); exact J6))
 ·have t:i=x.length:=by
   have:¬i<x.length:=by simpa using q
   omega
  subst t;refine N0 (N1 (N2 (N3 rfl (nQ (ra ?_)))));refine pu ?_;refine pu ?_;refine oN (nQ (G7 ?_));refine L7 Tryz.results181 rfl ?_;rw[l];exact⟨rfl,d⟩
set_option maxHeartbeats 2000000 in
theorem P0M:Ay Tryz.prog 180 (.sl y293):=by
 intro F w u x k V H h0 hk;have q:=H;obtain⟨p,r,P,v,G,_⟩:=q;simp only[List.cons.injEq,and_true] at P;subst P;have g:=Az y293 x;refine Q4 Tryz.func180 Tryz.ntmps180 rfl rfl ?_;refine ra ?_;refine pu ?_;refine oN (nQ (l9 (ra ?_)));refine pu ?_;refine oN (nQ (F4 ?_));refine Ad (fun i:Nat=>(1,.int .i64 (k+(y9 y293 x i:Int))) :: (5,.int .i64 (i:Int)) :: (0,.slice p x.length r) :: []) (fun i Q=>i<=x.length/\WM F w Q) (fun i=>x.length-i) 0 ⟨Nat.zero_le _,WM.refl F w⟩ (by rw[Bq]; simp only[Int.natCast_zero,Int.add_zero]; ((repeat (refine J5 rfl ?_)); exact J6)) ?_;rintro i w1 ⟨hi,d⟩;have T:=K3 y293 x i hi;refine l9 (ra ?_);refine pu ?_;refine pu ?_;refine F0 _ (Af rfl) rfl ?_;refine pu ?_;refine oN (nQ ?_);refine P5 rfl (fun n=>?_) (fun n=>?_)
 ·have a:i<x.length:=by simpa using n
  obtain⟨_,b,o,c,rfl,l,m,f,z⟩:=SH.get H a;have h:=AA (e:=y293) (xs:=x) a;have E:=K3 y293 x (i+1) (by omega);generalize x[i]=y at z h;obtain⟨_,_,rfl,⟨z0,rfl,_⟩,⟨_,_,rfl,⟨Y,rfl,_,_⟩,⟨_,_,rfl,⟨z2,rfl,_,_⟩,⟨z3,rfl⟩⟩⟩⟩:=z;have X:l7 y293 y=(1+(1+(1+1))):=rfl;refine D7 (nQ (l9 (F4 ?_)));refine ra ?_;refine pu ?_;refine pu ?_;refine pu ?_;refine MP tC d fun j s1 t d=>?_;refine im a ?_;refine fm ?_;refine ss d l m (f 0 _ rfl) t fun j d=>?_;refine rb ?_;refine pu ?_;refine ad ?_;refine pu ?_;refine rb ?_;refine pu ?_;refine pu ?_;refine pu ?_;refine im a ?_;refine fm ?_;refine si d l m (f 1 _ rfl) fun j d=>?_;refine rb ?_;refine pu ?_;refine ad ?_;refine pu ?_;refine rb ?_;refine pu ?_;refine pu ?_;refine pu ?_;refine im a ?_;refine fm ?_;refine si d l m (f 2 _ rfl) fun j d=>?_;refine rb ?_;refine pu ?_;refine ad ?_;refine pu ?_;refine rb ?_;refine pu ?_;refine pu ?_;refine pu ?_;refine F0 _ (PS rfl rfl (show(3:Int)≠0 by decide)) rfl ?_;refine pu ?_;refine im a ?_;refine fm ?_;refine sb d l m (f 3 _ rfl) fun j d=>?_;refine rc ?_;refine pu ?_;refine ad ?_;refine pu ?_;refine Br ?_;refine pu ?_;refine ad ?_;refine pu ?_;refine oN ?_;have W:k+((y9 y293 x (i+1):Nat):Int)=(((((k+(y9 y293 x i:Int))+1)+1)+1)+1):=by rw[h,X]; omega
  refine Ae (i+1) ⟨by omega,d⟩ (by omega) (by rw[W,Int.natCast_succ]; ((repeat (refine J5 rfl ?_)); exact J6))
 ·have s:i=x.length:=by
   have:¬i<x.length:=by simpa using n
   omega
  subst s;refine N0 (N1 (N2 (N3 rfl (nQ (ra ?_)))));refine pu ?_;refine pu ?_;refine oN (nQ (G7 ?_));refine L7 Tryz.results180 rfl ?_;rw[g];exact⟨rfl,d⟩
set_option maxHeartbeats 2000000 in
theorem P0O:Ay Tryz.prog 131 (.sl .str):=by
 intro F w u x k P z h0 hk;have j:=z;obtain⟨p,m,E,r,v,_⟩:=j;simp only[List.cons.injEq,and_true] at E;subst E;have f:=Az .str x;refine Q4 Tryz.func131 Tryz.ntmps131 rfl rfl ?_;refine ra ?_;refine pu ?_;refine oN (nQ (l9 (ra ?_)));refine pu ?_;refine oN (nQ (F4 ?_));refine Ad (fun i:Nat=>(1,.int .i64 (k+(y9 .str x i:Int))) :: (5,.int .i64 (i:Int)) :: (0,.slice p x.length m) :: []) (fun i G=>i<=x.length/\WM F w G) (fun i=>x.length-i) 0 ⟨Nat.zero_le _,WM.refl F w⟩ (by rw[Bq]; simp only[Int.natCast_zero,Int.add_zero]; ((repeat (refine J5 rfl ?_)); exact J6)) ?_;rintro i w1 ⟨hi,d⟩;have H:=K3 .str x i hi;refine l9 (ra ?_);refine pu ?_;refine pu ?_;refine F0 _ (Af rfl) rfl ?_;refine pu ?_;refine oN (nQ ?_);refine P5 rfl (fun h=>?_) (fun h=>?_)
 ·have a:i<x.length:=by simpa using h
  obtain⟨_,b,o,c,rfl,T,X,l,s⟩:=SH.get z a;have g:=AA (e:=.str) (xs:=x) a;have t:=K3 .str x (i+1) (by omega);generalize x[i]=y at s g;obtain⟨Y,rfl,_⟩:=s;have W:l7 .str y=1:=rfl;refine D7 (nQ (l9 (F4 ?_)));refine ra ?_;refine pu ?_;refine pu ?_;refine pu ?_;refine MP tC d fun Q s1 q d=>?_;refine im a ?_;refine ss d T X (l 0 _ rfl) q fun Q d=>?_;refine rc ?_;refine pu ?_;refine ad ?_;refine pu ?_;refine Br ?_;refine pu ?_;refine ad ?_;refine pu ?_;refine oN ?_;have V:k+((y9 .str x (i+1):Nat):Int)=((k+(y9 .str x i:Int))+1):=by rw[g,W]; omega
  refine Ae (i+1) ⟨by omega,d⟩ (by omega) (by rw[V,Int.natCast_succ]; ((repeat (refine J5 rfl ?_)); exact J6))
 ·have n:i=x.length:=by
   have:¬i<x.length:=by simpa using h
   omega
  subst n;refine N0 (N1 (N2 (N3 rfl (nQ (ra ?_)))));refine pu ?_;refine pu ?_;refine oN (nQ (G7 ?_));refine L7 Tryz.results131 rfl ?_;rw[f];exact⟨rfl,d⟩
set_option maxHeartbeats 2000000 in
theorem P0N:Ay Tryz.prog 132 (.sl y231):=by
 intro F w u x k V H h0 hk;have l:=H;obtain⟨p,n,P,v,G,_⟩:=l;simp only[List.cons.injEq,and_true] at P;subst P;have g:=Az y231 x;refine Q4 Tryz.func132 Tryz.ntmps132 rfl rfl ?_;refine ra ?_;refine pu ?_;refine oN (nQ (l9 (ra ?_)));refine pu ?_;refine oN (nQ (F4 ?_));refine Ad (fun i:Nat=>(1,.int .i64 (k+(y9 y231 x i:Int))) :: (5,.int .i64 (i:Int)) :: (0,.slice p x.length n) :: []) (fun i Q=>i<=x.length/\WM F w Q) (fun i=>x.length-i) 0 ⟨Nat.zero_le _,WM.refl F w⟩ (by rw[Bq]; simp only[Int.natCast_zero,Int.add_zero]; ((repeat (refine J5 rfl ?_)); exact J6)) ?_;rintro i w1 ⟨hi,d⟩;have T:=K3 y231 x i hi;refine l9 (ra ?_);refine pu ?_;refine pu ?_;refine F0 _ (Af rfl) rfl ?_;refine pu ?_;refine oN (nQ ?_);refine P5 rfl (fun j=>?_) (fun j=>?_)
 ·have a:i<x.length:=by simpa using j
  obtain⟨_,b,o,c,rfl,s,t,f,z⟩:=SH.get H a;have h:=AA (e:=y231) (xs:=x) a;have E:=K3 y231 x (i+1) (by omega);generalize x[i]=y at z h;obtain⟨_,_,rfl,⟨z0,rfl,_⟩,⟨_,_,rfl,⟨Y,rfl,_,_⟩,⟨z2,rfl,_,_⟩⟩⟩:=z;have X:l7 y231 y=(1+(1+1)):=rfl;refine D7 (nQ (l9 (F4 ?_)));refine ra ?_;refine pu ?_;refine pu ?_;refine pu ?_;refine MP tC d fun m s1 r d=>?_;refine im a ?_;refine fm ?_;refine ss d s t (f 0 _ rfl) r fun m d=>?_;refine rb ?_;refine pu ?_;refine ad ?_;refine pu ?_;refine rb ?_;refine pu ?_;refine pu ?_;refine pu ?_;refine im a ?_;refine fm ?_;refine si d s t (f 1 _ rfl) fun m d=>?_;refine rb ?_;refine pu ?_;refine ad ?_;refine pu ?_;refine rb ?_;refine pu ?_;refine pu ?_;refine pu ?_;refine im a ?_;refine fm ?_;refine si d s t (f 2 _ rfl) fun m d=>?_;refine rc ?_;refine pu ?_;refine ad ?_;refine pu ?_;refine Br ?_;refine pu ?_;refine ad ?_;refine pu ?_;refine oN ?_;have W:k+((y9 y231 x (i+1):Nat):Int)=((((k+(y9 y231 x i:Int))+1)+1)+1):=by rw[h,X]; omega
  refine Ae (i+1) ⟨by omega,d⟩ (by omega) (by rw[W,Int.natCast_succ]; ((repeat (refine J5 rfl ?_)); exact J6))
 ·have q:i=x.length:=by
   have:¬i<x.length:=by simpa using j
   omega
  subst q;refine N0 (N1 (N2 (N3 rfl (nQ (ra ?_)))));refine pu ?_;refine pu ?_;refine oN (nQ (G7 ?_));refine L7 Tryz.results132 rfl ?_;rw[g];exact⟨rfl,d⟩
set_option maxHeartbeats 2000000 in
theorem P0P:Ay Tryz.prog 130 (.sl y155):=by
 intro F w u x k l P h0 hk;have m:=P;obtain⟨p,q,Q,v,H,_⟩:=m;simp only[List.cons.injEq,and_true] at Q;subst Q;have g:=Az y155 x;refine Q4 Tryz.func130 Tryz.ntmps130 rfl rfl ?_;refine ra ?_;refine pu ?_;refine oN (nQ (l9 (ra ?_)));refine pu ?_;refine oN (nQ (F4 ?_));refine Ad (fun i:Nat=>(1,.int .i64 (k+(y9 y155 x i:Int))) :: (5,.int .i64 (i:Int)) :: (0,.slice p x.length q) :: []) (fun i V=>i<=x.length/\WM F w V) (fun i=>x.length-i) 0 ⟨Nat.zero_le _,WM.refl F w⟩ (by rw[Bq]; simp only[Int.natCast_zero,Int.add_zero]; ((repeat (refine J5 rfl ?_)); exact J6)) ?_;rintro i w1 ⟨hi,d⟩;have W:=K3 y155 x i hi;refine l9 (ra ?_);refine pu ?_;refine pu ?_;refine F0 _ (Af rfl) rfl ?_;refine pu ?_;refine oN (nQ ?_);refine P5 rfl (fun j=>?_) (fun j=>?_)
 ·have a:i<x.length:=by simpa using j
  obtain⟨_,b,o,c,rfl,t,T,f,z⟩:=SH.get P a;have h:=AA (e:=y155) (xs:=x) a;have E:=K3 y155 x (i+1) (by omega);generalize x[i]=y at z h;obtain⟨_,_,rfl,⟨z0,rfl,_⟩,⟨_,_,rfl,⟨z1,rfl,_,_⟩,G⟩⟩:=z;have X:=G;obtain⟨_,_,rfl,_⟩:=X;have hy:l7 y155 y=(1+(1+l7 (.sl (.int .i64)) y.2.2)):=rfl;refine D7 (nQ (l9 (F4 ?_)));refine ra ?_;refine pu ?_;refine pu ?_;refine pu ?_;refine MP tC d fun n s1 s d=>?_;refine im a ?_;refine fm ?_;refine ss d t T (f 0 _ rfl) s fun n d=>?_;refine rb ?_;refine pu ?_;refine ad ?_;refine pu ?_;refine rb ?_;refine pu ?_;refine pu ?_;refine pu ?_;refine im a ?_;refine fm ?_;refine si d t T (f 1 _ rfl) fun n d=>?_;refine rb ?_;refine pu ?_;refine ad ?_;refine pu ?_;refine rc ?_;refine pu ?_;refine pu ?_;refine im a ?_;refine fm ?_;refine lm d t (f 2 _ rfl) ?_;refine pu ?_;refine mc CM l d G fun n d _=>?_;refine pu ?_;refine Br ?_;refine pu ?_;refine ad ?_;refine pu ?_;refine oN ?_;have Y:k+((y9 y155 x (i+1):Nat):Int)=((((k+(y9 y155 x i:Int))+1)+1)+(l7 (.sl (.int .i64)) y.2.2:Int)):=by rw[h,hy]; omega
  refine Ae (i+1) ⟨by omega,d⟩ (by omega) (by rw[Y,Int.natCast_succ]; ((repeat (refine J5 rfl ?_)); exact J6))
 ·have r:i=x.length:=by
   have:¬i<x.length:=by simpa using j
   omega
  subst r;refine N0 (N1 (N2 (N3 rfl (nQ (ra ?_)))));refine pu ?_;refine pu ?_;refine oN (nQ (G7 ?_));refine L7 Tryz.results130 rfl ?_;rw[g];exact⟨rfl,d⟩
set_option maxHeartbeats 2000000 in
theorem P0Q:Ay Tryz.prog 129 (.sl y153):=by
 intro F w u x k g V h0 hk;have r:=V;obtain⟨p,s,W,z,T,_⟩:=r;simp only[List.cons.injEq,and_true] at W;subst W;have l:=Az y153 x;refine Q4 Tryz.func129 Tryz.ntmps129 rfl rfl ?_;refine ra ?_;refine pu ?_;refine oN (nQ (l9 (ra ?_)));refine pu ?_;refine oN (nQ (F4 ?_));refine Ad (fun i:Nat=>(1,.int .i64 (k+(y9 y153 x i:Int))) :: (5,.int .i64 (i:Int)) :: (0,.slice p x.length s) :: []) (fun i X=>i<=x.length/\WM F w X) (fun i=>x.length-i) 0 ⟨Nat.zero_le _,WM.refl F w⟩ (by rw[Bq]; simp only[Int.natCast_zero,Int.add_zero]; ((repeat (refine J5 rfl ?_)); exact J6)) ?_;rintro i w1 ⟨hi,a⟩;have Y:=K3 y153 x i hi;refine l9 (ra ?_);refine pu ?_;refine pu ?_;refine F0 _ (Af rfl) rfl ?_;refine pu ?_;refine oN (nQ ?_);refine P5 rfl (fun q=>?_) (fun q=>?_)
 ·have d:i<x.length:=by simpa using q
  obtain⟨_,b,o,c,rfl,j,n,f,E⟩:=SH.get V d;have m:=AA (e:=y153) (xs:=x) d;have G:=K3 y153 x (i+1) (by omega);generalize x[i]=y at E m;obtain⟨_,_,rfl,⟨z0,rfl,_⟩,⟨_,_,rfl,⟨z1,rfl,_,_⟩,⟨_,_,rfl,Q,⟨_,_,rfl,P,⟨_,_,rfl,H,⟨_,_,rfl,⟨z5,rfl,_,_⟩,⟨z6,rfl,_,_⟩⟩⟩⟩⟩⟩⟩:=E;have r2:=Q;obtain⟨_,_,rfl,_⟩:=r2;have r3:=P;obtain⟨_,_,rfl,_⟩:=r3;have r4:=H;obtain⟨_,_,rfl,_⟩:=r4;have hy:l7 y153 y=(1+(1+(l7 (.sl y293) y.2.2.1+(l7 (.sl y158) y.2.2.2.1+(l7 (.sl (.int .i64)) y.2.2.2.2.1+(1+1)))))):=rfl;refine D7 (nQ (l9 (F4 ?_)));refine ra ?_;refine pu ?_;refine pu ?_;refine pu ?_;refine MP tC a fun h s1 v a=>?_;refine im d ?_;refine fm ?_;refine ss a j n (f 0 _ rfl) v fun h a=>?_;refine rb ?_;refine pu ?_;refine ad ?_;refine pu ?_;refine rb ?_;refine pu ?_;refine pu ?_;refine pu ?_;refine im d ?_;refine fm ?_;refine si a j n (f 1 _ rfl) fun h a=>?_;refine rb ?_;refine pu ?_;refine ad ?_;refine pu ?_;refine rb ?_;refine pu ?_;refine pu ?_;refine im d ?_;refine fm ?_;refine lm a j (f 2 _ rfl) ?_;refine pu ?_;refine mc P0M g a Q fun h a _=>?_;refine pu ?_;refine rb ?_;refine pu ?_;refine pu ?_;refine im d ?_;refine fm ?_;refine lm a j (f 3 _ rfl) ?_;refine pu ?_;refine mc P0L g a P fun h a _=>?_;refine pu ?_;refine rb ?_;refine pu ?_;refine pu ?_;refine im d ?_;refine fm ?_;refine lm a j (f 4 _ rfl) ?_;refine pu ?_;refine mc CM g a H fun h a _=>?_;refine pu ?_;refine rb ?_;refine pu ?_;refine pu ?_;refine pu ?_;refine im d ?_;refine fm ?_;refine si a j n (f 5 _ rfl) fun h a=>?_;refine rb ?_;refine pu ?_;refine ad ?_;refine pu ?_;refine rb ?_;refine pu ?_;refine pu ?_;refine pu ?_;refine im d ?_;refine fm ?_;refine si a j n (f 6 _ rfl) fun h a=>?_;refine rc ?_;refine pu ?_;refine ad ?_;refine pu ?_;refine Br ?_;refine pu ?_;refine ad ?_;refine pu ?_;refine oN ?_;have he:k+((y9 y153 x (i+1):Nat):Int)=((((((((k+(y9 y153 x i:Int))+1)+1)+(l7 (.sl y293) y.2.2.1:Int))+(l7 (.sl y158) y.2.2.2.1:Int))+(l7 (.sl (.int .i64)) y.2.2.2.2.1:Int))+1)+1):=by rw[m,hy]; omega
  refine Ae (i+1) ⟨by omega,a⟩ (by omega) (by rw[he,Int.natCast_succ]; ((repeat (refine J5 rfl ?_)); exact J6))
 ·have t:i=x.length:=by
   have:¬i<x.length:=by simpa using q
   omega
  subst t;refine N0 (N1 (N2 (N3 rfl (nQ (ra ?_)))));refine pu ?_;refine pu ?_;refine oN (nQ (G7 ?_));refine L7 Tryz.results129 rfl ?_;rw[l];exact⟨rfl,a⟩
set_option maxHeartbeats 2000000 in
theorem m72:Ay Tryz.prog 72 (.sl y172):=by
 intro F w u x k f T h0 hk;have n:=T;obtain⟨p,r,V,v,Q,_⟩:=n;simp only[List.cons.injEq,and_true] at V;subst V;have h:=Az y172 x;refine Q4 Tryz.func72 Tryz.ntmps72 rfl rfl ?_;refine ra ?_;refine pu ?_;refine oN (nQ (l9 (ra ?_)));refine pu ?_;refine oN (nQ (F4 ?_));refine Ad (fun i:Nat=>(1,.int .i64 (k+(y9 y172 x i:Int))) :: (5,.int .i64 (i:Int)) :: (0,.slice p x.length r) :: []) (fun i W=>i<=x.length/\WM F w W) (fun i=>x.length-i) 0 ⟨Nat.zero_le _,WM.refl F w⟩ (by rw[Bq]; simp only[Int.natCast_zero,Int.add_zero]; ((repeat (refine J5 rfl ?_)); exact J6)) ?_;rintro i w1 ⟨hi,a⟩;have X:=K3 y172 x i hi;refine l9 (ra ?_);refine pu ?_;refine pu ?_;refine F0 _ (Af rfl) rfl ?_;refine pu ?_;refine oN (nQ ?_);refine P5 rfl (fun m=>?_) (fun m=>?_)
 ·have d:i<x.length:=by simpa using m
  obtain⟨_,b,o,c,rfl,l,hU,g,z⟩:=SH.get T d;have j:=AA (e:=y172) (xs:=x) d;have E:=K3 y172 x (i+1) (by omega);generalize x[i]=y at z j;obtain⟨_,_,rfl,t,⟨_,_,rfl,G,⟨_,_,rfl,P,H⟩⟩⟩:=z;have Y:=t;obtain⟨_,_,rfl,_⟩:=Y;have r1:=G;obtain⟨_,_,rfl,_⟩:=r1;have r2:=P;obtain⟨_,_,rfl,_⟩:=r2;have r3:=H;obtain⟨_,_,rfl,_⟩:=r3;have hy:l7 y172 y=(l7 (.sl (.int .i64)) y.1+(l7 (.sl (.int .i64)) y.2.1+(l7 (.sl (.int .i64)) y.2.2.1+l7 (.sl (.int .i64)) y.2.2.2))):=rfl;refine D7 (nQ (l9 (F4 ?_)));refine ra ?_;refine pu ?_;refine pu ?_;refine im d ?_;refine fm ?_;refine lm a l (g 0 _ rfl) ?_;refine pu ?_;refine mc CM f a t fun q a _=>?_;refine pu ?_;refine rb ?_;refine pu ?_;refine pu ?_;refine im d ?_;refine fm ?_;refine lm a l (g 1 _ rfl) ?_;refine pu ?_;refine mc CM f a G fun q a _=>?_;refine pu ?_;refine rb ?_;refine pu ?_;refine pu ?_;refine im d ?_;refine fm ?_;refine lm a l (g 2 _ rfl) ?_;refine pu ?_;refine mc CM f a P fun q a _=>?_;refine pu ?_;refine rc ?_;refine pu ?_;refine pu ?_;refine im d ?_;refine fm ?_;refine lm a l (g 3 _ rfl) ?_;refine pu ?_;refine mc CM f a H fun q a _=>?_;refine pu ?_;refine Br ?_;refine pu ?_;refine ad ?_;refine pu ?_;refine oN ?_;have he:k+((y9 y172 x (i+1):Nat):Int)=(((((k+(y9 y172 x i:Int))+(l7 (.sl (.int .i64)) y.1:Int))+(l7 (.sl (.int .i64)) y.2.1:Int))+(l7 (.sl (.int .i64)) y.2.2.1:Int))+(l7 (.sl (.int .i64)) y.2.2.2:Int)):=by rw[j,hy]; omega
  refine Ae (i+1) ⟨by omega,a⟩ (by omega) (by rw[he,Int.natCast_succ]; ((repeat (refine J5 rfl ?_)); exact J6))
 ·have s:i=x.length:=by
   have:¬i<x.length:=by simpa using m
   omega
  subst s;refine N0 (N1 (N2 (N3 rfl (nQ (ra ?_)))));refine pu ?_;refine pu ?_;refine oN (nQ (G7 ?_));refine L7 Tryz.results72 rfl ?_;rw[h];exact⟨rfl,a⟩
set_option maxHeartbeats 2000000 in
theorem m70:MQ Tryz.prog 70 (.sl y153):=by
 intro F w o x k a l q m;have n:l7 (.sl y153) x=l7 (.sl y153) x:=rfl;have g:=l;have h:=g;obtain⟨_,_,rfl,_⟩:=h;refine Q4 Tryz.func70 Tryz.ntmps70 rfl rfl ?_;refine l9 ?_;refine I9 ?_;refine GY rfl rfl rfl ?_;intro b j c B;have f:WM F w j:=WM.of_ext c.ext;have d:¬F b:=by intro i; have u:=a b i; have t:=c.eq; have r:=c.size; omega
 refine pu ?_;refine oN ?_;refine nQ ?_;refine ra ?_;refine fm ?_;refine FH rfl B rfl rfl ?_;refine pu ?_;refine mc P0Q a f g fun s f e=>?_
 replace B:=CN B e d
 refine pu ?_;refine oN (nQ ?_);refine l9 ?_;refine I9 ?_;refine pu ?_;refine pu ?_;refine oN ?_;refine nQ ?_;refine G7 ?_;refine L7 Tryz.results70 rfl ?_;refine⟨?_,f⟩;rw[show k+(l7 (.sl y153) x:Int)=(k+(l7 (.sl y153) x:Int)) by omega]
set_option maxHeartbeats 2000000 in
theorem m71:MQ Tryz.prog 71 y53:=by
 intro F w u x k c r v t;have s:l7 y53 x=(l7 (.sl y155) x.1+(l7 (.sl .str) x.2.1+l7 (.sl y231) x.2.2)):=rfl;obtain⟨_,_,rfl,g,⟨_,_,rfl,i,j⟩⟩:=r;have l:=g;obtain⟨_,_,rfl,_⟩:=l;have n:=i;obtain⟨_,_,rfl,_⟩:=n;have o:=j;obtain⟨_,_,rfl,_⟩:=o;refine Q4 Tryz.func71 Tryz.ntmps71 rfl rfl ?_;refine l9 ?_;refine I9 ?_;refine GY rfl rfl rfl ?_;intro b q f B;have e:WM F w q:=WM.of_ext f.ext;have d:¬F b:=by intro m; have E:=c b m; have z:=f.eq; have y:=f.size; omega
 refine pu ?_;refine oN ?_;refine nQ ?_;refine ra ?_;refine fm ?_;refine FH rfl B rfl rfl ?_;refine pu ?_;refine mc P0P c e g fun h e a=>?_
 replace B:=CN B a d
 refine pu ?_;refine oN (nQ ?_);refine ra ?_;refine fm ?_;refine FH rfl B rfl rfl ?_;refine pu ?_;refine mc P0O c e i fun h e a=>?_
 replace B:=CN B a d
 refine pu ?_;refine oN (nQ ?_);refine ra ?_;refine fm ?_;refine FH rfl B rfl rfl ?_;refine pu ?_;refine mc P0N c e j fun h e a=>?_
 replace B:=CN B a d
 refine pu ?_;refine oN (nQ ?_);refine l9 ?_;refine I9 ?_;refine pu ?_;refine pu ?_;refine oN ?_;refine nQ ?_;refine G7 ?_;refine L7 Tryz.results71 rfl ?_;refine⟨?_,e⟩;rw[show k+(l7 y53 x:Int)=(((k+(l7 (.sl y155) x.1:Int))+(l7 (.sl .str) x.2.1:Int))+(l7 (.sl y231) x.2.2:Int)) by omega]
set_option maxHeartbeats 2000000 in
theorem m27:MQ Tryz.prog 27 j6:=by
 intro F w cs x k d G T Q;have P:l7 j6 x=(l7 (.sl y153) x.1+((l7 (.sl y155) x.2.1.1+(l7 (.sl .str) x.2.1.2.1+l7 (.sl y231) x.2.1.2.2))+l7 (.sl y172) x.2.2)):=rfl;obtain⟨_,_,rfl,h,⟨_,_,rfl,⟨_,_,rfl,l,⟨_,_,rfl,n,m⟩⟩,j⟩⟩:=G;have r:=h;obtain⟨_,_,rfl,_⟩:=r;have t:=l;obtain⟨_,_,rfl,_⟩:=t;have z:=n;obtain⟨_,_,rfl,_⟩:=z;have H:=m;obtain⟨_,_,rfl,_⟩:=H;have y:=j;obtain⟨_,_,rfl,_⟩:=y;refine Q4 Tryz.func27 Tryz.ntmps27 rfl rfl ?_;refine l9 ?_;refine I9 ?_;refine GY rfl rfl rfl ?_;intro b E g B;have f:WM F w E:=WM.of_ext g.ext;have e:¬F b:=by intro s; have X:=d b s; have W:=g.eq; have V:=g.size; omega
 refine pu ?_;refine oN ?_;refine nQ ?_;refine ra ?_;refine fm ?_;refine m0c (cs:=[_]) rfl (B.at.mid (pre:=[]) (c:=[_]) (post:=[_,_,_,_])) rfl rfl ?_;refine pu ?_;have u:SH F w (.sl y153) [_] x.1:=h;have o:l7 (.sl y153) x.1=l7 (.sl y153) x.1:=rfl;refine ma m70 d f u fun i f a=>?_
 replace B:=CN B a e
 refine pu ?_;refine oN (nQ ?_);refine ra ?_;refine fm ?_;refine m0c (cs:=[_,_,_]) rfl (B.at.mid (pre:=[_]) (c:=[_,_,_]) (post:=[_])) rfl rfl ?_;refine pu ?_;have v:SH F w y53 [_,_,_] x.2.1:=⟨_,_,rfl,l,⟨_,_,rfl,n,m⟩⟩;have q:l7 y53 x.2.1=(l7 (.sl y155) x.2.1.1+(l7 (.sl .str) x.2.1.2.1+l7 (.sl y231) x.2.1.2.2)):=rfl;refine ma m71 d f v fun i f a=>?_
 replace B:=CN B a e
 refine pu ?_;refine oN (nQ ?_);refine ra ?_;refine fm ?_;refine FH rfl B rfl rfl ?_;refine pu ?_;refine mc m72 d f j fun i f a=>?_
 replace B:=CN B a e
 refine pu ?_;refine oN (nQ ?_);refine l9 ?_;refine I9 ?_;refine pu ?_;refine pu ?_;refine oN ?_;refine nQ ?_;refine G7 ?_;refine L7 Tryz.results27 rfl ?_;refine⟨?_,f⟩;rw[show k+(l7 j6 x:Int)=(((k+(l7 (.sl y153) x.1:Int))+(l7 y53 x.2.1:Int))+(l7 (.sl y172) x.2.2:Int)) by omega]
set_option maxHeartbeats 2000000 in
theorem m73:Ay Tryz.prog 73 (.sl .bool):=by
 intro F w u x k H v h0 Y;have j:=v;obtain⟨p,m,z,q,t,_⟩:=j;simp only[List.cons.injEq,and_true] at z;subst z;have d:=Az .bool x;refine Q4 Tryz.func73 Tryz.ntmps73 rfl rfl ?_;refine ra ?_;refine pu ?_;refine oN (nQ (l9 (ra ?_)));refine pu ?_;refine oN (nQ (F4 ?_));refine Ad (fun i:Nat=>(1,.int .i64 (k+(y9 .bool x i:Int))) :: (5,.int .i64 (i:Int)) :: (0,.slice p x.length m) :: []) (fun i E=>i<=x.length/\WM F w E) (fun i=>x.length-i) 0 ⟨Nat.zero_le _,WM.refl F w⟩ (by rw[Bq]; simp only[Int.natCast_zero,Int.add_zero]; ((repeat (refine J5 rfl ?_)); exact J6)) ?_;rintro i w1 ⟨hi,g⟩;have G:=K3 .bool x i hi;refine l9 (ra ?_);refine pu ?_;refine pu ?_;refine F0 _ (Af rfl) rfl ?_;refine pu ?_;refine oN (nQ ?_);refine P5 rfl (fun h=>?_) (fun h=>?_)
 ·have a:i<x.length:=by simpa using h
  obtain⟨_,b,o,c,rfl,P,V,l,r⟩:=SH.get v a;have f:=AA (e:=.bool) (xs:=x) a;have s:=K3 .bool x (i+1) (by omega);generalize x[i]=y at r f;obtain⟨X,rfl⟩:=r;have T:l7 .bool y=1:=rfl;refine D7 (nQ (l9 (F4 ?_)));refine ra ?_;refine pu ?_;refine pu ?_;refine pu ?_;refine F0 _ (PS rfl rfl (show(3:Int)≠0 by decide)) rfl ?_;refine pu ?_;refine im a ?_;refine sb g P V (l 0 _ rfl) fun W g=>?_;refine rc ?_;refine pu ?_;refine ad ?_;refine pu ?_;refine Br ?_;refine pu ?_;refine ad ?_;refine pu ?_;refine oN ?_;have Q:k+((y9 .bool x (i+1):Nat):Int)=((k+(y9 .bool x i:Int))+1):=by rw[f,T]; omega
  refine Ae (i+1) ⟨by omega,g⟩ (by omega) (by rw[Q,Int.natCast_succ]; ((repeat (refine J5 rfl ?_)); exact J6))
 ·have n:i=x.length:=by
   have:¬i<x.length:=by simpa using h
   omega
  subst n;refine N0 (N1 (N2 (N3 rfl (nQ (ra ?_)))));refine pu ?_;refine pu ?_;refine oN (nQ (G7 ?_));refine L7 Tryz.results73 rfl ?_;rw[d];exact⟨rfl,g⟩
set_option maxHeartbeats 2000000 in
theorem m74:Ay Tryz.prog 74 (.sl y73):=by
 intro F w u x k Q z h0 hk;have l:=z;obtain⟨p,m,E,q,v,_⟩:=l;simp only[List.cons.injEq,and_true] at E;subst E;have g:=Az y73 x;refine Q4 Tryz.func74 Tryz.ntmps74 rfl rfl ?_;refine ra ?_;refine pu ?_;refine oN (nQ (l9 (ra ?_)));refine pu ?_;refine oN (nQ (F4 ?_));refine Ad (fun i:Nat=>(1,.int .i64 (k+(y9 y73 x i:Int))) :: (5,.int .i64 (i:Int)) :: (0,.slice p x.length m) :: []) (fun i H=>i<=x.length/\WM F w H) (fun i=>x.length-i) 0 ⟨Nat.zero_le _,WM.refl F w⟩ (by rw[Bq]; simp only[Int.natCast_zero,Int.add_zero]; ((repeat (refine J5 rfl ?_)); exact J6)) ?_;rintro i w1 ⟨hi,d⟩;have P:=K3 y73 x i hi;refine l9 (ra ?_);refine pu ?_;refine pu ?_;refine F0 _ (Af rfl) rfl ?_;refine pu ?_;refine oN (nQ ?_);refine P5 rfl (fun j=>?_) (fun j=>?_)
 ·have a:i<x.length:=by simpa using j
  obtain⟨_,b,o,c,rfl,t,G,f,r⟩:=SH.get z a;have h:=AA (e:=y73) (xs:=x) a;have s:=K3 y73 x (i+1) (by omega);generalize x[i]=y at r h;obtain⟨_,_,rfl,⟨Y,rfl,_,_⟩,⟨X,rfl,_,_⟩⟩:=r;have W:l7 y73 y=(1+1):=rfl;refine D7 (nQ (l9 (F4 ?_)));refine ra ?_;refine pu ?_;refine pu ?_;refine pu ?_;refine im a ?_;refine fm ?_;refine si d t G (f 0 _ rfl) fun T d=>?_;refine rb ?_;refine pu ?_;refine ad ?_;refine pu ?_;refine rb ?_;refine pu ?_;refine pu ?_;refine pu ?_;refine im a ?_;refine fm ?_;refine si d t G (f 1 _ rfl) fun T d=>?_;refine rc ?_;refine pu ?_;refine ad ?_;refine pu ?_;refine Br ?_;refine pu ?_;refine ad ?_;refine pu ?_;refine oN ?_;have V:k+((y9 y73 x (i+1):Nat):Int)=(((k+(y9 y73 x i:Int))+1)+1):=by rw[h,W]; omega
  refine Ae (i+1) ⟨by omega,d⟩ (by omega) (by rw[V,Int.natCast_succ]; ((repeat (refine J5 rfl ?_)); exact J6))
 ·have n:i=x.length:=by
   have:¬i<x.length:=by simpa using j
   omega
  subst n;refine N0 (N1 (N2 (N3 rfl (nQ (ra ?_)))));refine pu ?_;refine pu ?_;refine oN (nQ (G7 ?_));refine L7 Tryz.results74 rfl ?_;rw[g];exact⟨rfl,d⟩
set_option maxHeartbeats 2000000 in
theorem m29:Ay Tryz.prog 29 (.sl y75):=by
 intro F w u x k T G h0 hk;have q:=G;obtain⟨p,r,H,t,E,_⟩:=q;simp only[List.cons.injEq,and_true] at H;subst H;have h:=Az y75 x;refine Q4 Tryz.func29 Tryz.ntmps29 rfl rfl ?_;refine ra ?_;refine pu ?_;refine oN (nQ (l9 (ra ?_)));refine pu ?_;refine oN (nQ (F4 ?_));refine Ad (fun i:Nat=>(1,.int .i64 (k+(y9 y75 x i:Int))) :: (5,.int .i64 (i:Int)) :: (0,.slice p x.length r) :: []) (fun i P=>i<=x.length/\WM F w P) (fun i=>x.length-i) 0 ⟨Nat.zero_le _,WM.refl F w⟩ (by rw[Bq]; simp only[Int.natCast_zero,Int.add_zero]; ((repeat (refine J5 rfl ?_)); exact J6)) ?_;rintro i w1 ⟨hi,d⟩;have Q:=K3 y75 x i hi;refine l9 (ra ?_);refine pu ?_;refine pu ?_;refine F0 _ (Af rfl) rfl ?_;refine pu ?_;refine oN (nQ ?_);refine P5 rfl (fun n=>?_) (fun n=>?_)
 ·have a:i<x.length:=by simpa using n
  obtain⟨_,b,o,c,rfl,g,l,f,v⟩:=SH.get G a;have j:=AA (e:=y75) (xs:=x) a;have z:=K3 y75 x (i+1) (by omega);generalize x[i]=y at v j;obtain⟨_,_,rfl,⟨Y,rfl,_,_⟩,⟨_,_,rfl,⟨_,_,rfl,⟨X,rfl,_,_⟩,⟨z2,rfl,_,_⟩⟩,⟨_,_,rfl,⟨z3,rfl,_,_⟩,⟨z4,rfl,_,_⟩⟩⟩⟩:=v;have W:l7 y75 y=(1+((1+1)+(1+1))):=rfl;refine D7 (nQ (l9 (F4 ?_)));refine ra ?_;refine pu ?_;refine pu ?_;refine pu ?_;refine im a ?_;refine fm ?_;refine si d g l (f 0 _ rfl) fun m d=>?_;refine rb ?_;refine pu ?_;refine ad ?_;refine pu ?_;refine rb ?_;refine pu ?_;refine pu ?_;refine pu ?_;refine im a ?_;refine fm ?_;refine fm ?_;refine si d g l (f 1 _ rfl) fun m d=>?_;refine rb ?_;refine pu ?_;refine ad ?_;refine pu ?_;refine rb ?_;refine pu ?_;refine pu ?_;refine pu ?_;refine im a ?_;refine fm ?_;refine fm ?_;refine si d g l (f 2 _ rfl) fun m d=>?_;refine rb ?_;refine pu ?_;refine ad ?_;refine pu ?_;refine rb ?_;refine pu ?_;refine pu ?_;refine pu ?_;refine im a ?_;refine fm ?_;refine fm ?_;refine si d g l (f 3 _ rfl) fun m d=>?_;refine rb ?_;refine pu ?_;refine ad ?_;refine pu ?_;refine rb ?_;refine pu ?_;refine pu ?_;refine pu ?_;refine im a ?_;refine fm ?_;refine fm ?_;refine si d g l (f 4 _ rfl) fun m d=>?_;refine rc ?_;refine pu ?_;refine ad ?_;refine pu ?_;refine Br ?_;refine pu ?_;refine ad ?_;refine pu ?_;refine oN ?_;have V:k+((y9 y75 x (i+1):Nat):Int)=((((((k+(y9 y75 x i:Int))+1)+1)+1)+1)+1):=by rw[j,W]; omega
  refine Ae (i+1) ⟨by omega,d⟩ (by omega) (by rw[V,Int.natCast_succ]; ((repeat (refine J5 rfl ?_)); exact J6))
 ·have s:i=x.length:=by
   have:¬i<x.length:=by simpa using n
   omega
  subst s;refine N0 (N1 (N2 (N3 rfl (nQ (ra ?_)))));refine pu ?_;refine pu ?_;refine oN (nQ (G7 ?_));refine L7 Tryz.results29 rfl ?_;rw[h];exact⟨rfl,d⟩
set_option maxHeartbeats 2000000 in
theorem m30:MQ Tryz.prog 30 y65:=by
 intro F w u x k c r v t;have s:l7 y65 x=(l7 (.sl .bool) x.1+(l7 (.sl y73) x.2.1+l7 (.sl y73) x.2.2)):=rfl;obtain⟨_,_,rfl,g,⟨_,_,rfl,i,j⟩⟩:=r;have l:=g;obtain⟨_,_,rfl,_⟩:=l;have n:=i;obtain⟨_,_,rfl,_⟩:=n;have o:=j;obtain⟨_,_,rfl,_⟩:=o;refine Q4 Tryz.func30 Tryz.ntmps30 rfl rfl ?_;refine l9 ?_;refine I9 ?_;refine GY rfl rfl rfl ?_;intro b q f B;have e:WM F w q:=WM.of_ext f.ext;have d:¬F b:=by intro m; have E:=c b m; have z:=f.eq; have y:=f.size; omega
 refine pu ?_;refine oN ?_;refine nQ ?_;refine ra ?_;refine fm ?_;refine FH rfl B rfl rfl ?_;refine pu ?_;refine mc m73 c e g fun h e a=>?_
 replace B:=CN B a d
 refine pu ?_;refine oN (nQ ?_);refine ra ?_;refine fm ?_;refine FH rfl B rfl rfl ?_;refine pu ?_;refine mc m74 c e i fun h e a=>?_
 replace B:=CN B a d
 refine pu ?_;refine oN (nQ ?_);refine ra ?_;refine fm ?_;refine FH rfl B rfl rfl ?_;refine pu ?_;refine mc m74 c e j fun h e a=>?_
 replace B:=CN B a d
 refine pu ?_;refine oN (nQ ?_);refine l9 ?_;refine I9 ?_;refine pu ?_;refine pu ?_;refine oN ?_;refine nQ ?_;refine G7 ?_;refine L7 Tryz.results30 rfl ?_;refine⟨?_,e⟩;rw[show k+(l7 y65 x:Int)=(((k+(l7 (.sl .bool) x.1:Int))+(l7 (.sl y73) x.2.1:Int))+(l7 (.sl y73) x.2.2:Int)) by omega]
set_option maxHeartbeats 2000000 in
theorem x28:MkE Tryz.prog 28 (.int .i64) 1 AB:=by
 intro K w u x k Q H G T;obtain⟨p,q,rfl,b,o,ds,E,a,P,m⟩:=H.row;have y:ds.length=x.length*1:=P;refine Q4 Tryz.func28 Tryz.ntmps28 rfl rfl ?_;refine l9 ?_;refine I9 ?_;refine L6 rfl rfl ?_;refine oN ?_;refine nQ ?_;refine l9 ?_;refine l9 ?_;refine I9 ?_;refine L6 rfl rfl ?_;refine oN ?_;refine nQ ?_;refine F4 ?_;refine Ad (fun i:Nat=>(1,.int .i64 (k+((1*i:Nat):Int))) :: (5,.int .i64 (i:Int)) :: (0,.slice p x.length q) :: []) (fun i f=>i<=x.length/\WO K w f/\(∀j,UF w j->UF f j)/\At f b o (Ag k (1*i)++ds.drop (1*i))) (fun i=>x.length-i) 0 ⟨Nat.zero_le _,WO.refl K w,fun _ h=>h,a⟩ (by simp only[Nat.mul_zero,Int.natCast_zero,Int.add_zero]; ((repeat (refine J5 rfl ?_)); exact J6)) ?_;rintro i V ⟨hi,d,c,a⟩;refine l9 ?_;refine l9 ?_;refine I9 ?_;refine L6 rfl rfl ?_;refine L6 rfl rfl ?_;refine F0 _ (Af rfl) rfl ?_;refine L6 rfl rfl ?_;refine oN ?_;refine nQ ?_;refine P5 rfl (fun g=>?_) (fun g=>?_)
 ·have n:i<x.length:=by simpa using g
  obtain⟨rfl,v⟩:=E (by omega);have l:=Q b v;refine D7 ?_;refine nQ ?_;refine l9 ?_;refine F4 ?_;refine l9 ?_;refine I9 ?_;refine L6 rfl rfl ?_;refine L6 rfl rfl ?_;refine L6 rfl rfl ?_;refine B0J rfl rfl n rfl ?_;refine s0U (j:=1*i+0) (k:=k) (ds:=ds) rfl rfl (by omega) (by omega) (by omega) a (c b l) ?_;intro z t s a
  replace d:=d.trans (t.up (fun j e=>by rw[e]; exact v))
  replace c:∀j,UF w j->UF z j:=fun j h=>s j (c j h)
  refine oN ?_;refine nQ ?_;refine I9 ?_;refine L6 rfl rfl ?_;refine F0 _ (MO rfl rfl (by omega)) rfl ?_;refine L6 rfl rfl ?_;refine oN ?_;refine Bp ?_;refine nQ ?_;refine I9 ?_;refine L6 rfl rfl ?_;refine F0 _ (MO rfl rfl (by omega)) rfl ?_;refine L6 rfl rfl ?_;refine oN ?_;have F:k+((1*(i+1):Nat):Int)=k+((1*i:Nat):Int)+1:=by omega
  refine Ae (i+1) ⟨by omega,d,c,a⟩ (by omega) (by rw[F,Int.natCast_succ]; ((repeat (refine J5 rfl ?_)); exact J6))
 ·have r:i=x.length:=by
   have:¬i<x.length:=by simpa using g
   omega
  subst r;refine N0 ?_;refine N1 ?_;refine N2 ?_;refine N3 rfl ?_;refine nQ ?_;refine l9 ?_;refine I9 ?_;refine L6 rfl rfl ?_;refine L6 rfl rfl ?_;refine oN ?_;refine nQ ?_;refine G7 ?_;refine L7 Tryz.results28 rfl ?_;refine⟨rfl,d,c,m _ _ (TU _ _) (Ag k (1*x.length)) ?_ (by rw[Nat.one_mul]; exact u0G _ _ G (by omega))⟩;rw[List.drop_eq_nil_of_le (by omega),List.append_nil] at a;exact a
end Go.Proofs.YtechodbafnmddaaGreatDoor
end
section
namespace Go.Proofs.YtechodbafnmddaaGreatDoor
open Go Go.Proofs Go.Proofs.Sv Go.Proofs.Xv Go.Proofs.Xl Go.RowKit
theorem K0y{l:List Value}(h:l.length=3):∃a b c,l=[a,b,c]:=by
 match l,h with
 | [a,b,c],_=>exact⟨a,b,c,rfl⟩
theorem PT{p:Prop}{n m:Nat}{w:World}{cs:List Value}{x:Dm}{r:j1}(f:Fa p n m w Z7 cs x)(h:Lw x=some r):Calls Tryz.prog 12 #[.agg cs.toArray] w fun en w'=>∃x0 x1 x2 x3 x4,en=.returned (.agg #[x0,x1,x2,x3,x4])/\Ext w w'/\Fa True w.heap.size w'.heap.size w' j6 [x0,x1,x2,x3,x4] r:=by
 refine Calls.mono (R1 o12 (fun _=>rfl) rfl (x:=(x,())) h ⟨_,_,rfl,f.arg,rfl,rfl⟩) ?_;rintro _ w' ⟨v,rfl,i,j,rfl,a⟩;obtain⟨x0,_,rfl,b,a⟩:=AD a;obtain⟨x1,_,rfl,d,a⟩:=AD a;obtain⟨x2,_,rfl,g,a⟩:=AD a;obtain⟨x3,_,rfl,e,a⟩:=AD a;obtain⟨x4,_,rfl,c,a⟩:=AD a;obtain⟨rfl,_⟩:=a;exact⟨x0,x1,x2,x3,x4,rfl,i,[x0],[x1,x2,x3,x4],rfl,RT.up b.1 (fun _ h=>h rfl),[x1,x2,x3],[x4],rfl,⟨[x1],[x2,x3],rfl,RT.up d.1 (fun _ h=>h rfl),[x2],[x3],rfl,RT.up g.1 (fun _ h=>h rfl),RT.up e.1 (fun _ h=>h rfl)⟩,RT.up c.1 (fun _ h=>h rfl)⟩
theorem TV{p:Prop}{n m:Nat}{w:World}{cs:List Value}{x:Dn}{r:r5}(f:Fa p n m w Z8 cs x)(h:Lx x=some r):Calls Tryz.prog 13 #[.agg cs.toArray] w fun en w'=>∃x0 x1 x2 x3 x4,en=.returned (.agg #[x0,x1,x2,x3,x4])/\Ext w w'/\Fa True w.heap.size w'.heap.size w' A0 [x0,x1,x2,x3,x4] r:=by
 refine Calls.mono (R1 o13 (fun _=>rfl) rfl (x:=(x,())) h ⟨_,_,rfl,f.arg,rfl,rfl⟩) ?_;rintro _ w' ⟨v,rfl,i,j,rfl,a⟩;obtain⟨x0,_,rfl,b,a⟩:=AD a;obtain⟨x1,_,rfl,d,a⟩:=AD a;obtain⟨x2,_,rfl,g,a⟩:=AD a;obtain⟨x3,_,rfl,e,a⟩:=AD a;obtain⟨x4,_,rfl,c,a⟩:=AD a;obtain⟨rfl,_⟩:=a;exact⟨x0,x1,x2,x3,x4,rfl,i,[x0],[x1,x2,x3,x4],rfl,RT.up b.1 (fun _ h=>h rfl),[x1],[x2,x3,x4],rfl,RT.up d.1 (fun _ h=>h rfl),[x2],[x3,x4],rfl,RT.up g.1 (fun _ h=>h rfl),[x3],[x4],rfl,RT.up e.1 (fun _ h=>h rfl),RT.up c.1 (fun _ h=>h rfl)⟩
theorem PU{p:Prop}{n m:Nat}{w:World}{cs:List Value}{x:Dp}{r:C0}(f:Fa p n m w AY cs x)(h:u16 x=some r):Calls Tryz.prog 16 #[.agg cs.toArray] w fun en w'=>∃x0 x1 x2,en=.returned (.agg #[x0,x1,x2])/\Ext w w'/\Fa True w.heap.size w'.heap.size w' y65 [x0,x1,x2] r:=by
 refine Calls.mono (R1 o16 (fun _=>rfl) rfl (x:=(x,())) h ⟨_,_,rfl,f.arg,rfl,rfl⟩) ?_;rintro _ w' ⟨v,rfl,e,g,rfl,a⟩;obtain⟨x0,_,rfl,b,a⟩:=AD a;obtain⟨x1,_,rfl,d,a⟩:=AD a;obtain⟨x2,_,rfl,c,a⟩:=AD a;obtain⟨rfl,_⟩:=a;exact⟨x0,x1,x2,rfl,e,[x0],[x1,x2],rfl,RT.up b.1 (fun _ h=>h rfl),[x1],[x2],rfl,RT.up d.1 (fun _ h=>h rfl),RT.up c.1 (fun _ h=>h rfl)⟩
end Go.Proofs.YtechodbafnmddaaGreatDoor
end
section
namespace Go.Proofs.YtechodbafnmddaaGreatDoor
open Go Go.Proofs Go.Proofs.Sv Go.Proofs.Xv Go.Proofs.Xl Go.RowKit
attribute [local irreducible] VS VO VQ VH M3 Y0 CL MM D6 TS
attribute [local simp] u6 I8 Value.cells
structure HL6(x0:Dm)(x1:Dn)(x2:List Int)(x3:List BN)(x4:Dp)(x5:Int)(x6:Int)(l:List Int)(c:Int):Prop where
 ht4:Lw x0=some x0
 ht5:Lx x1=some x1
 ht6:N5 x2=some x2
 ht7:OR x3=some x3
 ht8:u16 x4=some x4
 hs9:u32 x0 x1 x2 x3 x4 (x5:Int) (x6:Int)=some (l,c)
 hs10:PO x0 x1 x2 x3 x4 (x5:Int) (x6:Int)=some (l,c)
 he11:M6 l l=some true
 he12:OT x0 x0=some true
 he13:M6 x2 x2=some true
 he14:OU x3 x3=some true
 he15:OV x4 x4=some true
 hk16:(1+(l7 j6 x0:Int))<=9223372036854775807
 hk17:((1+(l7 j6 x0:Int))+(l7 (.sl (.int .i64)) x2:Int))<=9223372036854775807
 hk18:(((1+(l7 j6 x0:Int))+(l7 (.sl (.int .i64)) x2:Int))+(l7 (.sl y106) x3:Int))<=9223372036854775807
 hk19:((((1+(l7 j6 x0:Int))+(l7 (.sl (.int .i64)) x2:Int))+(l7 (.sl y106) x3:Int))+(l7 y65 x4:Int))<=9223372036854775807
 hk20:(1+((1*l.length:Nat):Int))<=9223372036854775807
 hh21:TJ (AB 1 l.length) (1:Int)=some (1+((1*l.length:Nat):Int))
def GL6(x0:Dm)(x1:Dn)(x2:List Int)(x3:List BN)(x4:Dp)(x5:Int)(x6:Int):Prop:=∃L0:Int,u7 x0 (1048576:Int)=some L0/\L0<=1048576/\(0<=L0->∃L1:Int,u8 x1 (L0:Int)=some L1/\L1<=1048576/\(0<=L1->∃L2:Int,u9 x3 (L1:Int)=some L2/\L2<=1048576/\(0<=L2->∃L3:Int,Ol x4 (L2:Int)=some L3/\L3<=1048576/\(0<=L3->(x2.length<=1048576)->∃(l:List Int) (c:Int),HL6 x0 x1 x2 x3 x4 x5 x6 l c))))
set_option maxRecDepth 100000 in
set_option maxHeartbeats 4000000 in
theorem P0R{K:Nat->Prop}{w0:World}{bG:List Value}{x0:Dm}(a0:RT K w0 Z7 bG x0){bB:List Value}{x1:Dn}(a1:RT K w0 Z8 bB x1){v2:Value}{G:List Int}(a2:RT K w0 (.sl (.int .i64)) [v2] G){v3:Value}{F:List BN}(a3:RT K w0 (.sl y106) [v3] F){bD:List Value}{x4:Dp}(a4:RT K w0 AY bD x4){x5:Int}(a5:K1 x5){x6:Int}(a6:K1 x6)(hg:GL6 x0 x1 G F x4 x5 x6):Calls Tryz.prog 6 #[.agg bG.toArray,.agg bB.toArray,v2,v3,.agg bD.toArray,.int .i64 x5,.int .i64 x6] w0 fun en w'=>en=.returned (.bool true)/\Ext w0 w':=by
 obtain⟨L0,cA,iE,hG⟩:=hg;obtain⟨dA,bS,dO,bP,dM,rfl⟩:=H0B (RT.len a0);have f1:=Fa.of a0;obtain⟨bR,cK,dN,cE,cW,rfl⟩:=H0B (RT.len a1);have f2:=Fa.of a1;obtain⟨p2,q2,rfl,_⟩:=RT.row a2;have f3:=Fa.of a2;obtain⟨p3,q3,rfl,_⟩:=RT.row a3;have f4:=Fa.of a3;obtain⟨bY,dF,dS,rfl⟩:=K0y (RT.len a4);have Y:=Fa.of a4;have W:Ext w0 w0:=Ext.refl w0;refine Q4 Tryz.func6 Tryz.ntmps6 rfl rfl ?_;refine ra ?_;refine GY rfl rfl rfl ?_;intro b7 w1 u X;have i1:=u.ext;have e7:=u.eq;have s1:=u.size;have X:Blk w1 b7 [dA,bS,dO,bP,dM] 32:=X;refine GY rfl rfl rfl ?_;intro b8 w2 u B8;have i2:=u.ext;have e8:=u.eq;have s2:=u.size;have B8:Blk w2 b8 [bR,cK,dN,cE,cW] 34:=B8;refine GY rfl rfl rfl ?_;intro bZ w3 u g;have i3:=u.ext;have hD:=u.eq;have s3:=u.size;have g:Blk w3 bZ [bY,dF,dS] 40:=g;refine pu ?_;refine oN (nQ (l9 (ra ?_)));refine pu ?_;refine F0 _ (Af rfl) rfl ?_;refine pu ?_;refine oN (nQ (P5 rfl (fun hc=>?_) (fun hc=>?_)))
 ·refine ra ?_;refine pu ?_;refine oN (nQ (G7 ?_))
  (repeat refine V6 ?_)
  refine L7 Tryz.results6 rfl ?_;have W:=((W.trans i1).trans i2).trans i3;exact⟨rfl,W⟩
 have bQ:G.length<=1048576:=by simp at hc; omega
 refine D7 (nQ (ra ?_));refine pu ?_;refine rb ?_;have X:=X.ext (i2.trans i3);refine GZ rfl X rfl rfl ?_;refine pu ?_;have f1:=f1.ext (i1.trans (i2.trans i3));refine ci o7 (x:=(x0,(1048576:Int),())) cA ⟨_,_,rfl,f1.arg,⟨_,_,rfl,⟨rfl,by show lo .i64<=(1048576:Int); decide,by show(1048576:Int)<=hi .i64; decide⟩,⟨rfl,rfl⟩⟩⟩ fun w4 i4=>?_;have s4:=i4.size;refine pu ?_;refine oN (nQ (l9 (ra ?_)));refine pu ?_;refine pu ?_;refine oN (nQ (P5 rfl (fun hc=>?_) (fun hc=>?_)))
 ·refine ra ?_;refine pu ?_;refine oN (nQ (G7 ?_))
  (repeat refine V6 ?_)
  refine L7 Tryz.results6 rfl ?_;have W:=(((W.trans i1).trans i2).trans i3).trans i4;exact⟨rfl,W⟩
 have cY:0<=L0:=by simpa using hc
 obtain⟨L1,cC,gI,hG⟩:=hG cY;refine D7 (nQ (ra ?_));have B8:=B8.ext (i3.trans i4);refine GZ rfl B8 rfl rfl ?_;refine pu ?_;have f2:=f2.ext (i1.trans (i2.trans (i3.trans i4)));refine ci o8 (x:=(x1,(L0:Int),())) cC ⟨_,_,rfl,f2.arg,⟨_,_,rfl,⟨rfl,by show(-9223372036854775808:Int)<=L0; omega,by show L0<=(9223372036854775807:Int); omega⟩,⟨rfl,rfl⟩⟩⟩ fun w5 i5=>?_;have s5:=i5.size;refine pu ?_;refine oN (nQ (l9 (ra ?_)));refine pu ?_;refine pu ?_;refine oN (nQ (P5 rfl (fun hc=>?_) (fun hc=>?_)))
 ·refine ra ?_;refine pu ?_;refine oN (nQ (G7 ?_))
  (repeat refine V6 ?_)
  refine L7 Tryz.results6 rfl ?_;have W:=((((W.trans i1).trans i2).trans i3).trans i4).trans i5;exact⟨rfl,W⟩
 have dG:0<=L1:=by simpa using hc
 obtain⟨L2,cX,hW,hG⟩:=hG dG;refine D7 (nQ (ra ?_));refine pu ?_;refine pu ?_;have f4:=f4.ext (i1.trans (i2.trans (i3.trans (i4.trans i5))));refine ci o9 (x:=(F,(L1:Int),())) cX ⟨_,_,rfl,f4.arg,⟨_,_,rfl,⟨rfl,by show(-9223372036854775808:Int)<=L1; omega,by show L1<=(9223372036854775807:Int); omega⟩,⟨rfl,rfl⟩⟩⟩ fun w6 i6=>?_;have s6:=i6.size;refine pu ?_;refine oN (nQ (l9 (ra ?_)));refine pu ?_;refine pu ?_;refine oN (nQ (P5 rfl (fun hc=>?_) (fun hc=>?_)))
 ·refine ra ?_;refine pu ?_;refine oN (nQ (G7 ?_))
  (repeat refine V6 ?_)
  refine L7 Tryz.results6 rfl ?_;have W:=(((((W.trans i1).trans i2).trans i3).trans i4).trans i5).trans i6;exact⟨rfl,W⟩
 have dE:0<=L2:=by simpa using hc
 obtain⟨L3,dQ,iM,hG⟩:=hG dE;refine D7 (nQ (ra ?_));have g:=g.ext (i4.trans (i5.trans i6));refine GZ rfl g rfl rfl ?_;refine pu ?_;have Y:=Y.ext (i1.trans (i2.trans (i3.trans (i4.trans (i5.trans i6)))));refine ci o10 (x:=(x4,(L2:Int),())) dQ ⟨_,_,rfl,Y.arg,⟨_,_,rfl,⟨rfl,by show(-9223372036854775808:Int)<=L2; omega,by show L2<=(9223372036854775807:Int); omega⟩,⟨rfl,rfl⟩⟩⟩ fun w7 i7=>?_;have s7:=i7.size;refine pu ?_;refine oN (nQ (l9 (ra ?_)));refine pu ?_;refine pu ?_;refine oN (nQ (P5 rfl (fun hc=>?_) (fun hc=>?_)))
 ·refine ra ?_;refine pu ?_;refine oN (nQ (G7 ?_))
  (repeat refine V6 ?_)
  refine L7 Tryz.results6 rfl ?_;have W:=((((((W.trans i1).trans i2).trans i3).trans i4).trans i5).trans i6).trans i7;exact⟨rfl,W⟩
 obtain⟨l,c,⟨aF,bA,aJ,aG,aH,bX,aS,aA,bC,bK,bH,bE,fC,eP,eV,eW,eS,aP⟩⟩:=hG (by simpa using hc) bQ;refine D7 (nQ (l9 ?_));refine MR ?_;intro w8 i8;have s8:=i8.size;have a:=Ext.refl w8;have X:=X.ext (i4.trans (i5.trans (i6.trans (i7.trans i8))));have B8:=B8.ext (i5.trans (i6.trans (i7.trans i8)));have g:=g.ext (i7.trans i8);refine D1 0 rfl (fun _ f=>V7 rfl (M4 rfl) (X.ext f).at) rfl (by kernel_rfl) (by kernel_rfl) (by kernel_rfl) ?_;refine D1 2 rfl (fun _ f=>V7 rfl (M4 rfl) (B8.ext f).at) rfl (by kernel_rfl) (by kernel_rfl) (by kernel_rfl) ?_;refine D1 4 rfl (fun _ f=>D0 rfl) rfl (by kernel_rfl) (by kernel_rfl) (by kernel_rfl) ?_;refine D1 6 rfl (fun _ f=>D0 rfl) rfl (by kernel_rfl) (by kernel_rfl) (by kernel_rfl) ?_;refine D1 8 rfl (fun _ f=>V7 rfl (M4 rfl) (g.ext f).at) rfl (by kernel_rfl) (by kernel_rfl) (by kernel_rfl) ?_;refine D1 10 rfl (fun _ f=>D0 rfl) rfl (by kernel_rfl) (by kernel_rfl) (by kernel_rfl) ?_;refine D1 11 rfl (fun _ f=>D0 rfl) rfl (by kernel_rfl) (by kernel_rfl) (by kernel_rfl) ?_;have f1:=f1.ext (i4.trans (i5.trans (i6.trans (i7.trans i8))));refine R2 1 (by kernel_rfl) (R3 rfl rfl rfl (Calls.mono (PT f1 aF) ?_)) a;rintro _ w9 ⟨fU,hX,gL,hT,gE,rfl,i9,g6⟩;refine⟨_,rfl,?_⟩
 replace a:=a.trans i9
 have s9:=i9.size;have f6:=g6;have f2:=f2.ext (i5.trans (i6.trans (i7.trans (i8.trans i9))));refine R2 3 (by kernel_rfl) (R3 rfl rfl rfl (Calls.mono (TV f2 bA) ?_)) a;rintro _ dL ⟨fT,hC,hA,gY,fM,rfl,i10,g7⟩;refine⟨_,rfl,?_⟩
 replace a:=a.trans i10
 have fJ:=i10.size;have f7:=g7;have f3:=f3.ext (i1.trans (i2.trans (i3.trans (i4.trans (i5.trans (i6.trans (i7.trans (i8.trans (i9.trans i10)))))))));refine R2 5 (by kernel_rfl) (R3 rfl rfl rfl (Calls.mono (R1 T3 (fun _=>rfl) rfl (x:=(G,())) aJ ⟨_,_,rfl,f3.arg,⟨rfl,rfl⟩⟩) ?_)) a;rintro _ aZ ⟨v8,rfl,i11,s⟩;refine⟨_,rfl,?_⟩
 replace a:=a.trans i11
 have gK:=i11.size;have E:=Cb (t:=(.sl (.int .i64))) (x:=G) (fr:=true) s;have f8:Fa True dL.heap.size aZ.heap.size aZ (.sl (.int .i64)) [v8] G:=RT.up E (fun _ h=>h rfl);have f4:=f4.ext (i6.trans (i7.trans (i8.trans (i9.trans (i10.trans i11)))));refine R2 7 (by kernel_rfl) (R3 rfl rfl rfl (Calls.mono (R1 OS (fun _=>rfl) rfl (x:=(F,())) aG ⟨_,_,rfl,f4.arg,⟨rfl,rfl⟩⟩) ?_)) a;rintro _ w12 ⟨v9,rfl,i12,s⟩;refine⟨_,rfl,?_⟩
 replace a:=a.trans i12
 have gB:=i12.size;have E:=Cb (t:=(.sl y106)) (x:=F) (fr:=true) s;have f9:Fa True aZ.heap.size w12.heap.size w12 (.sl y106) [v9] F:=RT.up E (fun _ h=>h rfl);have Y:=Y.ext (i7.trans (i8.trans (i9.trans (i10.trans (i11.trans i12)))));refine R2 9 (by kernel_rfl) (R3 rfl rfl rfl (Calls.mono (PU Y aH) ?_)) a;rintro _ w13 ⟨eT,eA,eZ,rfl,i13,cJ⟩;refine⟨_,rfl,?_⟩
 replace a:=a.trans i13
 have hL:=i13.size;have bL:=cJ;have f6:=f6.ext (i10.trans (i11.trans (i12.trans i13)));have f7:=f7.ext (i11.trans (i12.trans i13));have f8:=f8.ext (i12.trans i13);have f9:=f9.ext i13;refine R2 12 (by kernel_rfl) (R3 rfl rfl rfl (Calls.mono (R1 o32 (fun _=>rfl) rfl (x:=(x0,x1,G,F,x4,(x5:Int),(x6:Int),())) bX ⟨_,_,rfl,f6.arg,⟨_,_,rfl,f7.arg,⟨_,_,rfl,f8.arg,⟨_,_,rfl,f9.arg,⟨_,_,rfl,bL.arg,⟨_,_,rfl,⟨rfl,a5.1,a5.2⟩,⟨_,_,rfl,⟨rfl,a6.1,a6.2⟩,⟨rfl,rfl⟩⟩⟩⟩⟩⟩⟩⟩) ?_)) a;rintro _ w14 ⟨v,rfl,i14,s⟩;refine⟨_,rfl,?_⟩
 replace a:=a.trans i14
 have gU:=i14.size;obtain⟨Zk,fS,rfl,aD,aC⟩:=TW s;obtain rfl:=PV aC;have E:=Cb (t:=(.sl (.int .i64))) (x:=l) (fr:=true) aD;have V:Fa True w13.heap.size w14.heap.size w14 (.sl (.int .i64)) [Zk] l:=RT.up E (fun _ h=>h rfl);refine D1 13 rfl (fun _ f=>D0 rfl) rfl (by kernel_rfl) (by kernel_rfl) (by kernel_rfl) ?_;refine D1 14 rfl (fun _ f=>D0 rfl) rfl (by kernel_rfl) (by kernel_rfl) (by kernel_rfl) ?_;refine D1 15 rfl (fun _ f=>D0 rfl) rfl (by kernel_rfl) (by kernel_rfl) (by kernel_rfl) ?_;refine D1 16 rfl (fun _ f=>D0 rfl) rfl (by kernel_rfl) (by kernel_rfl) (by kernel_rfl) ?_;refine D1 17 rfl (fun _ f=>D0 rfl) rfl (by kernel_rfl) (by kernel_rfl) (by kernel_rfl) ?_;refine MS (by kernel_rfl) ?_ a;refine nQ (ra ?_);have X:=X.ext (i9.trans (i10.trans (i11.trans (i12.trans (i13.trans i14)))));refine GZ rfl X rfl rfl ?_;have f1:=f1.ext (i9.trans (i10.trans (i11.trans (i12.trans (i13.trans i14)))));refine V8 rfl rfl (Calls.mono (PT f1 aF) ?_);rintro _ w15 ⟨aN,aL,aQ,aT,aO,rfl,i15,dC⟩;refine⟨_,rfl,?_⟩;have hR:=i15.size;have m:=dC;refine p0t rfl rfl ?_;intro dB w16 u y;have i16:=u.ext;have e18:=u.eq;have gC:=u.size;have m:=m.ext i16;refine p0s (vs:=[aN,aL,aQ,aT,aO]) rfl rfl y rfl rfl (IS (RT.one m)) rfl ?_;intro aW hR u;have i17:=E0y hR;have iJ:=hR.size;have y:Blk aW dB [aN,aL,aQ,aT,aO] 56:=u;refine rb ?_;refine pu ?_;have f3:=(f3.ext (i11.trans (i12.trans (i13.trans (i14.trans (i15.trans i16)))))).wo i17 fun i d b e=>by omega
 refine V8 rfl rfl (Calls.mono (R1 T3 (fun _=>rfl) rfl (x:=(G,())) aJ ⟨_,_,rfl,f3.arg,⟨rfl,rfl⟩⟩) ?_);rintro _ aB ⟨dV,rfl,i18,s⟩;refine⟨_,rfl,?_⟩;have iH:=i18.size;have E:=Cb (t:=(.sl (.int .i64))) (x:=G) (fr:=true) s;have Q:Fa True aW.heap.size aB.heap.size aB (.sl (.int .i64)) [dV] G:=RT.up E (fun _ h=>h rfl);refine pu ?_;refine rb ?_;refine pu ?_;have f4:=((f4.ext (i12.trans (i13.trans (i14.trans (i15.trans i16))))).wo i17 fun i d b e=>by omega).ext i18;refine V8 rfl rfl (Calls.mono (R1 OS (fun _=>rfl) rfl (x:=(F,())) aG ⟨_,_,rfl,f4.arg,⟨rfl,rfl⟩⟩) ?_);rintro _ aI ⟨cB,rfl,i19,s⟩;refine⟨_,rfl,?_⟩;have fI:=i19.size;have E:=Cb (t:=(.sl y106)) (x:=F) (fr:=true) s;have H:Fa True aB.heap.size aI.heap.size aI (.sl y106) [cB] F:=RT.up E (fun _ h=>h rfl);refine pu ?_;refine rb ?_;have g:=(L8 (g.ext (i9.trans (i10.trans (i11.trans (i12.trans (i13.trans (i14.trans (i15.trans i16)))))))) i17 fun h=>by omega).ext (i18.trans i19);refine GZ rfl g rfl rfl ?_;have Y:=((Y.ext (i13.trans (i14.trans (i15.trans i16)))).wo i17 fun i d b e=>by omega).ext (i18.trans i19);refine V8 rfl rfl (Calls.mono (PU Y aH) ?_);rintro _ cP ⟨aR,aM,aK,rfl,j,bO⟩;refine⟨_,rfl,?_⟩;have fG:=j.size;have n:=bO;refine p0t rfl rfl ?_;intro cM hG u z;have V5:=u.ext;have e21:=u.eq;have iK:=u.size;have n:=n.ext V5;refine p0s (vs:=[aR,aM,aK]) rfl rfl z rfl rfl (IS (RT.one n)) rfl ?_;intro dT hR u;have i22:=E0y hR;have hJ:=hR.size;have z:Blk dT cM [aR,aM,aK] 65:=u;refine oN (nQ (l9 ?_));refine MR ?_;intro dP i23;have hN:=i23.size;have a:=Ext.refl dP;have y:=(L8 (y.ext (i18.trans (i19.trans (j.trans V5)))) i22 fun h=>by omega).ext i23;have B8:=(L8 ((L8 (B8.ext (i9.trans (i10.trans (i11.trans (i12.trans (i13.trans (i14.trans (i15.trans i16)))))))) i17 fun h=>by omega).ext (i18.trans (i19.trans (j.trans V5)))) i22 fun h=>by omega).ext i23;have z:=z.ext i23;refine D1 0 rfl (fun _ f=>V7 rfl (M4 rfl) (y.ext f).at) rfl (by kernel_rfl) (by kernel_rfl) (by kernel_rfl) ?_;refine D1 1 rfl (fun _ f=>V7 rfl (M4 rfl) (B8.ext f).at) rfl (by kernel_rfl) (by kernel_rfl) (by kernel_rfl) ?_;refine D1 3 rfl (fun _ f=>D0 rfl) rfl (by kernel_rfl) (by kernel_rfl) (by kernel_rfl) ?_;refine D1 4 rfl (fun _ f=>D0 rfl) rfl (by kernel_rfl) (by kernel_rfl) (by kernel_rfl) ?_;refine D1 5 rfl (fun _ f=>V7 rfl (M4 rfl) (z.ext f).at) rfl (by kernel_rfl) (by kernel_rfl) (by kernel_rfl) ?_;refine D1 6 rfl (fun _ f=>D0 rfl) rfl (by kernel_rfl) (by kernel_rfl) (by kernel_rfl) ?_;refine D1 7 rfl (fun _ f=>D0 rfl) rfl (by kernel_rfl) (by kernel_rfl) (by kernel_rfl) ?_;have f2:=((((f2.ext (i10.trans (i11.trans (i12.trans (i13.trans (i14.trans (i15.trans i16))))))).wo i17 fun i d b e=>by omega).ext (i18.trans (i19.trans (j.trans V5)))).wo i22 fun i d b e=>by omega).ext i23;refine R2 2 (by kernel_rfl) (R3 rfl rfl rfl (Calls.mono (TV f2 bA) ?_)) a;rintro _ cR ⟨dX,eB,dY,dZ,eI,rfl,i24,dK⟩;refine⟨_,rfl,?_⟩
 replace a:=a.trans i24
 have gG:=i24.size;have bW:=dK;have m:=(((m.wo i17 fun i d b e=>by omega).ext (i18.trans (i19.trans (j.trans V5)))).wo i22 fun i d b e=>by omega).ext (i23.trans i24);have Q:=((Q.ext (i19.trans (j.trans V5))).wo i22 fun i d b e=>by omega).ext (i23.trans i24);have H:=((H.ext (j.trans V5)).wo i22 fun i d b e=>by omega).ext (i23.trans i24);have n:=(n.wo i22 fun i d b e=>by omega).ext (i23.trans i24);refine R2 8 (by kernel_rfl) (R3 rfl rfl rfl (Calls.mono (R1 o33 (fun _=>rfl) rfl (x:=(x0,x1,G,F,x4,(x5:Int),(x6:Int),())) aS ⟨_,_,rfl,m.arg,⟨_,_,rfl,bW.arg,⟨_,_,rfl,Q.arg,⟨_,_,rfl,H.arg,⟨_,_,rfl,n.arg,⟨_,_,rfl,⟨rfl,a5.1,a5.2⟩,⟨_,_,rfl,⟨rfl,a6.1,a6.2⟩,⟨rfl,rfl⟩⟩⟩⟩⟩⟩⟩⟩) ?_)) a;rintro _ bF ⟨v,rfl,i25,s⟩;refine⟨_,rfl,?_⟩
 replace a:=a.trans i25
 have gW:=i25.size;obtain⟨u17,fH,rfl,aD,aC⟩:=TW s;obtain rfl:=PV aC;have E:=Cb (t:=(.sl (.int .i64))) (x:=l) (fr:=true) aD;have k:Fa True cR.heap.size bF.heap.size bF (.sl (.int .i64)) [u17] l:=RT.up E (fun _ h=>h rfl);refine D1 9 rfl (fun _ f=>D0 rfl) rfl (by kernel_rfl) (by kernel_rfl) (by kernel_rfl) ?_;refine D1 10 rfl (fun _ f=>D0 rfl) rfl (by kernel_rfl) (by kernel_rfl) (by kernel_rfl) ?_;refine D1 11 rfl (fun _ f=>D0 rfl) rfl (by kernel_rfl) (by kernel_rfl) (by kernel_rfl) ?_;refine D1 12 rfl (fun _ f=>D0 rfl) rfl (by kernel_rfl) (by kernel_rfl) (by kernel_rfl) ?_;refine D1 13 rfl (fun _ f=>D0 rfl) rfl (by kernel_rfl) (by kernel_rfl) (by kernel_rfl) ?_;refine MS (by kernel_rfl) ?_ a;refine nQ (l9 (ra ?_));refine pu ?_;refine pu ?_;have V:=((((V.ext (i15.trans i16)).wo i17 fun i d b e=>by omega).ext (i18.trans (i19.trans (j.trans V5)))).wo i22 fun i d b e=>by omega).ext (i23.trans (i24.trans i25));refine cb Fu (x:=(l,l,())) aA ⟨_,_,rfl,k.arg,⟨_,_,rfl,V.arg,⟨rfl,rfl⟩⟩⟩ fun fF i26=>?_;have hE:=i26.size;refine pu ?_;refine pu ?_;refine AE rfl rfl ?_;refine pu ?_;refine AE rfl rfl ?_;refine pu ?_;refine AE rfl rfl ?_;refine pu ?_;refine FI (bne_self_eq_false _) ?_;refine pu ?_;refine oN (nQ (Cc rfl ?_));refine D7 (nQ (l9 (l9 ?_)));refine MR ?_;intro cO i27;have gX:=i27.size;have a:=Ext.refl cO;have y:=y.ext (i24.trans (i25.trans (i26.trans i27)));have X:=(L8 ((L8 (X.ext (i15.trans i16)) i17 fun h=>by omega).ext (i18.trans (i19.trans (j.trans V5)))) i22 fun h=>by omega).ext (i23.trans (i24.trans (i25.trans (i26.trans i27))));refine D1 0 rfl (fun _ f=>V7 rfl (M4 rfl) (y.ext f).at) rfl (by kernel_rfl) (by kernel_rfl) (by kernel_rfl) ?_;refine D1 1 rfl (fun _ f=>V7 rfl (M4 rfl) (X.ext f).at) rfl (by kernel_rfl) (by kernel_rfl) (by kernel_rfl) ?_;have f1:=((((f1.ext (i15.trans i16)).wo i17 fun i d b e=>by omega).ext (i18.trans (i19.trans (j.trans V5)))).wo i22 fun i d b e=>by omega).ext (i23.trans (i24.trans (i25.trans (i26.trans i27))));refine R2 2 (by kernel_rfl) (R3 rfl rfl rfl (Calls.mono (PT f1 aF) ?_)) a;rintro _ gZ ⟨eH,eJ,eR,eO,eU,rfl,i28,dU⟩;refine⟨_,rfl,?_⟩
 replace a:=a.trans i28
 have gT:=i28.size;have cT:=dU;have m:=m.ext (i25.trans (i26.trans (i27.trans i28)));refine R2 3 (by kernel_rfl) (R3 rfl rfl rfl (Calls.mono (R1 o18 (fun _=>rfl) rfl (x:=(x0,x0,())) bC ⟨_,_,rfl,m.arg,⟨_,_,rfl,cT.arg,⟨rfl,rfl⟩⟩⟩) ?_)) a;rintro _ dI ⟨v,rfl,i29,s⟩;obtain rfl:=TX s;refine⟨_,rfl,?_⟩
 replace a:=a.trans i29
 have hY:=i29.size;refine s0V 4 rfl (by kernel_rfl) (D0 rfl) rfl ?_;refine MS (by kernel_rfl) ?_ a;refine nQ (Cc rfl ?_);refine D7 (nQ (l9 (ra ?_)));refine pu ?_;refine pu ?_;have f3:=((f3.ext (i18.trans (i19.trans (j.trans V5)))).wo i22 fun i d b e=>by omega).ext (i23.trans (i24.trans (i25.trans (i26.trans (i27.trans (i28.trans i29))))));refine V8 rfl rfl (Calls.mono (R1 T3 (fun _=>rfl) rfl (x:=(G,())) aJ ⟨_,_,rfl,f3.arg,⟨rfl,rfl⟩⟩) ?_);rintro _ bJ ⟨dD,rfl,i30,s⟩;refine⟨_,rfl,?_⟩;have hB:=i30.size;have E:=Cb (t:=(.sl (.int .i64))) (x:=G) (fr:=true) s;have cU:Fa True dI.heap.size bJ.heap.size bJ (.sl (.int .i64)) [dD] G:=RT.up E (fun _ h=>h rfl);have Q:=Q.ext (i25.trans (i26.trans (i27.trans (i28.trans (i29.trans i30)))));refine cb Fu (x:=(G,G,())) bK ⟨_,_,rfl,Q.arg,⟨_,_,rfl,cU.arg,⟨rfl,rfl⟩⟩⟩ fun bV i31=>?_;have gR:=i31.size;refine pu ?_;refine oN (nQ (Cc rfl ?_));refine D7 (nQ (l9 (ra ?_)));refine pu ?_;refine pu ?_;have f4:=((f4.ext (i19.trans (j.trans V5))).wo i22 fun i d b e=>by omega).ext (i23.trans (i24.trans (i25.trans (i26.trans (i27.trans (i28.trans (i29.trans (i30.trans i31))))))));refine V8 rfl rfl (Calls.mono (R1 OS (fun _=>rfl) rfl (x:=(F,())) aG ⟨_,_,rfl,f4.arg,⟨rfl,rfl⟩⟩) ?_);rintro _ bI ⟨cQ,rfl,i32,s⟩;refine⟨_,rfl,?_⟩;have hO:=i32.size;have E:=Cb (t:=(.sl y106)) (x:=F) (fr:=true) s;have bT:Fa True bV.heap.size bI.heap.size bI (.sl y106) [cQ] F:=RT.up E (fun _ h=>h rfl);have H:=H.ext (i25.trans (i26.trans (i27.trans (i28.trans (i29.trans (i30.trans (i31.trans i32)))))));refine cb o20 (x:=(F,F,())) bH ⟨_,_,rfl,H.arg,⟨_,_,rfl,bT.arg,⟨rfl,rfl⟩⟩⟩ fun gJ i33=>?_;have hV:=i33.size;refine pu ?_;refine oN (nQ (Cc rfl ?_));refine D7 (nQ (l9 (l9 ?_)));refine MR ?_;intro bN i34;have gH:=i34.size;have a:=Ext.refl bN;have z:=z.ext (i24.trans (i25.trans (i26.trans (i27.trans (i28.trans (i29.trans (i30.trans (i31.trans (i32.trans (i33.trans i34))))))))));have g:=(L8 (g.ext (j.trans V5)) i22 fun h=>by omega).ext (i23.trans (i24.trans (i25.trans (i26.trans (i27.trans (i28.trans (i29.trans (i30.trans (i31.trans (i32.trans (i33.trans i34)))))))))));refine D1 0 rfl (fun _ f=>V7 rfl (M4 rfl) (z.ext f).at) rfl (by kernel_rfl) (by kernel_rfl) (by kernel_rfl) ?_;refine D1 1 rfl (fun _ f=>V7 rfl (M4 rfl) (g.ext f).at) rfl (by kernel_rfl) (by kernel_rfl) (by kernel_rfl) ?_;have Y:=((Y.ext (j.trans V5)).wo i22 fun i d b e=>by omega).ext (i23.trans (i24.trans (i25.trans (i26.trans (i27.trans (i28.trans (i29.trans (i30.trans (i31.trans (i32.trans (i33.trans i34)))))))))));refine R2 2 (by kernel_rfl) (R3 rfl rfl rfl (Calls.mono (PU Y aH) ?_)) a;rintro _ iG ⟨eD,eL,eY,rfl,i35,dH⟩;refine⟨_,rfl,?_⟩
 replace a:=a.trans i35
 have hH:=i35.size;have bU:=dH;have n:=n.ext (i25.trans (i26.trans (i27.trans (i28.trans (i29.trans (i30.trans (i31.trans (i32.trans (i33.trans (i34.trans i35))))))))));refine R2 3 (by kernel_rfl) (R3 rfl rfl rfl (Calls.mono (R1 o21 (fun _=>rfl) rfl (x:=(x4,x4,())) bE ⟨_,_,rfl,n.arg,⟨_,_,rfl,bU.arg,⟨rfl,rfl⟩⟩⟩) ?_)) a;rintro _ hZ ⟨v,rfl,i36,s⟩;obtain rfl:=TX s;refine⟨_,rfl,?_⟩
 replace a:=a.trans i36
 have iC:=i36.size;refine s0V 4 rfl (by kernel_rfl) (D0 rfl) rfl ?_;refine MS (by kernel_rfl) ?_ a;refine nQ (Cc rfl ?_);refine D7 (nQ (ra ?_));refine pu ?_;refine rb ?_;have y:=y.ext (i28.trans (i29.trans (i30.trans (i31.trans (i32.trans (i33.trans (i34.trans (i35.trans i36))))))));refine GZ rfl y rfl rfl ?_;refine pu ?_;have m:=m.ext (i29.trans (i30.trans (i31.trans (i32.trans (i33.trans (i34.trans (i35.trans i36)))))));refine V8 rfl rfl (Calls.mono (m27 (fun i=>w14.heap.size<=i/\i<w15.heap.size) _ _ _ _ (fun i hi=>by omega) (m.sh rfl) (by omega) (by omega)) ?_);rintro _ hU ⟨rfl,hM⟩;refine⟨_,rfl,?_⟩;have i37:=hM.wo;have iI:=i37.size;refine pu ?_;refine rb ?_;refine pu ?_;refine pu ?_;have Q:=(Q.ext (i31.trans (i32.trans (i33.trans (i34.trans (i35.trans i36)))))).wo i37 fun i d b e=>by omega
 refine V8 rfl rfl (Calls.mono (CM (fun i=>aW.heap.size<=i/\i<aB.heap.size) _ _ _ _ (fun i hi=>by omega) (Q.sh rfl) (by omega) (by omega)) ?_);rintro _ gF ⟨rfl,hM⟩;refine⟨_,rfl,?_⟩;have i38:=hM.wo;have gN:=i38.size;refine pu ?_;refine rb ?_;refine pu ?_;refine pu ?_;have H:=((H.ext (i33.trans (i34.trans (i35.trans i36)))).wo i37 fun i d b e=>by omega).wo i38 fun i d b e=>by omega
 refine V8 rfl rfl (Calls.mono (m29 (fun i=>aB.heap.size<=i/\i<aI.heap.size) _ _ _ _ (fun i hi=>by omega) (H.sh rfl) (by omega) (by omega)) ?_);rintro _ hS ⟨rfl,hM⟩;refine⟨_,rfl,?_⟩;have i39:=hM.wo;have gS:=i39.size;refine pu ?_;refine rb ?_;have z:=L8 (L8 (L8 (z.ext (i35.trans i36)) i37 fun h=>by omega) i38 fun h=>by omega) i39 fun h=>by omega
 refine GZ rfl z rfl rfl ?_;refine pu ?_;have n:=(((n.ext i36).wo i37 fun i d b e=>by omega).wo i38 fun i d b e=>by omega).wo i39 fun i d b e=>by omega
 refine V8 rfl rfl (Calls.mono (m30 (fun i=>aI.heap.size<=i/\i<cP.heap.size) _ _ _ _ (fun i hi=>by omega) (n.sh rfl) (by omega) (by omega)) ?_);rintro _ gM ⟨rfl,hM⟩;refine⟨_,rfl,?_⟩;have i40:=hM.wo;have fP:=i40.size;refine pu ?_;refine oN (nQ (l9 (ra ?_)));refine pu ?_;refine pu ?_;refine FI (decide_eq_false (by omega)) ?_;refine pu ?_;refine AE rfl rfl ?_;refine pu ?_;refine AE rfl rfl ?_;refine pu ?_;refine AE rfl rfl ?_;have k:=((((k.ext (i26.trans (i27.trans (i28.trans (i29.trans (i30.trans (i31.trans (i32.trans (i33.trans (i34.trans (i35.trans i36))))))))))).wo i37 fun i d b e=>by omega).wo i38 fun i d b e=>by omega).wo i39 fun i d b e=>by omega).wo i40 fun i d b e=>by omega
 have V:=((((V.ext (i26.trans (i27.trans (i28.trans (i29.trans (i30.trans (i31.trans (i32.trans (i33.trans (i34.trans (i35.trans i36))))))))))).wo i37 fun i d b e=>by omega).wo i38 fun i d b e=>by omega).wo i39 fun i d b e=>by omega).wo i40 fun i d b e=>by omega
 refine cb Fu (x:=(l,l,())) aA ⟨_,_,rfl,k.arg,⟨_,_,rfl,V.arg,⟨rfl,rfl⟩⟩⟩ fun gO q=>?_;have hF:=q.size;refine AE rfl rfl ?_;refine pu ?_;refine pu ?_;refine pu ?_;refine AE rfl rfl ?_;refine pu ?_;refine AE rfl rfl ?_;refine pu ?_;refine AE rfl rfl ?_;refine pu ?_;refine FI (bne_self_eq_false _) ?_;refine pu ?_;refine oN (nQ (Cc rfl ?_));refine D7 (nQ (ra ?_));refine pu ?_;refine rb ?_;refine pu ?_;refine pu ?_;have k:=k.ext q;refine V8 rfl rfl (Calls.mono (Fa.mkE x28 k (by omega) (by omega)) ?_);rintro _ fO ⟨rfl,w,cL⟩;refine⟨_,rfl,?_⟩;have gA:=w.size;have k:=cL;refine pu ?_;refine rb ?_;refine pu ?_;refine rb ?_;refine pu ?_;refine pu ?_;refine ci o34 (x:=((AB 1 l.length),(1:Int),())) aP ⟨_,_,rfl,k.arg,⟨_,_,rfl,⟨rfl,by show lo .i64<=(1:Int); decide,by show(1:Int)<=hi .i64; decide⟩,⟨rfl,rfl⟩⟩⟩ fun hP o=>?_;have iL:=o.size;refine pu ?_;refine oN (nQ (l9 (ra ?_)));refine pu ?_;refine pu ?_;refine FI (decide_eq_false (by omega)) ?_;refine oN (nQ (Cc rfl ?_));refine D7 (nQ (l9 (ra ?_)));refine pu ?_;refine pu ?_;refine pu ?_;refine FI (bne_self_eq_false _) ?_;refine oN (nQ (Cc rfl ?_));refine D7 (nQ (l9 ?_));refine MR ?_;intro dR r;have gV:=r.size;have a:=Ext.refl dR;have X:=(L8 ((L8 (L8 (L8 (L8 (X.ext (i28.trans (i29.trans (i30.trans (i31.trans (i32.trans (i33.trans (i34.trans (i35.trans i36))))))))) i37 fun h=>by omega) i38 fun h=>by omega) i39 fun h=>by omega) i40 fun h=>by omega).ext q) w fun h=>by omega).ext (o.trans r);have B8:=(L8 ((L8 (L8 (L8 (L8 (B8.ext (i24.trans (i25.trans (i26.trans (i27.trans (i28.trans (i29.trans (i30.trans (i31.trans (i32.trans (i33.trans (i34.trans (i35.trans i36))))))))))))) i37 fun h=>by omega) i38 fun h=>by omega) i39 fun h=>by omega) i40 fun h=>by omega).ext q) w fun h=>by omega).ext (o.trans r);have g:=(L8 ((L8 (L8 (L8 (L8 (g.ext (i35.trans i36)) i37 fun h=>by omega) i38 fun h=>by omega) i39 fun h=>by omega) i40 fun h=>by omega).ext q) w fun h=>by omega).ext (o.trans r);refine D1 0 rfl (fun _ f=>V7 rfl (M4 rfl) (X.ext f).at) rfl (by kernel_rfl) (by kernel_rfl) (by kernel_rfl) ?_;refine D1 2 rfl (fun _ f=>V7 rfl (M4 rfl) (B8.ext f).at) rfl (by kernel_rfl) (by kernel_rfl) (by kernel_rfl) ?_;refine D1 4 rfl (fun _ f=>D0 rfl) rfl (by kernel_rfl) (by kernel_rfl) (by kernel_rfl) ?_;refine D1 6 rfl (fun _ f=>D0 rfl) rfl (by kernel_rfl) (by kernel_rfl) (by kernel_rfl) ?_;refine D1 8 rfl (fun _ f=>V7 rfl (M4 rfl) (g.ext f).at) rfl (by kernel_rfl) (by kernel_rfl) (by kernel_rfl) ?_;refine D1 10 rfl (fun _ f=>D0 rfl) rfl (by kernel_rfl) (by kernel_rfl) (by kernel_rfl) ?_;refine D1 11 rfl (fun _ f=>D0 rfl) rfl (by kernel_rfl) (by kernel_rfl) (by kernel_rfl) ?_;have f1:=(((((((f1.ext (i28.trans (i29.trans (i30.trans (i31.trans (i32.trans (i33.trans (i34.trans (i35.trans i36))))))))).wo i37 fun i d b e=>by omega).wo i38 fun i d b e=>by omega).wo i39 fun i d b e=>by omega).wo i40 fun i d b e=>by omega).ext q).wo w fun i d b e=>by omega).ext (o.trans r);refine R2 1 (by kernel_rfl) (R3 rfl rfl rfl (Calls.mono (PT f1 aF) ?_)) a;rintro _ w45 ⟨eE,fB,eK,eX,eF,rfl,P,cV⟩;refine⟨_,rfl,?_⟩
 replace a:=a.trans P
 have hI:=P.size;have aX:=cV;have f2:=(((((((f2.ext (i24.trans (i25.trans (i26.trans (i27.trans (i28.trans (i29.trans (i30.trans (i31.trans (i32.trans (i33.trans (i34.trans (i35.trans i36))))))))))))).wo i37 fun i d b e=>by omega).wo i38 fun i d b e=>by omega).wo i39 fun i d b e=>by omega).wo i40 fun i d b e=>by omega).ext q).wo w fun i d b e=>by omega).ext (o.trans (r.trans P));refine R2 3 (by kernel_rfl) (R3 rfl rfl rfl (Calls.mono (TV f2 bA) ?_)) a;rintro _ w46 ⟨eM,dW,eN,eG,fD,rfl,T,cI⟩;refine⟨_,rfl,?_⟩
 replace a:=a.trans T
 have fW:=T.size;have aV:=cI;have f3:=(((((((f3.ext (i30.trans (i31.trans (i32.trans (i33.trans (i34.trans (i35.trans i36))))))).wo i37 fun i d b e=>by omega).wo i38 fun i d b e=>by omega).wo i39 fun i d b e=>by omega).wo i40 fun i d b e=>by omega).ext q).wo w fun i d b e=>by omega).ext (o.trans (r.trans (P.trans T)));refine R2 5 (by kernel_rfl) (R3 rfl rfl rfl (Calls.mono (R1 T3 (fun _=>rfl) rfl (x:=(G,())) aJ ⟨_,_,rfl,f3.arg,⟨rfl,rfl⟩⟩) ?_)) a;rintro _ w47 ⟨cN,rfl,i47,s⟩;refine⟨_,rfl,?_⟩
 replace a:=a.trans i47
 have hQ:=i47.size;have E:=Cb (t:=(.sl (.int .i64))) (x:=G) (fr:=true) s;have aY:Fa True w46.heap.size w47.heap.size w47 (.sl (.int .i64)) [cN] G:=RT.up E (fun _ h=>h rfl);have f4:=(((((((f4.ext (i32.trans (i33.trans (i34.trans (i35.trans i36))))).wo i37 fun i d b e=>by omega).wo i38 fun i d b e=>by omega).wo i39 fun i d b e=>by omega).wo i40 fun i d b e=>by omega).ext q).wo w fun i d b e=>by omega).ext (o.trans (r.trans (P.trans (T.trans i47))));refine R2 7 (by kernel_rfl) (R3 rfl rfl rfl (Calls.mono (R1 OS (fun _=>rfl) rfl (x:=(F,())) aG ⟨_,_,rfl,f4.arg,⟨rfl,rfl⟩⟩) ?_)) a;rintro _ w48 ⟨cZ,rfl,i48,s⟩;refine⟨_,rfl,?_⟩
 replace a:=a.trans i48
 have fL:=i48.size;have E:=Cb (t:=(.sl y106)) (x:=F) (fr:=true) s;have aU:Fa True w47.heap.size w48.heap.size w48 (.sl y106) [cZ] F:=RT.up E (fun _ h=>h rfl);have Y:=(((((((Y.ext (i35.trans i36)).wo i37 fun i d b e=>by omega).wo i38 fun i d b e=>by omega).wo i39 fun i d b e=>by omega).wo i40 fun i d b e=>by omega).ext q).wo w fun i d b e=>by omega).ext (o.trans (r.trans (P.trans (T.trans (i47.trans i48)))));refine R2 9 (by kernel_rfl) (R3 rfl rfl rfl (Calls.mono (PU Y aH) ?_)) a;rintro _ w49 ⟨fA,eQ,eC,rfl,i49,bM⟩;refine⟨_,rfl,?_⟩
 replace a:=a.trans i49
 have iF:=i49.size;have cG:=bM;have aX:=aX.ext (T.trans (i47.trans (i48.trans i49)));have aV:=aV.ext (i47.trans (i48.trans i49));have aY:=aY.ext (i48.trans i49);have aU:=aU.ext i49;refine R2 12 (by kernel_rfl) (R3 rfl rfl rfl (Calls.mono (R1 o33 (fun _=>rfl) rfl (x:=(x0,x1,G,F,x4,(x5:Int),(x6:Int),())) aS ⟨_,_,rfl,aX.arg,⟨_,_,rfl,aV.arg,⟨_,_,rfl,aY.arg,⟨_,_,rfl,aU.arg,⟨_,_,rfl,cG.arg,⟨_,_,rfl,⟨rfl,a5.1,a5.2⟩,⟨_,_,rfl,⟨rfl,a6.1,a6.2⟩,⟨rfl,rfl⟩⟩⟩⟩⟩⟩⟩⟩) ?_)) a;rintro _ w50 ⟨v,rfl,i50,s⟩;refine⟨_,rfl,?_⟩
 replace a:=a.trans i50
 have gD:=i50.size;obtain⟨cH,fV,rfl,aD,aC⟩:=TW s;obtain rfl:=PV aC;have E:=Cb (t:=(.sl (.int .i64))) (x:=l) (fr:=true) aD;have dJ:Fa True w49.heap.size w50.heap.size w50 (.sl (.int .i64)) [cH] l:=RT.up E (fun _ h=>h rfl);refine D1 13 rfl (fun _ f=>D0 rfl) rfl (by kernel_rfl) (by kernel_rfl) (by kernel_rfl) ?_;refine D1 14 rfl (fun _ f=>D0 rfl) rfl (by kernel_rfl) (by kernel_rfl) (by kernel_rfl) ?_;refine D1 15 rfl (fun _ f=>D0 rfl) rfl (by kernel_rfl) (by kernel_rfl) (by kernel_rfl) ?_;refine D1 16 rfl (fun _ f=>D0 rfl) rfl (by kernel_rfl) (by kernel_rfl) (by kernel_rfl) ?_;refine D1 17 rfl (fun _ f=>D0 rfl) rfl (by kernel_rfl) (by kernel_rfl) (by kernel_rfl) ?_;refine MS (by kernel_rfl) ?_ a;refine nQ (l9 (ra ?_));refine pu ?_;refine pu ?_;have V:=((V.ext q).wo w fun i d b e=>by omega).ext (o.trans (r.trans (P.trans (T.trans (i47.trans (i48.trans (i49.trans i50)))))));refine cb Fu (x:=(l,l,())) aA ⟨_,_,rfl,dJ.arg,⟨_,_,rfl,V.arg,⟨rfl,rfl⟩⟩⟩ fun fY i51=>?_;have gQ:=i51.size;refine pu ?_;refine pu ?_;refine AE rfl rfl ?_;refine pu ?_;refine AE rfl rfl ?_;refine pu ?_;refine AE rfl rfl ?_;refine pu ?_;refine FI (bne_self_eq_false _) ?_;refine pu ?_;refine oN (nQ (Cc rfl ?_));refine D7 (nQ (ra ?_));refine pu ?_;refine rb ?_;refine pu ?_;refine pu ?_;have k:=k.ext (o.trans (r.trans (P.trans (T.trans (i47.trans (i48.trans (i49.trans (i50.trans i51))))))));refine ci o34 (x:=((AB 1 l.length),(1:Int),())) aP ⟨_,_,rfl,k.arg,⟨_,_,rfl,⟨rfl,by show lo .i64<=(1:Int); decide,by show(1:Int)<=hi .i64; decide⟩,⟨rfl,rfl⟩⟩⟩ fun hM i52=>?_;have hK:=i52.size;refine pu ?_;refine oN (nQ (l9 (ra ?_)));refine pu ?_;refine pu ?_;refine FI (decide_eq_false (by omega)) ?_;refine oN (nQ (Cc rfl ?_));refine D7 (nQ (l9 (ra ?_)));refine pu ?_;refine pu ?_;refine pu ?_;refine FI (bne_self_eq_false _) ?_;refine oN (nQ (Cc rfl ?_));refine D7 (nQ (ra ?_));refine pu ?_;refine oN (nQ (G7 ?_))
 (repeat refine V6 ?_)
 refine L7 Tryz.results6 rfl ?_;have W:=((((((((((w.ext ((i40.ext (i39.ext (i38.ext (i37.ext (((((((((((((((i22.ext (((((i17.ext ((((((((((((((((W.trans i1).trans i2).trans i3).trans i4).trans i5).trans i6).trans i7).trans i8).trans i9).trans i10).trans i11).trans i12).trans i13).trans i14).trans i15).trans i16) fun i h=>by omega).trans i18).trans i19).trans j).trans V5) fun i h=>by omega).trans i23).trans i24).trans i25).trans i26).trans i27).trans i28).trans i29).trans i30).trans i31).trans i32).trans i33).trans i34).trans i35).trans i36) fun i h=>by omega) fun i h=>by omega) fun i h=>by omega) fun i h=>by omega).trans q) fun i h=>by omega).trans o).trans r).trans P).trans T).trans i47).trans i48).trans i49).trans i50).trans i51).trans i52;exact⟨rfl,W⟩
end Go.Proofs.YtechodbafnmddaaGreatDoor
end
section
namespace Go.Proofs.Xd
open Go Go.Proofs.Xv Go.Proofs.Xl
abbrev DE:=List Int×List Int×List Int
abbrev F5:=Int×Int×Int×Int×List DE×List DE
abbrev O4:=ByteArray×Int×Int×Bool
abbrev F6:=ByteArray×Int×List Int
abbrev O5:=ByteArray×Int×Int
abbrev TY:=List Int×List Int×List Int×List Int
def j2(x l h:Int):Bool:=decide (l<=x)&&decide (x<=h)
theorem A4{x l h:Int}:j2 x l h=true↔l<=x/\x<=h:=by simp[j2]
def DG(xs:List Int):Bool:=!(List.range xs.length).any fun i=>decide (0<i)&&decide (xs.getD i 0<=xs.getD (i-1) 0)
def H5(xs:List Int):Bool:=decide (1<=xs.length)&&decide (xs.length<=4)&&xs.all (j2 · 0 100000)&&DG xs
def C5(t:DE):Bool:=H5 t.1&&H5 t.2.1&&decide (t.2.2.length=t.1.length*t.2.1.length)&&t.2.2.all (j2 · (-1000000) 1000000)
theorem CO{xs:List Int}(h:H5 xs=true):1<=xs.length/\xs.length<=4:=by
 simp only[H5,ba,dq] at h;exact⟨h.1.1.1,h.1.1.2⟩
theorem FJ{t:DE}(h:C5 t=true):1<=t.1.length/\t.1.length<=4/\1<=t.2.1.length/\t.2.1.length<=4/\t.2.2.length=t.1.length*t.2.1.length/\1<=t.2.2.length/\t.2.2.length<=16:=by
 simp only[C5,ba,dq] at h;obtain⟨⟨⟨g,f⟩,e⟩,_⟩:=h;obtain⟨a,c⟩:=CO g;obtain⟨b,d⟩:=CO f;have j:1*1<=t.1.length*t.2.1.length:=Nat.mul_le_mul a b;have i:t.1.length*t.2.1.length<=4*4:=Nat.mul_le_mul c d;exact⟨a,c,b,d,e,by omega,by omega⟩
def AF(xs:List Int):Int:=fN (fun i m=>min m (xs.getD (i+1) 0)) (xs.length-1) (xs.getD 0 0)
def H6(l:List DE)(p:Bool):Bool:=decide (l.length=2)&&l.all fun t=>C5 t&&!(p&&decide (AF t.2.2<0))
theorem Bs{b:Type}(l:List b)(p:b->Bool):(!l.any fun x=>!p x)=l.all p:=by
 induction l with
 | nil=>rfl
 | cons a r c=>simp only[List.any_cons,List.all_cons,Bool.not_or,Bool.not_not,c]
end Go.Proofs.Xd
end
section
namespace Go.Proofs.Xd
open Go Go.Proofs.Sv Go.Proofs.Xv Go.Proofs.Xl
theorem q0B(s:ByteArray):∀n,Bo s n=!(List.range n).any fun i=>!FG (F8 s i) i
 | 0=>rfl
 | n+1=>by
   rw[Bo,q0B s n,List.range_succ,List.any_append,Bool.not_or];simp
def P6(f:Nat->ByteArray)(i:Nat):Bool:=(List.range i).any fun k=>decide (f k=f i)
def C7(n:Nat)(f:Nat->ByteArray):Bool:=!(List.range n).any fun i=>!J4 (f i)||P6 f i
theorem n0f{n:Nat}{f g:Nat->ByteArray}(h:∀i,i<n->f i=g i):C7 n f=C7 n g:=by
 unfold C7;congr 1;refine MT fun i hi=>?_;rw[h i hi];congr 1;unfold P6;refine MT fun k a=>?_;rw[h i hi,h k (by omega)]
theorem w0W(l:List ByteArray)(d:ByteArray)(i:Nat)(h:i<l.length):((l.take i).any fun y=>decide (l.getD i d=y))=P6 (fun k=>l.getD k d) i:=by
 have b:(l.take i).length=i:=by rw[List.length_take]; omega
 rw[<- T8 (l.take i) d (fun y=>decide (l.getD i d=y)),b];unfold P6;refine MT fun k a=>?_;have:(l.take i).getD k d=l.getD k d:=by
  rw[gq,gq,List.getElem?_take_of_lt a]
 rw[this,decide_eq_decide];exact eq_comm
theorem v0h{a b:Type}(f:a->b)(l:List a)(i:Nat)(d:a)(e:b)(h:i<l.length):(l.map f).getD i e=f (l.getD i d):=by
 rw[gq,gq,List.getElem?_map,List.getElem?_eq_getElem h]; rfl
theorem u0m{a b:Type}(l:List a)(d:a)(f:a->b):(List.range l.length).map (fun i=>f (l.getD i d))=l.map f:=by
 apply List.ext_getElem?;intro i;rw[List.getElem?_map,List.getElem?_map];by_cases h:i<l.length
 ·rw[List.getElem?_range h,List.getElem?_eq_getElem h];show some (f (l.getD i d))=some (f l[i]);rw[gq,List.getElem?_eq_getElem h]; rfl
 ·rw[List.getElem?_eq_none (by simpa using h),List.getElem?_eq_none (by omega)]; rfl
def Cd(n:Nat)(q:O4)(i:Nat):Bool:=j2 q.2.2.1 0 500&&(if i+1=n then q.2.1==2&&q.2.2.1==0&&!q.2.2.2 else q.2.1==1)
def AG(n:Nat)(p:Nat->O4):Bool:=decide (2<=n)&&decide (n<=5)&&C7 n (fun i=>(p i).1)&&!(List.range n).any fun i=>!Cd n (p i) i
def J0(n:Nat)(p:Nat->O4):Int:=fN (fun i s=>if(p i).2.2.2=true then s+1 else s) n 0
def FK(n:Nat)(p:Nat->O4):Int:=match(List.range n).find? (fun i=>(p i).2.2.2) with | some i=>(i:Int) | none => -1
def IT(a:Nat->F5)(i:Nat):Bool:=(List.range i).any fun k=>(a k).1==(a i).1&&(a k).2.1==(a i).2.1&&(a k).2.2.1==(a i).2.2.1
def G8(n:Nat)(p:Nat->O4)(a:F5):Bool :=
 j2 a.2.1 0 ((n:Int)-1-1)&&j2 a.2.2.1 0 ((n:Int)-1) &&
 if a.1=1 then !(p a.2.1.toNat).2.2.2&&a.2.2.1==(n:Int)-1&&j2 a.2.2.2.1 1 3&&H6 a.2.2.2.2.1 true&&H6 a.2.2.2.2.2 true
 else if a.1=2∨a.1=3 then(p a.2.1.toNat).2.2.2&&a.2.2.1==(n:Int)-1&&a.2.2.2.1==0&&H6 a.2.2.2.2.1 true&&H6 a.2.2.2.2.2 true
 else if a.1=4∨a.1=5 then(p a.2.1.toNat).2.2.2&&decide (a.2.2.1 < (n:Int)-1)&&!(p a.2.2.1.toNat).2.2.2&&a.2.2.2.1==0&&H6 a.2.2.2.2.1 false&&(a.2.2.2.2.2.length:Int)==0
 else false
def DH(n:Nat)(p:Nat->O4)(a:F5):Bool :=
 if a.1=4∨a.1=5 then a.2.2.2.1==0&&(a.2.2.2.2.2.length:Int)==0&&H6 a.2.2.2.2.1 false&&a.2.1==FK n p&&decide (0<=a.2.1)&&j2 a.2.2.1 0 ((n:Int)-1-1)&&a.2.2.1 != a.2.1
 else H6 a.2.2.2.2.1 true&&H6 a.2.2.2.2.2 true&&a.2.2.1==(n:Int)-1&&j2 a.2.1 0 ((n:Int)-1-1) &&
  if a.1=1 then !(p a.2.1.toNat).2.2.2&&j2 a.2.2.2.1 1 3
  else if a.1=2∨a.1=3 then(p a.2.1.toNat).2.2.2&&a.2.2.2.1==0
  else false
theorem v0E(p:Nat->O4):∀n,0<=J0 n p/\J0 n p<=n
 | 0=>⟨Int.le_refl _,Int.le_refl _⟩
 | n+1=>by
   have:=v0E p n
   grind[J0,fN]
theorem r0c{p:Nat->O4}:∀{n i:Nat},i<n->(p i).2.2.2=true->1<=J0 n p
 | n+1,i,hi,h=>by
   have c:=(v0E p n).1;have b:i<n->1<=J0 n p:=fun a=>r0c a h;unfold J0 at *
   rw[fN]
   grind
theorem r0b{p:Nat->O4}:∀{n i j:Nat},i<j->j<n->(p i).2.2.2=true->(p j).2.2.2=true->2<=J0 n p
 | n+1,i,j,hij,hj,h,k=>by
   have b:j<n->2<=J0 n p:=fun a=>r0b hij a h k;have c:i<n->1<=J0 n p:=fun a=>r0c a h;unfold J0 at *
   rw[fN]
   grind
theorem D0A{p:Nat->O4}{n i:Nat}(d:J0 n p<=1)(hi:i<n):(p i).2.2.2=decide (FK n p=(i:Int)):=by
 unfold FK;cases h:(List.range n).find? (fun i=>(p i).2.2.2) with
 | none =>
   grind
 | some j =>
   have c:=List.find?_some h;have f:=List.mem_range.1 (List.mem_of_find?_eq_some h);show _=decide ((j:Int)=(i:Int));by_cases e:j=i
   ·grind
   ·rw[decide_eq_false (by omega),<- Bool.not_eq_true];intro b;rcases Nat.lt_or_gt_of_ne e with a | a
    ·have:=r0b (p:=p) a hi c b; omega
    simp_all
theorem D0z{p:Nat->O4}{n:Nat}:FK n p<n:=by
 grind[FK,List.range,List.mem_of_find?_eq_some]
theorem IU{p:Nat->O4}{n:Nat}(h:AG n p=true):2<=n/\n<=5/\(p (n-1)).2.2.2=false:=by
 grind[AG,Cd]
theorem TZ{p:Nat->O4}{n:Nat}(h:AG n p=true)(i:J0 n p<=1)(a:F5):DH n p a=G8 n p a:=by
 obtain⟨v,u,j⟩:=IU h;obtain⟨c,s,t,o,de,m⟩:=a;rw[Bool.eq_iff_iff];unfold DH G8;dsimp only;have f:∀x:Int,0<=x->x<=(n:Int)-1->(p x.toNat).2.2.2=decide (FK n p=x):=fun x q r=>by
  rw[D0A i (by omega)];rw[decide_eq_decide]; omega
 have g:FK n p≠(n:Int)-1:=fun e=>by
  have:=f ((n:Int)-1) (by omega) (by omega);have l:((n:Int)-1).toNat=n-1:=by omega
  rw[l,j,decide_eq_true e] at this;cases this
 have k:=D0z (p:=p) (n:=n);by_cases CF:c=4∨c=5
 ·rw[if_pos CF,if_neg (by omega),if_neg (by omega),if_pos CF];simp only[ba,A4,dq,beq_iff_eq,bne_iff_ne,Bool.not_eq_true']
  grind
 ·rw[if_neg CF];by_cases d:c=1
  ·rw[if_pos d,if_pos d];simp only[ba,A4,beq_iff_eq]
   grind
  ·rw[if_neg d,if_neg d];by_cases b:c=2∨c=3
   ·rw[if_pos b,if_pos b];simp only[ba,A4,beq_iff_eq]
    grind
   grind
def H0(m:Nat)(a:Nat->F5)(k:Int):Bool:=(List.range m).any fun i=>(a i).1==k
def IV(k:Int)(n:Nat)(p:Nat->O4)(m:Nat)(a:Nat->F5)(tr:List Int):Bool :=
 if k=1 then J0 n p==0&&(tr.length:Int)==1*2 ^ (n-1)&&tr.all (j2 · 0 1)
 else if k=2 then J0 n p==1&&(tr.length:Int)==0&&!H0 m a 1&&!(H0 m a 2==H0 m a 3)
 else if k=3 then J0 n p==1&&(tr.length:Int)==0&&H0 m a 1&&H0 m a 2&&!H0 m a 3
 else false
theorem x0N{k:Int}{n:Nat}{p:Nat->O4}{m:Nat}{a:Nat->F5}{b:List Int}(h:IV k n p m a b=true):J0 n p<=1:=by
 grind[IV]
def Ha(q:F5->Bool)(m:Nat)(a:Nat->F5):Bool:=decide (m<=8)&&!(List.range m).any fun i=>!q (a i)||IT a i
def V9(q:Nat->(Nat->O4)->F5->Bool)(nm:ByteArray)(k:Int)(n:Nat)(p:Nat->O4)(m:Nat)(a:Nat->F5)(tr:List Int)(lk en:Int):Bool :=
 J4 nm&&AG n p&&Ha (q n p) m a&&j2 lk 0 100000&&j2 en 0 100000&&IV k n p m a tr
theorem D0C(c:ByteArray)(k:Int)(n:Nat)(p:Nat->O4)(m:Nat)(a:Nat->F5)(b:List Int)(lk d:Int):V9 DH c k n p m a b lk d=V9 G8 c k n p m a b lk d:=by
 unfold V9;cases hp:AG n p with
 | false=>simp
 | true =>
   cases hk:IV k n p m a b with
   | false=>simp
   | true =>
     have:DH n p=G8 n p:=funext fun x=>TZ hp (x0N hk) x;rw[this]
theorem t0L{a:Type}(l:List a)(d:a)(q:a->Bool)(i:Nat)(h:i<=l.length):(l.take i).any q=(List.range i).any fun k=>q (l.getD k d):=by
 have c:(l.take i).length=i:=by rw[List.length_take]; omega
 rw[<- T8 (l.take i) d q,c];refine MT fun k b=>?_;rw[gq,gq,List.getElem?_take_of_lt b]
theorem n0O{n:Nat}{p:Nat->O4}{a:F5}(h:G8 n p a=true):1<=a.1/\a.1<=5:=by
 grind[G8]
theorem B0g{n:Nat}(h:n<=5) : -9223372036854775808<=(1:Int)*2 ^ (n-1)/\(1:Int)*2 ^ (n-1)<=9223372036854775807:=by
 have:∀k:Fin 6,-9223372036854775808<=(1:Int)*2 ^ (k.val-1)/\(1:Int)*2 ^ (k.val-1)<=9223372036854775807:=by decide
 exact this ⟨n,by omega⟩
def Hb(a:Nat->F5)(k:Int)(m:Nat):Int:=fN (fun i s=>if(a i).1=k then s+1 else s) m 0
theorem MU(a:Nat->F5)(k:Int):∀m,0<=Hb a k m/\Hb a k m<=m
 | 0=>⟨Int.le_refl _,Int.le_refl _⟩
 | m+1=>by
   have:=MU a k m
   grind[Hb,fN]
theorem IW(a:Nat->F5)(k:Int):∀m,H0 m a k=decide (0<Hb a k m)
 | 0=>rfl
 | m+1=>by
   have b:=IW a k m;have c:=(MU a k m).1
   grind[H0,Hb,fN]
def Hc(a:Nat->F5)(i:Nat)(v:List Int):List Int:=v.set (a i).1.toNat (v.getD (a i).1.toNat 0+1)
theorem Ua(a:Nat->F5):∀m,(∀i,i<m->1<=(a i).1/\(a i).1<=5)->(fN (Hc a) m (List.replicate 6 0)).length=6/\∀k:Nat,k<6->(fN (Hc a) m (List.replicate 6 0)).getD k 0=Hb a k m
 | 0,_=>⟨by simp[fN],fun k b=>by
   have:∀k:Fin 6,(List.replicate 6 (0:Int)).getD k.val 0=0:=by decide
   exact this ⟨k,b⟩⟩
 | m+1,h=>by
   obtain⟨d,c⟩:=Ua a m (fun i hi=>h i (by omega))
   grind[fN,Hc,Hb]
def Ce(v:List Int)(x:Int):List Int:=v.set x.toNat (v.getD x.toNat 0+1)
def Ah(v:List Int)(n b:Nat):Prop:=v.length=n/\∀k:Nat,0<=v.getD k 0/\v.getD k 0<=(b:Int)
theorem PW(n b:Nat):Ah (List.replicate n 0) n b:=by
 refine⟨List.length_replicate,fun k=>?_⟩;rw[gq,List.getElem?_replicate];split <;> (show(0:Int)<=0/\(0:Int)<=b; omega)
theorem IX{v:List Int}{n b:Nat}(h:Ah v n b)(x:Int):Ah (Ce v x) n (b+1):=by
 refine⟨by unfold Ce; rw[List.length_set]; exact h.1,fun k=>?_⟩;have c:=h.2 x.toNat;have a:=h.2 k;unfold Ce;rw[gq,List.getElem?_set];by_cases e:x.toNat=k
 ·rw[if_pos e];split
  ·rw[Option.getD_some]; omega
  ·show(0:Int)<=0/\(0:Int)<=_; omega
 ·rw[if_neg e,<- gq]; omega
theorem Ub{v:List Int}{n b a:Nat}(h:Ah v n b)(c:b<=a):Ah v n a:=⟨h.1,fun k=>by have:=h.2 k; omega⟩
theorem x0I{v:List Int}{n b:Nat}(h:Ah v n b){x:Int}(a:j2 x 0 ((n:Int)-1)=true):ix x v.length/\x.toNat<v.length:=by
 rw[A4] at a;rw[ix,h.1];omega
def CP(n:Nat)(ok:Nat->Bool)(nm:Nat->ByteArray):Bool:=!((List.range n).any fun i=>!ok i||P6 nm i)&&decide (n<=8)
theorem H0C{n:Nat}{b:Nat->Bool}{a:Nat->ByteArray}(h:∀i,i<n->b i=true->J4 (a i)=true):(if((List.range n).any fun i=>!b i)=true then false else decide (n<=8)&&C7 n a)=CP n b a:=by
 unfold CP C7;have e:((List.range n).any fun i=>!b i||P6 a i)=(((List.range n).any fun i=>!b i)||(List.range n).any fun i=>P6 a i):=PX _ _;rw[e];cases ha:(List.range n).any fun i=>!b i with
 | true=>rfl
 | false =>
   have d:=(Cf (n:=n) (c:=fun i=>!b i)).1 (by rw[ha]; rfl);have:((List.range n).any fun i=>!J4 (a i)||P6 a i)=(List.range n).any fun i=>P6 a i:=MT fun i hi=>by
    have:=d i hi;rw[Bool.not_eq_false'] at this;rw[h i hi this]; rfl
   rw[this,if_neg (by simp),Bool.false_or,Bool.and_comm]
def R4(nc:Nat)(O6:Int->Nat)(nn:Nat)(x:F6):Bool:=j2 x.2.1 0 ((nc:Int)-1)&&(x.2.2.length:Int)==(O6 x.2.1:Int)&&x.2.2.all fun y=>j2 y 0 ((nn:Int)-1)
def R5(nn:Nat)(x:O5):Bool:=j2 x.2.1 1 2&&j2 x.2.2 0 ((nn:Int)-1)
def T9(x:Nat->F6)(i:Nat)(v:List Int):List Int:=Ce v ((x i).2.2.getD ((x i).2.2.length-1) 0)
def N6(x:Nat->O5)(i:Nat)(v:List Int):List Int:=if(x i).2.1=1 then Ce v (x i).2.2 else v
def FL(ni np nn:Nat)(x:Nat->F6)(y:Nat->O5):List Int:=fN (N6 y) np (fN (T9 x) ni (List.replicate nn 0))
theorem Uc(x:Nat->F6)(a:Nat):∀i,Ah (fN (T9 x) i (List.replicate a 0)) a i
 | 0=>PW a 0
 | i+1=>IX (Uc x a i) _
def CQ(lib:Bool)(nc:Nat)(O6:Int->Nat)(ni np nn:Nat)(x:Nat->F6)(y:Nat->O5)(nets:Nat->ByteArray):Bool :=
 lib&&decide (ni<=14)&&decide (nn<=30)&&decide (np<=8)&&C7 ni (fun i=>(x i).1)&&C7 nn nets&&C7 np (fun i=>(y i).1) &&
  !((List.range ni).any fun i=>!R4 nc O6 nn (x i))&&!((List.range np).any fun i=>!R5 nn (y i))&&(FL ni np nn x y).all (·==1)
def Bt(w:TY)(n:Int):Bool :=
 decide (1<=w.1.length)&&decide (w.1.length<=8)&&decide (w.2.1.length=w.1.length)&&decide (w.2.2.1.length=w.1.length)&&(w.2.2.2.length:Int)==n &&
  w.2.1.all (j2 · 0 1000)&&w.2.2.1.all (j2 · 0 500)&&w.2.2.2.all (j2 · 0 ((w.1.length:Int)-1)) &&
  !(List.range w.1.length).any fun i=>(i==0&&(w.1.getD i 0 != -1||w.2.1.getD 0 0 != 0))||(decide (0<i)&&!j2 (w.1.getD i 0) 0 ((i:Int)-1))
abbrev B3:=Int×Int×Int×Bool
def U0(x:F6)(i:Int)(k:Nat)(s:List B3):List B3:=s++[(i,(k:Int),x.2.2.getD k 0,(k:Int)==(x.2.2.length:Int)-1)]
def Q5(y:Nat->O5)(i:Nat)(s:List B3):List B3:=s++[(-1,(i:Int),(y i).2.2,(y i).2.1==1)]
def P7(x:Nat->F6)(i:Nat)(s:List B3):List B3:=fN (U0 (x i) i) (x i).2.2.length s
def O7(ni np:Nat)(x:Nat->F6)(y:Nat->O5):List B3:=fN (Q5 y) np (fN (P7 x) ni [])
theorem Hd(x:F6)(i:Int)(s:List B3):∀k,(fN (U0 x i) k s).length=s.length+k
 | 0=>rfl
 | k+1=>by
   rw[fN,U0,List.length_append,Hd x i s k]; rfl
theorem MV(y:Nat->O5)(s:List B3):∀k,(fN (Q5 y) k s).length=s.length+k
 | 0=>rfl
 | k+1=>by
   rw[fN,Q5,List.length_append,MV y s k]; rfl
def DI(pl:Nat->B3)(i:Nat)(v:List Int):List Int:=if(pl i).2.2.2=false then Ce v (pl i).2.2.1 else v
def y9(pl:Nat->B3)(t:Int)(m:Nat):Int:=fN (fun i s=>if((pl i).2.2.1==t&&!(pl i).2.2.2)=true then s+1 else s) m 0
theorem K3(pl:Nat->B3)(t:Int):∀m,0<=y9 pl t m/\y9 pl t m<=m
 | 0=>⟨Int.le_refl _,Int.le_refl _⟩
 | m+1=>by
   have:=K3 pl t m;unfold y9 at *
   rw[fN];split <;> omega
theorem m0K(pl:Nat->B3)(n:Nat):∀m,(∀i,i<m->j2 (pl i).2.2.1 0 ((n:Int)-1)=true)->(fN (DI pl) m (List.replicate n 0)).length=n/\∀k:Nat,k<n->(fN (DI pl) m (List.replicate n 0)).getD k 0=y9 pl k m
 | 0,_=>⟨by simp[fN],fun k b=>by
   show(List.replicate n (0:Int)).getD k 0=0;rw[gq,List.getElem?_replicate,if_pos b]; rfl⟩
 | m+1,h=>by
   obtain⟨d,c⟩:=m0K pl n m (fun i hi=>h i (by omega));have f:=A4.1 (h m (by omega));rw[fN];generalize fN (DI pl) m (List.replicate n 0)=v at *
   unfold DI;have e:∀k:Nat,y9 pl k (m+1)=if((pl m).2.2.1==(k:Int)&&!(pl m).2.2.2)=true then y9 pl k m+1 else y9 pl k m:=fun k=>by unfold y9; rw[fN]
   cases hd:(pl m).2.2.2 with
   | true =>
     refine⟨by rw[if_neg (by simp)]; exact d,fun k b=>?_⟩;rw[if_neg (by simp),c k b,e,hd,if_neg (by simp)]
   | false =>
     rw[if_pos rfl];unfold Ce;refine⟨by rw[List.length_set]; exact d,fun k b=>?_⟩;rw[e,hd,gq,List.getElem?_set];by_cases a:(pl m).2.2.1.toNat=k
     ·rw[if_pos a,if_pos (by rw[d]; omega),if_pos (by simp; omega),Option.getD_some,a,c k b]
     ·rw[if_neg a,if_neg (by simp; omega),<- gq,c k b]
def O8(pl:Nat->B3)(t:Int)(i:Nat)(s:List Int):List Int:=if((pl i).2.2.1==t&&!(pl i).2.2.2)=true then s++[(i:Int)] else s
theorem MW(pl:Nat->B3)(t:Int):∀m,((fN (O8 pl t) m []).length:Int)=y9 pl t m
 | 0=>rfl
 | m+1=>by
   have:=MW pl t m;rw[fN];unfold y9 at *
   rw[fN];unfold O8 at *
   split
   ·rw[List.length_append];show((_+1:Nat):Int)=_;omega
   ·exact this
def IY(n:Nat)(s:List B3):Prop:=∀p∈s,j2 p.2.2.1 0 ((n:Int)-1)=true
theorem q0N{n:Nat}{x:F6}{i:Int}(b:∀k,k<x.2.2.length->j2 (x.2.2.getD k 0) 0 ((n:Int)-1)=true){s:List B3}(a:IY n s):∀k,k<=x.2.2.length->IY n (fN (U0 x i) k s)
 | 0,_=>a
 | k+1,hk=>by
   rw[fN,U0];intro p c;rcases List.mem_append.1 c with h | h
   ·exact q0N b a k (by omega) p h
   ·cases List.mem_singleton.1 h;exact b k (by omega)
theorem k0A{n:Nat}{x:Nat->F6}{ni:Nat}(a:∀i,i<ni->∀k,k < (x i).2.2.length->j2 ((x i).2.2.getD k 0) 0 ((n:Int)-1)=true):∀i,i<=ni->IY n (fN (P7 x) i [])
 | 0,_=>fun p b=>by cases b
 | i+1,hi=>by
   rw[fN,P7];exact q0N (a i (by omega)) (k0A a i (by omega)) _ (Nat.le_refl _)
theorem q0l{n:Nat}{y:Nat->O5}{np:Nat}(a:∀i,i<np->j2 (y i).2.2 0 ((n:Int)-1)=true){s:List B3}(b:IY n s):∀k,k<=np->IY n (fN (Q5 y) k s)
 | 0,_=>b
 | k+1,hk=>by
   rw[fN,Q5];intro p c;rcases List.mem_append.1 c with h | h
   ·exact q0l a b k (by omega) p h
   ·cases List.mem_singleton.1 h;exact a k (by omega)
theorem PY{x:Nat->F6}{ni:Nat}(a:∀i,i<ni->(x i).2.2.length<=5):∀i,i<=ni->(fN (P7 x) i []).length<=5*i
 | 0,_=>Nat.le_refl _
 | i+1,hi=>by
   rw[fN,P7,Hd];have:=PY a i (by omega);have:=a i (by omega);omega
theorem K7{a:Type}{l:List a}{i:Nat}{d:a}(h:i<l.length):l.getD i d∈l:=by
 rw[gq,List.getElem?_eq_getElem h];exact List.getElem_mem h
theorem IZ{l:List Int}{p:Int->Bool}(h:l.all p=true){i:Nat}(hi:i<l.length):p (l.getD i 0)=true:=List.all_eq_true.1 h _ (K7 hi)
structure DesignFacts(nc:Nat)(O6:Int->Nat)(ni np nn:Nat)(x:Nat->F6)(y:Nat->O5):Prop where
 ni14:ni<=14
 np8:np<=8
 nn30:nn<=30
 inst:∀i,i<ni->R4 nc O6 nn (x i)=true
 port:∀i,i<np->R5 nn (y i)=true
theorem n0C{b:Bool}{c:Nat}{O6:Int->Nat}{ni np d:Nat}{x:Nat->F6}{y:Nat->O5}{a:Nat->ByteArray}(h:CQ b c O6 ni np d x y a=true):b=true/\DesignFacts c O6 ni np d x y:=by
 unfold CQ at h;simp only[ba,dq] at h;obtain⟨⟨⟨⟨⟨⟨⟨⟨⟨j,f⟩,g⟩,l⟩,_⟩,_⟩,_⟩,k⟩,e⟩,_⟩:=h;refine⟨j,f,l,g,fun i hi=>?_,fun i hi=>?_⟩
 ·have:=Cf.1 k i hi
  rwa [Bool.not_eq_false'] at this
 ·have:=Cf.1 e i hi
  rwa [Bool.not_eq_false'] at this
theorem DesignFacts.net{b:Nat}{O6:Int->Nat}{ni np a:Nat}{x:Nat->F6}{y:Nat->O5}(h:DesignFacts b O6 ni np a x y):(∀i,i<ni->∀k,k < (x i).2.2.length->j2 ((x i).2.2.getD k 0) 0 ((a:Int)-1)=true)/\∀i,i<np->j2 (y i).2.2 0 ((a:Int)-1)=true:=by
 refine⟨fun i hi k c=>?_,fun i hi=>?_⟩
 ·have:=h.inst i hi;unfold R4 at this;rw[ba] at this;exact IZ (p:=fun y=>j2 y 0 ((a:Int)-1)) this.2 c
 ·have:=h.port i hi;unfold R5 at this;rw[ba] at this;exact this.2
end Go.Proofs.Xd
end
section
namespace Go.Proofs.Xd
open Go Go.Proofs Go.Proofs.Xl
def FM(v:List Int)(i:Nat)(x:Int):List Int:=v.set i (v.getD i 0+x)
theorem n0U{v:List Int}{i:Nat}{x:Int}:(FM v i x).length=v.length:=by grind[FM]
theorem PZ{v:List Int}{i j:Nat}{x:Int}(hi:i<v.length):(FM v i x).getD j 0=if j=i then v.getD i 0+x else v.getD j 0:=by
 grind[FM]
def Ai(v:List Int)(k:Nat):Int:=fN (fun i s=>s+v.getD i 0) k 0
theorem Ja(v:List Int)(k:Nat):Ai v (k+1)=Ai v k+v.getD k 0:=rfl
theorem Ud{v:List Int}{i:Nat}{x:Int}(hi:i<v.length):∀k,Ai (FM v i x) k=Ai v k+if i<k then x else 0
 | 0=>by simp[Ai,fN]
 | k+1=>by
   rw[Ja,Ja,Ud hi k,PZ hi];by_cases h:k=i
   ·subst h; simp; omega
   ·rw[if_neg h];by_cases a:i<k
    ·rw[if_pos a,if_pos (by omega)]; omega
    ·rw[if_neg a,if_neg (by omega)]; omega
theorem m0D{v:List Int}(a:∀j,0<=v.getD j 0):∀k,0<=Ai v k
 | 0=>by simp[Ai,fN]
 | k+1=>by have:=m0D a k; grind[Ja]
theorem Ue{v:List Int}(a:∀j,0<=v.getD j 0):∀{k j:Nat},j<k->v.getD j 0<=Ai v k
 | k+1,j,h=>by
   rw[Ja];have c:=m0D a k;have b:=a k;by_cases e:j=k
   ·grind
   ·have:=Ue a (k:=k) (j:=j) (by omega); omega
structure Low(v:List Int)(n:Nat)(S:Int):Prop where
 len:v.length=n
 pos:∀j,0<=v.getD j 0
 sum:Ai v n<=S
theorem p0W{v:List Int}{c:Int}(a:∀j,v.getD j 0<=c):∀k:Nat,Ai v k<=c*(k:Int)
 | 0=>by simp[Ai,fN]
 | k+1=>by
   have:=p0W a k
   grind[Ja,Int.natCast_add,Int.mul_add]
theorem C0T{v:List Int}{n:Nat}(b:v.length=n)(h:v.all (j2 · 0 500)=true):Low v n (500*(n:Int)):=by
 have a:∀j,0<=v.getD j 0/\v.getD j 0<=500:=fun j=>by
  grind[Nat.lt_or_ge,A4,IZ,j2,List.getElem?_eq_none]
 exact⟨b,fun j=>(a j).1,p0W (fun j=>(a j).2) n⟩
theorem Low.bd{v:List Int}{n:Nat}{S:Int}(h:Low v n S)(b:0<=S)(j:Nat):0<=v.getD j 0/\v.getD j 0<=S:=by
 refine⟨h.pos j,?_⟩;rcases Nat.lt_or_ge j n with a | a
 ·exact Int.le_trans (Ue h.pos a) h.sum
 ·rw[gq,List.getElem?_eq_none (by rw[h.len]; exact a)]; exact b
theorem Low.add{v:List Int}{n:Nat}{S:Int}(h:Low v n S){i:Nat}(hi:i<n){x:Int}(b:0<=x):Low (FM v i x) n (S+x):=by
 have a:i<v.length:=by rw[h.len]; exact hi
 refine⟨by rw[n0U]; exact h.len,fun j=>?_,?_⟩
 ·rw[PZ a];have:=h.pos i;have:=h.pos j;omega
 ·rw[Ud a,if_pos hi]; have:=h.sum; omega
def Cg(s c:Nat->Int)(i:Nat)(v:List Int):List Int:=FM v (s i).toNat (c i)
theorem r0e{s c:Nat->Int}{v:List Int}{n:Nat}{S:Int}(h:Low v n S):∀m,(∀i,i<m->0<=s i/\(s i).toNat<n/\0<=c i/\c i<=500)->Low (fN (Cg s c) m v) n (S+500*(m:Int))
 | 0,_=>⟨h.len,h.pos,by have:=h.sum; show Ai v n<=_; omega⟩
 | m+1,hm=>by
   have a:=r0e h m (fun i hi=>hm i (by omega));obtain⟨f,d,b,e⟩:=hm m (by omega);have:=a.add d b;refine⟨this.len,this.pos,?_⟩;have:=this.sum;rw[Int.natCast_add,Int.mul_add];refine Int.le_trans this ?_;omega
def W2(P:Nat->Int)(n k:Nat)(v:List Int):List Int:=FM v (P (n-1-k)).toNat (v.getD (n-1-k) 0)
structure Jb(v:List Int)(n k:Nat)(S:Int):Prop where
 len:v.length=n
 pos:∀j,0<=v.getD j 0
 bd:∀j,v.getD j 0<=S
 sum:Ai v (n-k)<=S
theorem Uf{P:Nat->Int}{v:List Int}{n k:Nat}{S:Int}(h:Jb v n k S)(_:k<n-1)(f:0<=P (n-1-k)/\(P (n-1-k)).toNat<n-1-k):Jb (W2 P n k v) n (k+1) S:=by
 have b:(P (n-1-k)).toNat<v.length:=by rw[h.len]; omega
 have a:∀j,0<=(W2 P n k v).getD j 0:=fun j=>by
  unfold W2;rw[PZ b];have:=h.pos (P (n-1-k)).toNat;have:=h.pos (n-1-k);have:=h.pos j;omega
 have d:Ai (W2 P n k v) (n-(k+1))<=S:=by
  unfold W2;have e:n-(k+1)=n-1-k:=by omega
  rw[Ud b,e,if_pos f.2];have:=h.sum;rw[show n-k=(n-1-k)+1 by omega,Ja] at this;exact this
 refine⟨by unfold W2; rw[n0U]; exact h.len,a,fun j=>?_,d⟩;by_cases e:j=(P (n-1-k)).toNat
 ·have c:j<n-(k+1):=by omega
  exact Int.le_trans (Ue a c) d
 ·unfold W2;rw[PZ b,if_neg e];exact h.bd j
theorem m0S{P:Nat->Int}{v:List Int}{n:Nat}{S:Int}(h:Low v n S)(b:0<=S)(a:∀i,0<i->i<n->0<=P i/\(P i).toNat<i):∀k,k<=n-1->Jb (fN (W2 P n) k v) n k S
 | 0,_=>⟨h.len,h.pos,fun j=>(h.bd b j).2,h.sum⟩
 | k+1,hk=>Uf (m0S h b a k (by omega)) (by omega) (a _ (by omega) (by omega))
def H0A(cap:List Int)(n m:Nat)(s c P:Nat->Int):List Int:=fN (W2 P n) (n-1) (fN (Cg s c) m cap)
theorem Jc{a:Type}{l r:List a}{d:a}{i:Nat}(h:i<l.length):(l++r).getD i d=l.getD i d:=by
 grind
theorem Ug{a:Type}{l r:List a}{d:a}{i:Nat}(h:l.length<=i):(l++r).getD i d=r.getD (i-l.length) d:=by
 grind
def R6(P R L:Nat->Int)(k:Nat)(s:List Int):List Int:=s++[s.getD (P (k+1)).toNat 0+R (k+1)*L (k+1)]
def D0s(n:Nat)(P R L:Nat->Int):List Int:=fN (R6 P R L) (n-1) [0]
theorem MX{a b A B:Int}(d:0<=a)(c:a<=A)(e:0<=b)(f:b<=B):0<=a*b/\a*b<=A*B :=
 ⟨Int.mul_nonneg d e,Int.mul_le_mul c f e (Int.le_trans d c)⟩
theorem v0w{P R L:Nat->Int}{n:Nat}{S:Int}(a:∀i,i<n->0<=R i/\R i<=1000)(b:∀i,i<n->0<=L i/\L i<=S)(f:0<=S):∀k,k<=n-1->(fN (R6 P R L) k [0]).length=k+1/\∀j,0<=(fN (R6 P R L) k [0]).getD j 0/\(fN (R6 P R L) k [0]).getD j 0<=1000*S*(k:Int)
 | 0,_=>⟨rfl,fun j=>by
   grind[fN]⟩
 | k+1,hk=>by
   obtain⟨d,g⟩:=v0w a b f k (by omega);have l:=MX (a (k+1) (by omega)).1 (a (k+1) (by omega)).2 (b (k+1) (by omega)).1 (b (k+1) (by omega)).2;have h:0<=1000*S*(k:Int):=Int.mul_nonneg (by omega) (by omega);have e:1000*S*((k+1:Nat):Int)=1000*S*(k:Int)+1000*S:=by rw[Int.natCast_add,Int.mul_add]; simp
   have c:fN (R6 P R L) (k+1) [0]=R6 P R L k (fN (R6 P R L) k [0]):=rfl;rw[c];generalize fN (R6 P R L) k [0]=s at d g
   grind[R6,List.length_append,Nat.lt_or_ge,Jc,Ug,List.getD_cons_zero,List.getD_cons_succ,List.getD_nil]
theorem y0n{s:List Int}{k n:Nat}{x:Int}(a:s.length=k+1)(b:k+1<n):(s++List.replicate (n-1-k) 0).set (k+1) x=(s++[x])++List.replicate (n-1-(k+1)) 0:=by
 have e:n-1-k=(n-1-(k+1))+1:=by omega
 rw[e,List.replicate_succ,List.set_append_right _ _ (by omega),a,Nat.sub_self,List.set_cons_zero,List.append_assoc];rfl
theorem y0o{s:List Int}{k n p:Nat}(b:s.length=k+1)(a:p<k+1):(s++List.replicate (n-1-k) 0).getD p 0=s.getD p 0:=Jc (by omega)
def He(D:List Int)(S:Nat->Int)(i:Nat)(s:List Int):List Int:=s++[D.getD (S i).toNat 0]
theorem Uh(D:List Int)(S:Nat->Int):∀i,(fN (He D S) i []).length=i
 | 0=>rfl
 | i+1=>by
   have:=Uh D S i
   grind[He,fN,List.length_append]
theorem v0q(D:List Int)(S:Nat->Int):∀n i,i<n->(fN (He D S) n []).getD i 0=D.getD (S i).toNat 0
 | n+1,i,h=>by
   have b:=Uh D S n;have a:=v0q D S n i
   grind[He,fN]
def Jd(ni np:Nat)(x:Nat->F6)(p:B3):Prop:=(p.1 = -1/\0<=p.2.1/\p.2.1.toNat<np)∨(0<=p.1/\p.1.toNat<ni/\0<=p.2.1/\p.2.1.toNat < (x p.1.toNat).2.2.length)
theorem k0H{ni np:Nat}{x:Nat->F6}{i:Nat}(hi:i<ni){s:List B3}(b:∀p∈s,Jd ni np x p):∀k,k<=(x i).2.2.length->∀p∈fN (U0 (x i) i) k s,Jd ni np x p
 | 0,_=>b
 | k+1,hk=>fun p a=>by
   have a:p∈U0 (x i) i k (fN (U0 (x i) i) k s):=a;unfold U0 at a;rcases List.mem_append.1 a with a | a
   ·exact k0H hi b k (by omega) p a
   ·cases List.mem_singleton.1 a;exact .inr ⟨Int.natCast_nonneg _,by omega,Int.natCast_nonneg _,by grind⟩
theorem h0o{ni np:Nat}{x:Nat->F6}:∀i,i<=ni->∀p∈fN (P7 x) i [],Jd ni np x p
 | 0,_=>fun p a=>by cases a
 | i+1,hi=>k0H (by omega) (h0o i (by omega)) _ (Nat.le_refl _)
theorem k0z{ni np:Nat}{x:Nat->F6}{y:Nat->O5}{s:List B3}(b:∀p∈s,Jd ni np x p):∀k,k<=np->∀p∈fN (Q5 y) k s,Jd ni np x p
 | 0,_=>b
 | k+1,hk=>fun p a=>by
   have a:p∈Q5 y k (fN (Q5 y) k s):=a;unfold Q5 at a;rcases List.mem_append.1 a with a | a
   ·exact k0z b k (by omega) p a
   ·cases List.mem_singleton.1 a;exact .inl ⟨rfl,Int.natCast_nonneg _,by grind⟩
theorem o0D(ni np:Nat)(x:Nat->F6)(y:Nat->O5):∀p∈O7 ni np x y,Jd ni np x p:=k0z (h0o ni (Nat.le_refl _)) np (Nat.le_refl _)
theorem Qa(pl:Nat->B3)(t:Int):∀m,∀x∈fN (O8 pl t) m [],∃j:Nat,x=(j:Int)/\j<m/\(pl j).2.2.1=t/\(pl j).2.2.2=false
 | 0,x,h=>by cases h
 | m+1,x,h=>by
   have a:=Qa pl t m x;have h:x∈O8 pl t m (fN (O8 pl t) m []):=h;generalize fN (O8 pl t) m []=s at a h;unfold O8 at h;split at h
   ·rename_i d;rw[ba,beq_iff_eq,Bool.not_eq_true'] at d;rcases List.mem_append.1 h with h | h
    ·obtain⟨j,c,e,b⟩:=a h;exact⟨j,c,by omega,b⟩
    ·cases List.mem_singleton.1 h;exact⟨m,rfl,by omega,d⟩
   ·obtain⟨j,c,e,b⟩:=a h;exact⟨j,c,by omega,b⟩
structure n0W(w:TY)(n:Int):Prop where
 n1:1<=w.1.length
 n8:w.1.length<=8
 res:w.2.1.length=w.1.length
 cap:w.2.2.1.length=w.1.length
 snk:(w.2.2.2.length:Int)=n
 resIn:∀i,i<w.1.length->0<=w.2.1.getD i 0/\w.2.1.getD i 0<=1000
 capOk:w.2.2.1.all (j2 · 0 500)=true
 snkIn:∀i,i<w.2.2.2.length->0<=w.2.2.2.getD i 0/\(w.2.2.2.getD i 0).toNat<w.1.length
 par:∀i,0<i->i<w.1.length->0<=w.1.getD i 0/\(w.1.getD i 0).toNat<i
theorem r0s{w:TY}{n:Int}(h:Bt w n=true):n0W w n:=by
 unfold Bt at h;simp only[ba,dq,beq_iff_eq] at h;obtain⟨⟨⟨⟨⟨⟨⟨⟨e,c⟩,d⟩,l⟩,k⟩,b⟩,f⟩,j⟩,g⟩:=h;refine⟨e,c,d,l,k,fun i hi=>?_,f,fun i hi=>?_,fun i m hi=>?_⟩
 ·exact A4.1 (IZ (p:=fun x=>j2 x 0 1000) b (by omega))
 ·have:=A4.1 (IZ (p:=fun x=>j2 x 0 ((w.1.length:Int)-1)) j hi);omega
 ·have:=Cf.1 g i hi;rw[Bool.or_eq_false_iff] at this;have a:=this.2;rw[Bool.and_eq_false_iff,decide_eq_false_iff_not,Bool.not_eq_false',A4] at a;rcases a with h | h
  ·omega
  ·omega
abbrev u0:=Int×Int×Int×Int
def J7(k s:Int):List (Int×Int):=if(k==2)=true then [(0,0),(0,1)] else if(k==3)=true then [(1,0),(1,1)] else if(k != 1)=true then [] else if(s==1)=true then [(0,0),(1,1)] else if(s==2)=true then [(0,1),(1,0)] else [(0,0),(0,1),(1,0),(1,1)]
theorem Qb(k s:Int):(J7 k s).length<=4/\∀t∈J7 k s,0<=t.1/\t.1<=1/\0<=t.2/\t.2<=1:=by
 unfold J7;split
 ·grind
 split
 ·grind
 split
 ·grind
 grind
def Aj(f a b x:Int)(tr:List (Int×Int))(k:Nat)(s:List u0):List u0:=s++[(2*(f+a)+(tr.getD k (0,0)).1,2*(f+b)+(tr.getD k (0,0)).2,1,x)]
theorem k0T(f a b x:Int)(c:List (Int×Int))(s:List u0):∀k,(fN (Aj f a b x c) k s).length=s.length+k
 | 0=>rfl
 | k+1=>by
   have:=k0T f a b x c s k
   grind[Aj,fN,List.length_append]
def R7(f:Int)(arcs:Nat->F5)(j:Nat)(s:List u0):List u0:=fN (Aj f (arcs j).2.1 (arcs j).2.2.1 (j:Int) (J7 (arcs j).1 (arcs j).2.2.2.1)) (J7 (arcs j).1 (arcs j).2.2.2.1).length s
theorem Ui(f:Int)(a:Nat->F5)(j:Nat)(s:List u0):(R7 f a j s).length<=s.length+4:=by
 grind[R7,k0T,Qb]
def AH(f:Int)(arcs:Nat->F5)(m:Nat):List u0:=fN (R7 f arcs) m []
theorem MY(f:Int)(a:Nat->F5):∀m,(AH f a m).length<=4*m
 | 0=>Nat.le_refl _
 | m+1=>by
   have c:=MY f a m;have b:=Ui f a m (AH f a m);show(R7 f a m (AH f a m)).length<=_;omega
def W3(nets:Nat->Nat)(arcs:Nat->Nat->F5)(ms:Nat->Nat)(i:Nat)(s:Int×List u0):Int×List u0:=(s.1+(nets i:Int),s.2++AH s.1 (arcs i) (ms i))
theorem n0o{a:Nat->Nat}{b:Nat->Nat->F5}{ms:Nat->Nat}{n:Nat}(h:∀i,i<n->a i<=5/\ms i<=8):∀m,m<=n->0<=(fN (W3 a b ms) m (0,[])).1/\(fN (W3 a b ms) m (0,[])).1<=5*(m:Int)/\(fN (W3 a b ms) m (0,[])).2.length<=32*m
 | 0,_=>⟨Int.le_refl _,Int.le_refl _,Nat.le_refl _⟩
 | m+1,hm=>by
   obtain⟨e,d,c⟩:=n0o h m (by omega);obtain⟨f,g⟩:=h m (by omega);show 0<=(W3 a b ms m (fN (W3 a b ms) m (0,[]))).1/\(W3 a b ms m (fN (W3 a b ms) m (0,[]))).1<=_/\(W3 a b ms m (fN (W3 a b ms) m (0,[]))).2.length<=_;generalize fN (W3 a b ms) m (0,[])=z at e d c
   grind[W3,MY,AH,List.length_append]
def Y1(pl:Nat->B3)(i:Nat)(s:List (List Int)×List Int):List (List Int)×List Int:=if(pl i).2.2.2=true then(s.1,s.2.set (pl i).2.2.1.toNat (i:Int)) else(s.1.set (pl i).2.2.1.toNat (s.1.getD (pl i).2.2.1.toNat []++[(i:Int)]),s.2)
def U1(pl:Nat->B3)(t:Int)(m:Nat):Int:=fN (fun i s=>if((pl i).2.2.1==t&&(pl i).2.2.2)=true then(i:Int) else s) m 0
theorem Uj(pl:Nat->B3)(t:Int):∀m,0<=U1 pl t m/\U1 pl t m<=m
 | 0=>⟨Int.le_refl _,Int.le_refl _⟩
 | m+1=>by
   have:=Uj pl t m;have e:U1 pl t (m+1)=if((pl m).2.2.1==t&&(pl m).2.2.2)=true then(m:Int) else U1 pl t m:=rfl
   omega
theorem k0u(pl:Nat->B3)(t:Int)(m:Nat):fN (O8 pl t) (m+1) []=if((pl m).2.2.1==t&&!(pl m).2.2.2)=true then fN (O8 pl t) m []++[(m:Int)] else fN (O8 pl t) m []:=rfl
theorem Uk{a:Type}{l:List a}{i j:Nat}{x d:a}(hi:i<l.length):(l.set i x).getD j d=if j=i then x else l.getD j d:=by
 grind
theorem n0r(pl:Nat->B3)(n:Nat):∀m,(∀i,i<m->j2 (pl i).2.2.1 0 ((n:Int)-1)=true)->(fN (Y1 pl) m (List.replicate n [],List.replicate n 0)).1.length=n/\(fN (Y1 pl) m (List.replicate n [],List.replicate n 0)).2.length=n /\
  ∀k:Nat,k<n->(fN (Y1 pl) m (List.replicate n [],List.replicate n 0)).1.getD k []=fN (O8 pl k) m []/\(fN (Y1 pl) m (List.replicate n [],List.replicate n 0)).2.getD k 0=U1 pl k m
 | 0,_=>⟨List.length_replicate,List.length_replicate,fun k a=>by
   constructor
   ·show(List.replicate n ([]:List Int)).getD k []=[]
    grind
   ·show(List.replicate n (0:Int)).getD k 0=0
    grind⟩
 | m+1,h=>by
   obtain⟨f,d,j⟩:=n0r pl n m (fun i hi=>h i (by omega));have l:=A4.1 (h m (by omega));have e:fN (Y1 pl) (m+1) (List.replicate n [],List.replicate n 0)=Y1 pl m (fN (Y1 pl) m (List.replicate n [],List.replicate n 0)):=rfl;rw[e];generalize fN (Y1 pl) m (List.replicate n [],List.replicate n 0)=z at f d j;have g:(pl m).2.2.1.toNat<n:=by omega
   have b:∀k:Nat,U1 pl k (m+1)=if((pl m).2.2.1==(k:Int)&&(pl m).2.2.2)=true then(m:Int) else U1 pl k m:=fun _=>rfl
   have c:∀k:Nat,((pl m).2.2.1==(k:Int))=decide (k=(pl m).2.2.1.toNat):=fun k=>by
    grind
   unfold Y1;cases hd:(pl m).2.2.2 with
   | true =>
     rw[if_pos rfl];refine⟨f,by grind,fun k a=>?_⟩;rw[k0u,b k,c,hd]
     grind
   | false =>
     rw[if_neg (by simp)];refine⟨by grind,d,fun k a=>?_⟩;rw[k0u,b k,c,hd]
     grind
def Um(d s x:Int)(t:Nat)(z:List u0):List u0:=z++[(2*d+(t:Int),2*s+(t:Int),2,x)]
def Ch(d:Int)(sn:List Int)(k:Nat)(z:List u0):List u0:=fN (Um d (sn.getD k 0) (k:Int)) 2 z
theorem Un(d:Int)(a:List Int)(k:Nat)(z:List u0):(Ch d a k z).length=z.length+2:=by
 show((z++_)++_).length=_
 grind
def Bu(d:Nat->Int)(sn:Nat->List Int)(i:Nat)(z:List u0):List u0:=fN (Ch (d i) (sn i)) (sn i).length z
theorem Qc(d:Int)(a:List Int)(z:List u0):∀k,(fN (Ch d a) k z).length=z.length+2*k
 | 0=>rfl
 | k+1=>by
   have:=Qc d a z k
   grind[Ch,fN,Un]
theorem q0D(d:Nat->Int)(a:Nat->List Int)(z:List u0){n c:Nat}(h:∀i,i<n->(a i).length<=c):∀m,m<=n->(fN (Bu d a) m z).length<=z.length+2*(c*m)
 | 0,_=>by simp[fN]
 | m+1,hm=>by
   have b:=q0D d a z h m (by omega)
   grind[fN,Ch,Bu,Qc,Nat.mul_add]
def AI{α:Type}(f:Nat->α)(i:Nat)(s:List α):List α:=s++[f i]
theorem Hf{a:Type}(f:Nat->a):∀n,(fN (AI f) n []).length=n
 | 0=>rfl
 | n+1=>by
   have:=Hf f n
   grind[AI,fN,List.length_append]
theorem MZ{a:Type}(f:Nat->a)(d:a):∀n i,i<n->(fN (AI f) n []).getD i d=f i
 | n+1,i,h=>by
   have c:=Hf f n;have b:=MZ f d n i
   grind[AI,fN]
end Go.Proofs.Xd
end
section
namespace Go.Proofs.YtechodbafnmddaaGreatDoor
open Go Go.Proofs Go.Proofs.Xv Go.Proofs.Xl Go.Proofs.Xd
theorem Y2(a b c:Int):A8 a b c=some (j2 a b c):=rfl
theorem R8(a b c:Int):o6 a b c=some (j2 a b c):=rfl
theorem N0z(a b c:Int):Mc a b c=some (!j2 a b c):=by
 unfold Mc;rw[Y2,gP ⟨rfl,trivial⟩,vS]
theorem x0t(xs:List Int)(b c:Int)(h:xs.length<=9223372036854775807):Pd xs (b,c)=some (xs.any fun x=>!j2 x b c):=by
 have a:Pc xs (b,c)=_:=CR h (fun i=>!j2 (xs.getD i 0) b c) (fun g i hi=>Hg hi h (N0z _ _ _)) (fun g=>aE);have:=Hh a;rw[T8 xs 0 (fun x=>!j2 x b c)] at this;exact this
theorem Hi(xs:List Int)(b c:Int)(h:xs.length<=9223372036854775807):I7 xs b c=some (xs.all (j2 · b c)):=by
 unfold I7;rw[x0t _ _ _ h,gP ⟨rfl,trivial⟩,vS,Bs]
theorem Uo(xs:List Int)(h:xs.length<=9223372036854775807)(b:1<=xs.length):CJ xs=some (DG xs):=by
 have a:=C0S h (fun i=>decide (xs.getD i 0<=xs.getD (i-1) 0)) (some false) (e:=some true) (F:=A0a xs) 1 b (fun g i c hi=>by
  have e:((i:Int)-1).toNat=i-1:=by omega
  refine(Ci hi h ⟨oo,oo,oo,trivial⟩).trans ?_;rw[e]; rfl) (fun g=>aE)
 refine a.trans ?_;unfold DG
 grind
theorem L0c(xs:List Int)(h:xs.length<=9223372036854775807):Bg xs=some (H5 xs):=by
 unfold Bg;have e:D9 xs=some (xs.length:Int):=rfl;have c:∀a:Bool,(a=true->1<=xs.length)->(a=true/\True->(CJ xs).isSome=true):=fun a f d=>by grind[Uo]
 rw[e,vS,Y2,vS,Hi xs 0 100000 h,vS,gP ⟨rfl,rfl,fun _=>rfl,c _ (fun d=>by
  grind[j2]),trivial⟩]
 congr 1;unfold H5;by_cases b:1<=xs.length
 ·rw[Uo xs h b,vS]
  grind[j2]
 grind[decide,j2]
theorem L0d(xs:List Int)(h:xs.length<=9223372036854775807):Du xs=some (H5 xs):=by
 have d:=H9 (n:=xs.length) h (fun i=>!j2 (xs.getD i 0) 0 100000||decide (0<i)&&decide (xs.getD i 0<=xs.getD (i-1) 0)) (some false) (e:=OJ xs ()) (F:=YC xs) (fun g i hi=>by
  have e:((i:Int)-1).toNat=i-1:=by omega
  have k:decide ((0:Int) < (i:Int))=decide (0<i):=by rw[decide_eq_decide]; omega
  refine(Ci hi h ⟨oo,rfl,fun c=>oo,fun c=>⟨by have:=c.1; simp at this; omega,by omega⟩,fun c=>oo,trivial⟩).trans ?_;rw[e,R8,vS,k]; rfl) (fun g=>aE)
 refine d.trans ?_;unfold H5 OJ;have j:((List.range xs.length).any fun i=>!j2 (xs.getD i 0) 0 100000||decide (0<i)&&decide (xs.getD i 0<=xs.getD (i-1) 0))=!(xs.all (j2 · 0 100000)&&DG xs):=by
  rw[<- Bs,<- T8 xs 0 (fun x=>!j2 x 0 100000),DG,<- Bool.not_or,Bool.not_not];rw[Bool.eq_iff_iff,Bool.or_eq_true,List.any_eq_true,List.any_eq_true,List.any_eq_true];constructor
  ·rintro⟨i,a,b⟩;rcases Bool.or_eq_true _ _ ▸ b with f | f
   ·exact .inl ⟨i,a,f⟩
   ·exact .inr ⟨i,a,f⟩
  ·rintro(⟨i,a,b⟩ | ⟨i,a,b⟩)
   ·exact⟨i,a,by rw[b]; rfl⟩
   ·exact⟨i,a,by rw[b,Bool.or_true]⟩
 rw[j];cases hA:(xs.all (j2 · 0 100000)&&DG xs) with
 | false=>grind
 | true =>
   rw[if_neg (by simp),Bool.and_assoc,hA,Bool.and_true];refine congrArg some ?_
   grind
theorem N0f(t:o5)(b:wf y269 t):IG t=some (C5 t):=by
 obtain⟨⟨h,_⟩,⟨f,_⟩,d,_⟩:=b;unfold IG;have c:(H5 t.1&&H5 t.2.1)=true/\True->b9 ((t.1.length:Int)*(t.2.1.length:Int)):=fun a=>by
  have a:=a.1;rw[ba] at a;obtain⟨l,g⟩:=CO a.1;obtain⟨k,i⟩:=CO a.2;have j:t.1.length*t.2.1.length<=4*4:=Nat.mul_le_mul g i;have e:(t.1.length:Int)*(t.2.1.length:Int)=((t.1.length*t.2.1.length:Nat):Int):=by simp
  rw[e];exact oo
 rw[L0c _ h,L0c _ f,Hi _ _ _ d,vS,vS,vS,gP ⟨rfl,fun _=>rfl,c,fun _=>rfl,trivial⟩];congr 1
 grind[C5]
theorem N0h(t:o5)(d:wf y269 t):KQ t=some (C5 t):=by
 obtain⟨⟨m,_⟩,⟨j,_⟩,c,_⟩:=d;unfold KQ;have f:(!H5 t.1||!H5 t.2.1)=false/\True->b9 ((t.1.length:Int)*(t.2.1.length:Int)):=fun a=>by
  have a:=a.1;simp only[Bool.or_eq_false_iff,Bool.not_eq_false'] at a;obtain⟨s,l⟩:=CO a.1;obtain⟨r,o⟩:=CO a.2;have q:t.1.length*t.2.1.length<=4*4:=Nat.mul_le_mul l o;have e:(t.1.length:Int)*(t.2.1.length:Int)=((t.1.length*t.2.1.length:Nat):Int):=by simp
  rw[e];exact oo
 rw[L0d _ m,L0d _ j,vS,vS,gP ⟨rfl,fun _=>rfl,f,trivial⟩];have b:=H9 (n:=t.2.2.length) c (fun i=>!j2 (t.2.2.getD i 0) (-1000000) 1000000) (some false) (e:=some true) (F:=YE t) (fun g i hi=>Ci hi c ⟨oo,rfl,trivial⟩) (fun g=>aE);rw[b,T8 t.2.2 0 (fun x=>!j2 x (-1000000) 1000000)];have e:((t.2.2.length:Int) != (t.1.length:Int)*(t.2.1.length:Int))=!decide (t.2.2.length=t.1.length*t.2.1.length):=by
  rw[Bool.eq_iff_iff];simp only[bne_iff_ne,Bool.not_eq_true',decide_eq_false_iff_not,ne_eq];constructor
  ·intro h k; exact h (by exact_mod_cast k)
  ·intro h k; exact h (by exact_mod_cast k)
 grind[C5,Bs,H5,decide,j2]
end Go.Proofs.YtechodbafnmddaaGreatDoor
end
section
namespace Go.Proofs.YtechodbafnmddaaGreatDoor
open Go Go.Proofs Go.Proofs.Sv Go.Proofs.Xv Go.Proofs.Xl Go.Proofs.Xd
theorem Qd(s:ByteArray)(h:s.size<=9223372036854775807):Z9 s=some (J4 s):=by
 have a:=H9 (n:=s.size) h (fun i=>!FG (F8 s i) i) (some false) (e:=OF s ()) (F:=Yq s) (fun g i hi=>by
  refine(D0I hi h ⟨oo,fun _=>oo,trivial⟩ ⟨oo,fun _=>oo,trivial⟩).trans ?_;have b:decide ((0:Int) < (i:Int))=decide (0<i):=by rw[decide_eq_decide]; omega
  have c:((i:Int)).toNat=i:=rfl;rw[b,c];unfold FG Bn IP;rw[Bool.not_or]) (fun g=>aE)
 refine a.trans ?_;unfold J4 OF;rw[q0B];cases(List.range s.size).any fun i=>!FG (F8 s i) i
 ·rfl
 ·rfl
theorem Up(s:ByteArray)(h:s.size<=9223372036854775807):Q9 s=some (J4 s):=by
 unfold Q9;have f:Fz s ⟨#[97,98,99,100,101,102,103,104,105,106,107,108,109,110,111,112,113,114,115,116,117,118,119,120,121,122,48,49,50,51,52,53,54,55,56,57]⟩=some ⟨(Lib.trimS s.data.toList low36).toArray⟩:=if_pos ⟨by decide,by decide⟩;have g:∀c,Pj ⟨#[97,98,99,100,101,102,103,104,105,106,107,108,109,110,111,112,113,114,115,116,117,118,119,120,121,122]⟩ c=some (Lib.indexByte low26 c.toNat.toUInt8):=fun _=>rfl;rw[f,g,Y2,vS,vS,vS,gP ⟨rfl,fun _=>rfl,fun b=>⟨by decide,by
  have:=b.1;rw[ba,A4] at this;omega⟩,fun _=>rfl,trivial⟩,lE]
 refine congrArg some ?_;show(j2 (s.size:Int) 1 8&&decide ((⟨(Lib.trimS s.data.toList low36).toArray⟩:ByteArray)=⟨#[]⟩)&&decide (0<=Lib.indexByte low26 (F8 s (Int.toNat 0)).toNat.toUInt8))=J4 s;by_cases e:1<=s.size/\s.size<=8
 ·rw[x0G s e.1 e.2];have a:j2 (s.size:Int) 1 8=true:=by rw[A4]; omega
  have d:decide ((⟨(Lib.trimS s.data.toList low36).toArray⟩:ByteArray)=⟨#[]⟩)=(Lib.trimS s.data.toList low36==[]):=by
   rw[Bool.eq_iff_iff,dq,beq_iff_eq];constructor
   ·intro h;injection h with h;have:=congrArg Array.toList h;simpa using this
   ·intro h; rw[h]
  rw[a,d,Bool.true_and];rfl
 ·have a:j2 (s.size:Int) 1 8=false:=by rw[<- Bool.not_eq_true,A4]; omega
  have d:J4 s=false:=by
   rw[<- Bool.not_eq_true];intro b;simp only[J4,ba,dq] at b;omega
  rw[a,d]; rfl
theorem N0m(xs:List ByteArray)(x:ByteArray)(h:xs.length<=9223372036854775807):Ph xs x=some (xs.any fun y=>decide (x=y)):=by
 have a:Pg xs x=_:=CR h (fun i=>decide (x=xs.getD i (a7 .str))) (fun g i hi=>by
  refine(if_pos (by simpa using hi)).trans ?_;rw[gP ⟨oo,trivial⟩,gP ⟨oo,trivial⟩];rfl) (fun g=>aE)
 have:=Hh a;rw[T8 xs (a7 .str) (fun y=>decide (x=y))] at this;exact this
theorem Na(xs:List ByteArray)(b:wf (.sl .str) xs):X8 xs=some (C7 xs.length fun i=>xs.getD i (a7 .str)):=by
 have h:=b.1;have a:=H9 (n:=xs.length) h (fun i=>!J4 (xs.getD i (a7 .str))||P6 (fun i=>xs.getD i (a7 .str)) i) (some false) (e:=some true) (F:=z0f xs) (fun g i hi=>by
  have l:=M9 (d:=a7 .str) hi b;have k:(xs.take i).length<=9223372036854775807:=by rw[List.length_take]; omega
  have f:=Up _ l;have c:=N0m (xs.take i) (xs.getD i (a7 .str)) k;rw[w0W xs (a7 .str) i hi] at c;have j:((i:Int)).toNat=i:=rfl;refine(if_pos (by simpa using hi)).trans ?_;rw[j,f,c,vS,vS,gP ⟨oo,trivial⟩,gP ⟨rfl,fun _=>⟨by omega,by omega,by omega⟩,fun _=>rfl,trivial⟩,gP ⟨oo,trivial⟩]) (fun g=>aE)
 refine a.trans ?_;unfold C7;cases(List.range xs.length).any fun i=>!J4 (xs.getD i (a7 .str))||P6 (fun i=>xs.getD i (a7 .str)) i <;> rfl
theorem Uq(xs:List ByteArray)(c:wf (.sl .str) xs):BR xs=some (C7 xs.length fun i=>xs.getD i (a7 .str)):=by
 have h:=c.1;have b:=H9 (n:=xs.length) h (fun i=>!J4 (xs.getD i (a7 .str))||P6 (fun i=>xs.getD i (a7 .str)) i) (some false) (e:=some true) (F:=Yt xs) (fun g i hi=>by
  have o:=M9 (d:=a7 .str) hi c;have f:=Qd _ o;have l:((i:Int)).toNat=i:=rfl;have a:=H9 (n:=i) (by omega) (fun k=>decide (xs.getD k (a7 .str)=xs.getD i (a7 .str))) (some false) (e:=g ((i:Int)+1)) (F:=Ys xs (i:Int) g) (fun m k j=>by
   refine(Ci j (by omega) ⟨oo,oo,trivial⟩).trans ?_;rfl) (fun m=>by
   refine aE.trans ?_;unfold SC;exact gP ⟨oo,trivial⟩)
  refine(if_pos (by simpa using hi)).trans ?_;rw[l,f,vS,gP ⟨oo,rfl,trivial⟩,a];unfold P6;cases J4 (xs.getD i (a7 .str)) <;> cases(List.range i).any fun k=>decide (xs.getD k (a7 .str)=xs.getD i (a7 .str)) <;> rfl) (fun g=>aE)
 refine b.trans ?_;unfold C7;cases(List.range xs.length).any fun i=>!J4 (xs.getD i (a7 .str))||P6 (fun i=>xs.getD i (a7 .str)) i <;> rfl
theorem L0e(xs:List Int)(h:xs.length<=9223372036854775807)(b:1<=xs.length):IF xs=some (AF xs):=by
 unfold IF;rw[if_neg (by simp; omega)];unfold Tj;rw[gP ⟨oo,trivial⟩];have a:=lF (n:=xs.length-1) (by omega) (fun i (m:Int)=>(m,((i+1:Nat):Int))) (fun i m=>min m (xs.getD (i+1) 0)) (fun _ _=>True) (J:=fun m=>some m) (F:=Ti xs) (fun g i s hi _=>by
  refine(if_pos (by simp; omega)).trans ?_;rw[gP ⟨oo,trivial⟩,gP ⟨oo,trivial⟩];rfl) (fun _ _ _ _=>trivial) (fun g s _=>by
  have e:xs.length-1+1=xs.length:=by omega
  show Ti xs g (s,((xs.length-1+1:Nat):Int))=some s;rw[e];exact aE) (xs.getD 0 0) trivial
 exact a
theorem N0g(t:o5)(p:Bool)(a:wf y269 t):Mo t p=some (!C5 t||p&&decide (AF t.2.2<0)):=by
 unfold Mo;have c:p=true/\(!C5 t)=false/\True->(IF t.2.2).isSome=true:=fun d=>by
  have b:C5 t=true:=by simpa using d.2.1
  rw[L0e _ a.2.2.1 (FJ b).2.2.2.2.2.1]; rfl
 rw[N0f t a,vS,gP ⟨rfl,c,trivial⟩,lE];refine congrArg some ?_;cases hT:C5 t with
 | false=>rfl
 | true=>rw[L0e _ a.2.2.1 (FJ hT).2.2.2.2.2.1,vS]
theorem Ur(l:List o5)(p:Bool)(b:wf (.sl y269) l):V3 l p=some (H6 l p):=by
 have h:=b.1;have c:Pp l p=_:=CR h (fun i=>!C5 (l.getD i (a7 y269))||p&&decide (AF (l.getD i (a7 y269)).2.2<0)) (fun g i hi=>Hg hi h (N0g _ _ (M9 hi b))) (fun g=>aE);have a:Pq l p=_:=Hh c;rw[T8 l (a7 y269) (fun t=>!C5 t||p&&decide (AF t.2.2<0))] at a;unfold V3;rw[a,vS,gP ⟨fun _=>rfl,trivial⟩];refine congrArg some ?_;unfold H6;have e:((l.length:Int)==2)=decide (l.length=2):=by
  rw[Bool.eq_iff_iff,beq_iff_eq,dq]; omega
 rw[e,<- Bs];congr 3;funext t;rw[Bool.not_and,Bool.not_not]
theorem q0P(xs:List Int):∀n,(fN (fun i (s:Int×Int)=>(min s.1 (xs.getD (i+1) 0),max s.2 (xs.getD (i+1) 0))) n (xs.getD 0 0,xs.getD 0 0)).1=fN (fun i m=>min m (xs.getD (i+1) 0)) n (xs.getD 0 0)
 | 0=>rfl
 | n+1=>by rw[fN,fN,q0P xs n]
theorem N0j(t:o5)(b:wf y269 t):∃l,KS t=some (if C5 t=true then((AF t.2.2,l),0) else((0,0),1)):=by
 unfold KS;rw[N0h t b,vS,gP ⟨rfl,trivial⟩];cases hT:C5 t with
 | false=>exact⟨0,rfl⟩
 | true =>
   have c:=(FJ hT).2.2.2.2.2.1;have h:=b.2.2.1;have a:=lF (n:=t.2.2.length-1) (by omega) (fun i (s:Int×Int)=>(((i+1:Nat):Int),s.1,s.2)) (fun i s=>(min s.1 (t.2.2.getD (i+1) 0),max s.2 (t.2.2.getD (i+1) 0))) (fun _ _=>True) (J:=fun s=>some ((s.1,s.2),(0:Int))) (F:=SD t) (fun g i s hi _=>by
    refine(if_pos (by simp; omega)).trans ?_;rw[gP ⟨oo,trivial⟩,gP ⟨oo,trivial⟩,gP ⟨oo,trivial⟩];rfl) (fun _ _ _ _=>trivial) (fun g s _=>by
    have e:t.2.2.length-1+1=t.2.2.length:=by omega
    show SD t g (((t.2.2.length-1+1:Nat):Int),s.1,s.2)=_;rw[e];exact aE) (t.2.2.getD 0 0,t.2.2.getD 0 0) trivial
   rw[if_neg (by simp),gP ⟨oo,oo,trivial⟩];rw[q0P] at a;exact⟨_,a⟩
theorem Nb(l:List o5)(p:Bool)(c:wf (.sl y269) l):X7 l p=some (H6 l p):=by
 unfold X7;have e:((l.length:Int) != 2)=!decide (l.length=2):=by
  rw[Bool.eq_iff_iff]; simp; omega
 rw[e];unfold H6;by_cases b:l.length=2
 ·have a:=H9 (n:=2) (by decide) (fun i=>!C5 (l.getD i (a7 y269))||p&&decide (AF (l.getD i (a7 y269)).2.2<0)) (some false) (e:=some true) (F:=SE p l) (fun g i hi=>by
   obtain⟨m,d⟩:=N0j (l.getD i (a7 y269)) (M9 (by omega) c);have f:((i:Int)).toNat=i:=rfl;refine(if_pos (by simp; omega)).trans ?_;rw[f,d,vS,gP ⟨oo,rfl,trivial⟩,lE,gP ⟨oo,trivial⟩];cases C5 (l.getD i (a7 y269)) <;> rfl) (fun g=>by
   unfold SE;exact if_neg (by decide))
  rw[decide_eq_true b,if_neg (by simp)];refine a.trans ?_;have:=T8 l (a7 y269) (fun t=>!C5 t||p&&decide (AF t.2.2<0));rw[b] at this;rw[this,<- Bs,Bool.true_and];have h:(fun t:o5=>!(C5 t&&!(p&&decide (AF t.2.2<0))))=fun t=>!C5 t||p&&decide (AF t.2.2<0):=by
   funext t; rw[Bool.not_and,Bool.not_not]
  rw[h];cases l.any fun t=>!C5 t||p&&decide (AF t.2.2<0) <;> rfl
 ·rw[decide_eq_false b]; rfl
abbrev q7(c:l6)(i:Nat):F3:=c.2.2.1.getD i (a7 y293)
abbrev k6(c:l6)(i:Nat):A6:=c.2.2.2.1.getD i (a7 y158)
theorem Ut(c:l6)(a:wf y153 c):V2 c=some ((c.2.2.1.length:Int)-1):=by
 have h:=a.2.2.1.1;have e:CI c.2.2.1=some (c.2.2.1.length:Int):=rfl;unfold V2;rw[e,vS,gP ⟨rfl,oo,trivial⟩,lE]
theorem L0f(c:l6)(a:wf y153 c)(x:Int):GM c x=some (j2 x 0 ((c.2.2.1.length:Int)-1-1)):=by
 have h:=a.2.2.1.1;unfold GM;rw[Ut c a,vS,Y2,vS,gP ⟨rfl,oo,rfl,trivial⟩]
theorem N0i(c:l6)(b:wf y153 c):IH c=some (FK c.2.2.1.length (q7 c)):=by
 have h:=b.2.2.1.1;have a:Pr c.2.2.1=_:=CR h (fun i=>(q7 c i).2.2.2) (fun g i hi=>Hg hi h rfl) (fun g=>aE);unfold IH;rw[a,vS,gP ⟨rfl,trivial⟩,lE];rfl
theorem Uu(c:l6)(d:wf y153 c)(k:Int):P4 c k=some (H0 c.2.2.2.1.length (k6 c) k):=by
 have h:=d.2.2.2.1.1;have a:Pl c.2.2.2.1 k=_:=CR h (fun i=>(k6 c i).1==k) (fun g i hi=>Hg hi h rfl) (fun g=>aE);have b:Pm c.2.2.2.1 k=_:=Hh a;unfold P4;rw[b,vS,gP ⟨rfl,trivial⟩];rfl
theorem N0l(c:l6)(a:A6)(d:wf y153 c)(t:wf y158 a):GN c a=some (DH c.2.2.1.length (q7 c) a):=by
 obtain⟨_,_,_,_,n,r⟩:=t;have u:Ps a.1=some (a.1==4||a.1==5):=rfl;have l:j2 a.2.1 0 ((c.2.2.1.length:Int)-1-1)=true->ix a.2.1 c.2.2.1.length:=fun h=>by
  rw[A4] at h; exact oo
 unfold GN;rw[u,Ur _ _ n,Ur _ _ n,Ur _ _ r,N0i c d,L0f c d,L0f c d,Ut c d]
 repeat rw[vS]
 rw[gP ⟨rfl,trivial⟩];unfold DH;by_cases CF:a.1=4∨a.1=5
 ·have f:(a.1==4||a.1==5)=true:=by simpa using CF
  rw[if_pos f,if_pos CF,gP ⟨fun _=>rfl,fun _=>rfl,fun _=>rfl,trivial⟩,lE]
 ·have f:(a.1==4||a.1==5)=false:=by
   rw[<- Bool.not_eq_true]; simpa using CF
  rw[f,if_neg (by simp),if_neg CF,gP ⟨rfl,fun _=>rfl,fun _=>rfl,fun _=>rfl,trivial⟩,lE];by_cases i:H6 a.2.2.2.2.1 true=true/\H6 a.2.2.2.2.2 true=true/\a.2.2.1=(c.2.2.1.length:Int)-1/\j2 a.2.1 0 ((c.2.2.1.length:Int)-1-1)=true
  ·obtain⟨k,m,o,e⟩:=i;have q:(H6 a.2.2.2.2.1 true&&H6 a.2.2.2.2.2 true&&a.2.2.1==(c.2.2.1.length:Int)-1&&j2 a.2.1 0 ((c.2.2.1.length:Int)-1-1))=true:=by
    rw[k,m,e,o]; simp
   have s:(!H6 a.2.2.2.2.1 true||!H6 a.2.2.2.2.2 true||a.2.2.1 != (c.2.2.1.length:Int)-1||!j2 a.2.1 0 ((c.2.2.1.length:Int)-1-1))=false:=by
    rw[k,m,e,o]; simp
   rw[q,Bool.true_and];refine(if_neg (by rw[s]; simp)).trans ?_;by_cases g:a.1=1
   ·rw[if_pos (beq_iff_eq.2 g),if_pos g,Y2,gP ⟨l e,fun _=>rfl,trivial⟩];rfl
   ·rw[if_neg (by grind),if_neg g];have j:∀b,Mp c a b=some (if b=true then(q7 c a.2.1.toNat).2.2.2&&a.2.2.2.1==0 else false):=fun b=>by
     unfold Mp;cases b with
     | false=>rfl
     | true=>rw[if_pos rfl,if_pos rfl,gP ⟨l e,trivial⟩]
    grind
  grind
theorem N0t(c:l6)(a:A6)(k:wf y153 c)(l:wf y158 a):KV c a=some (G8 c.2.2.1.length (q7 c) a):=by
 obtain⟨_,_,_,_,d,j⟩:=l;have h:=k.2.2.1.1;unfold KV;rw[gP ⟨oo,trivial⟩,R8,R8]
 repeat rw[vS]
 rw[gP ⟨oo,rfl,fun _=>rfl,trivial⟩];unfold G8;by_cases f:j2 a.2.1 0 ((c.2.2.1.length:Int)-1-1)=true/\j2 a.2.2.1 0 ((c.2.2.1.length:Int)-1)=true
 ·obtain⟨g,i⟩:=f;have n:=A4.1 g;have o:=A4.1 i;rw[g,i,if_neg (by simp),gP ⟨oo,trivial⟩,lE,Bool.true_and,Bool.true_and];by_cases e:a.1=1
  ·rw[if_pos (beq_iff_eq.2 e),if_pos e,R8,Nb _ _ d,Nb _ _ j,gP ⟨fun _=>rfl,fun _=>rfl,fun _=>rfl,trivial⟩];rfl
  ·rw[if_neg (by grind),if_neg e];have m:∀b,KT (q7 c a.2.1.toNat) a c b=some (if b=true then(q7 c a.2.1.toNat).2.2.2&&decide (a.2.2.1 < (c.2.2.1.length:Int)-1)&&!(q7 c a.2.2.1.toNat).2.2.2&&a.2.2.2.1==0&&H6 a.2.2.2.2.1 false&&(a.2.2.2.2.2.length:Int)==0 else false):=fun b=>by
    unfold KT;cases b with
    | false=>rfl
    | true =>
      rw[if_pos rfl,if_pos rfl,Nb _ _ d,gP ⟨fun _=>oo,fun _=>rfl,trivial⟩];rfl
   have q:∀b,KU (q7 c a.2.1.toNat) a c b=some (if b=true then(q7 c a.2.1.toNat).2.2.2&&a.2.2.1==(c.2.2.1.length:Int)-1&&a.2.2.2.1==0&&H6 a.2.2.2.2.1 true&&H6 a.2.2.2.2.2 true else if a.1=4∨a.1=5 then(q7 c a.2.1.toNat).2.2.2&&decide (a.2.2.1 < (c.2.2.1.length:Int)-1)&&!(q7 c a.2.2.1.toNat).2.2.2&&a.2.2.2.1==0&&H6 a.2.2.2.2.1 false&&(a.2.2.2.2.2.length:Int)==0 else false):=fun b=>by
    unfold KU;cases b with
    | true =>
      rw[if_pos rfl,if_pos rfl,Nb _ _ d,Nb _ _ j,gP ⟨fun _=>rfl,fun _=>rfl,trivial⟩];rfl
    | false =>
      grind
   grind
 grind
theorem Uv{c:l6}(a:wf y153 c):wf (.sl y293) c.2.2.1:=a.2.2.1
theorem Uw{c:l6}(a:wf y153 c):wf (.sl y158) c.2.2.2.1:=a.2.2.2.1
theorem Je{a:Type}(l:List a)(f:a->ByteArray)(d:a)(e:ByteArray):C7 (l.map f).length (fun i=>(l.map f).getD i e)=C7 l.length fun i=>f (l.getD i d):=by
 grind[List.length_map,n0f,hi,v0h]
theorem Jf{a:Type}{l:List a}{f:a->ByteArray}(h:l.length<=9223372036854775807)(d:∀x∈l,(f x).size<=9223372036854775807):wf (.sl .str) (l.map f):=by
 refine⟨by grind,fun x c=>?_⟩;obtain⟨y,b,rfl⟩:=List.mem_map.1 c;exact d y b
def Y3(f:Nat->ByteArray)(i:Nat)(s:List ByteArray):List ByteArray:=s++[f i]
theorem v0j(f:Nat->ByteArray):∀n,fN (Y3 f) n []=(List.range n).map f
 | 0=>rfl
 | n+1=>by
   rw[fN,v0j f n,List.range_succ,List.map_append]; rfl
theorem Jg{a:Type}(l:List a)(d:a)(f:a->ByteArray):fN (Y3 fun i=>f (l.getD i d)) l.length []=l.map f:=by
 rw[v0j,u0m]
theorem Qe{n i b:Nat}(h:i<n)(c:n<=1048576)(a:b<=4096):i+1<=9223372036854775807/\(i+1)*b<=140737488355328:=by
 have:(i+1)*b<=1048576*4096:=Nat.mul_le_mul (by omega) a;exact oo
theorem N0p(l:List F3)(d:wf (.sl y293) l)(u:l.length<=1048576):FA l=some (AG l.length fun i=>l.getD i (a7 y293)):=by
 have h:=d.1;have c:=Nc (n:=l.length) h (fun i (s:List ByteArray)=>(s,(i:Int))) (Y3 fun i=>(l.getD i (a7 y293)).1) (fun i=>!Cd l.length (l.getD i (a7 y293)) i) (some false) (fun i s=>s.length=i) (J:=Mr l) (F:=y0V l) (fun g i s hi r=>by
  refine(if_pos (by simpa using hi)).trans ?_;have w:((i:Int)).toNat=i:=rfl;have E:(s++[(l.getD i (a7 y293)).1]).length<=9223372036854775807:=by rw[List.length_append]; show s.length+1<=_; omega
  have G:=Qe (b:=16) hi u (by decide);have j:∀a,Pv (i:Int) g a=g (a,((i+1:Nat):Int)):=fun a=>gP ⟨oo,trivial⟩;rw[w,gP ⟨oo,trivial⟩,lE,gP ⟨⟨by show s.length+1<=_; omega,by show(s.length+1)*16<=_; omega⟩,trivial⟩,gP ⟨oo,trivial⟩,j,Y2,gP ⟨fun _=>rfl,trivial⟩,vS];unfold Cd Y3;dsimp only;by_cases y:i+1=l.length
  ·have t:((i:Int)==(l.length:Int)-1)=true:=by rw[beq_iff_eq]; omega
   rw[if_pos t,if_pos y];generalize l.getD i (a7 y293)=q;have P:(q.2.1 != 2)=!(q.2.1==2):=rfl;have H:(q.2.2.1 != 0)=!(q.2.2.1==0):=rfl
   grind[j2]
  grind) (fun i s hi r _=>by grind[Y3,List.length_append]) (fun g s _=>aE) [] rfl
 refine c.trans ?_;rw[Jg];have f:wf (.sl .str) (l.map fun q:F3=>q.1):=Jf h fun x o=>(d.2 x o).1;have k:CI l=some (l.length:Int):=rfl;have z:∀v:List ByteArray,wf (.sl .str) v->Mr l v=some (j2 (l.length:Int) 2 5&&C7 v.length fun i=>v.getD i (a7 .str)):=fun v e=>by
  rw[Mr];rw[k,Na _ e]
  repeat rw[vS]
  rw[Y2,vS,gP ⟨rfl,rfl,fun _=>rfl,trivial⟩]
 rw[z _ f,Je l (fun q:F3=>q.1) (a7 y293)];unfold AG;have m:j2 (l.length:Int) 2 5=(decide (2<=l.length)&&decide (l.length<=5)):=by
  rw[Bool.eq_iff_iff,A4]; simp; omega
 rw[m];cases(List.range l.length).any fun i=>!Cd l.length (l.getD i (a7 y293)) i
 ·simp
 ·simp
theorem N0u(c:l6)(r:wf y153 c):KX c=some (if AG c.2.2.1.length (q7 c)=true then(J0 c.2.2.1.length (q7 c),true) else(0,false)):=by
 have o:=Uv r;have h:=o.1;unfold KX;by_cases j:2<=c.2.2.1.length/\c.2.2.1.length<=5
 ·have m:(decide ((c.2.2.1.length:Int)<2)||decide (5 < (c.2.2.1.length:Int)))=false:=by
   rw[<- Bool.not_eq_true]; simp; omega
  rw[m,if_neg (by simp)];have f:=Nc (n:=c.2.2.1.length) h (fun i (s:Int)=>(s,(i:Int))) (fun i s=>if(q7 c i).2.2.2=true then s+1 else s) (fun i=>(!J4 (q7 c i).1||P6 (fun i=>(q7 c i).1) i)||!Cd c.2.2.1.length (q7 c i) i) (some ((0:Int),false)) (fun i s=>0<=s/\s<=i) (J:=SF) (F:=YJ c) (fun g i s hi E=>by
   refine(if_pos (by simpa using hi)).trans ?_;have P:((i:Int)).toNat=i:=rfl;have v:(q7 c i).1.size<=9223372036854775807:=(M9 (d:=a7 y293) hi o).1;rw[P,gP ⟨oo,trivial⟩,lE];have a:=H9 (n:=i) (by omega) (fun k=>decide ((q7 c k).1=(q7 c i).1)) (some ((0:Int),false)) (e:=OL (i:Int) s (q7 c i) c g ()) (F:=YI c (q7 c i) (i:Int) s g) (fun u k w=>Ci w (by omega) ⟨oo,trivial⟩) (fun u=>aE);refine a.trans ?_;have x:OL (i:Int) s (q7 c i) c g ()=if(!J4 (q7 c i).1||!Cd c.2.2.1.length (q7 c i) i)=true then some ((0:Int),false) else g (if(q7 c i).2.2.2=true then s+1 else s,((i+1:Nat):Int)):=by
    have l:∀b,OK (i:Int) g b=g (b,((i+1:Nat):Int)):=fun b=>gP ⟨oo,trivial⟩;show gd _ (if(!vl (Z9 (q7 c i).1)||!vl (o6 (q7 c i).2.2.1 0 500))=true then _ else gd _ (if _=true then _ else if _=true then gd _ _ else _))=_;rw[Qd _ v,R8,vS,vS,gP ⟨rfl,fun _=>rfl,trivial⟩,gP ⟨oo,fun _=>oo,trivial⟩,gP ⟨oo,trivial⟩,l,l];generalize q7 c i=q;have z:((i:Int)==(c.2.2.1.length:Int)-1)=decide (i+1=c.2.2.1.length):=by
     rw[Bool.eq_iff_iff,beq_iff_eq,dq]; omega
    have H:decide ((i:Int) < (c.2.2.1.length:Int)-1)=!decide (i+1=c.2.2.1.length):=by
     rw[Bool.eq_iff_iff]; simp; omega
    rw[z,H];have hz:Cd c.2.2.1.length q i=(j2 q.2.2.1 0 500&&(if decide (i+1=c.2.2.1.length)=true then q.2.1==2&&q.2.2.1==0&&!q.2.2.2 else q.2.1==1)):=by
     unfold Cd;by_cases X:i+1=c.2.2.1.length
     ·grind
     ·grind
    rw[hz];have G:(q.2.1 != 2)=!(q.2.1==2):=rfl;have y:(q.2.2.1 != 0)=!(q.2.2.1==0):=rfl;have n3:(q.2.1 != 1)=!(q.2.1==1):=rfl;rw[G,y,n3];cases J4 q.1 <;> cases j2 q.2.2.1 0 500 <;> cases decide (i+1=c.2.2.1.length) <;> cases q.2.1==2 <;> cases q.2.2.1==0 <;> cases q.2.1==1 <;> cases q.2.2.2 <;> rfl
   rw[x];have W:P6 (fun i=>(q7 c i).1) i=(List.range i).any fun k=>decide ((q7 c k).1=(q7 c i).1):=rfl
   grind) (fun i s hi E _=>by
   omega) (fun g s _=>aE) 0 oo
  refine f.trans ?_;rw[PX];unfold AG C7;rw[decide_eq_true j.1,decide_eq_true j.2];cases(List.range c.2.2.1.length).any (fun i=>!J4 (q7 c i).1||P6 (fun i=>(q7 c i).1) i) <;> cases(List.range c.2.2.1.length).any (fun i=>!Cd c.2.2.1.length (q7 c i) i) <;> rfl
 ·have m:(decide ((c.2.2.1.length:Int)<2)||decide (5 < (c.2.2.1.length:Int)))=true:=by
   simp; omega
  have V:¬AG c.2.2.1.length (q7 c)=true:=fun t=>by
   obtain⟨Q,T,_⟩:=IU t;exact j ⟨Q,T⟩
  grind
theorem N0o(c:l6)(j:wf y153 c):GO c=some (Ha (DH c.2.2.1.length (q7 c)) c.2.2.2.1.length (k6 c)):=by
 have l:=Uw j;have h:=l.1;have q:∀(a:List A6) (o:A6),a.length<=9223372036854775807->Mq a o=some (a.any fun x=>x.1==o.1&&x.2.1==o.2.1&&x.2.2.1==o.2.2.1):=fun a o f=>by
  have t:Pt a o=_:=CR f (fun i=>(a.getD i (a7 y158)).1==o.1&&(a.getD i (a7 y158)).2.1==o.2.1&&(a.getD i (a7 y158)).2.2.1==o.2.2.1) (fun g i hi=>Hg hi f rfl) (fun g=>aE);have k:Mq a o=_:=Hh t;rw[T8 a (a7 y158) (fun x=>x.1==o.1&&x.2.1==o.2.1&&x.2.2.1==o.2.2.1)] at k;exact k
 have b:=H9 (n:=c.2.2.2.1.length) h (fun i=>!DH c.2.2.1.length (q7 c) (k6 c i)||IT (k6 c) i) (some false) (e:=Pu c ()) (F:=y0U c) (fun g i hi=>by
  have r:((i:Int)).toNat=i:=rfl;have s:(c.2.2.2.1.take i).length<=9223372036854775807:=by rw[List.length_take]; omega
  have m:=N0l c (k6 c i) j (M9 hi l);have d:=q (c.2.2.2.1.take i) (k6 c i) s;rw[t0L c.2.2.2.1 (a7 y158) _ i (by omega)] at d;refine(if_pos (by grind)).trans ?_;rw[r,gP ⟨oo,trivial⟩,lE,m,d,vS,vS,gP ⟨rfl,fun _=>⟨by omega,by omega,by omega⟩,fun _=>rfl,trivial⟩,gP ⟨oo,trivial⟩];rfl) (fun g=>aE)
 refine b.trans ?_;unfold Ha Pu;have e:decide ((c.2.2.2.1.length:Int)<=8)=decide (c.2.2.2.1.length<=8):=by rw[decide_eq_decide]; omega
 rw[e];cases(List.range c.2.2.2.1.length).any fun i=>!DH c.2.2.1.length (q7 c) (k6 c i)||IT (k6 c) i
 ·simp
 ·simp
theorem Nd{n:Nat}(h:1<=n):((n:Int)-1).toNat=n-1:=by omega
theorem N0n(c:l6)(a:wf y153 c)(v:2<=c.2.2.1.length)(u:c.2.2.1.length<=5):Po c=some (IV c.2.1 c.2.2.1.length (q7 c) c.2.2.2.1.length (k6 c) c.2.2.2.2.1):=by
 have m:=Uv a;have h:=m.1;have t:=a.2.2.2.2.1.1;have f:=lF (n:=c.2.2.1.length) h (fun i (s:Int)=>(s,(i:Int))) (fun i s=>if(q7 c i).2.2.2=true then s+1 else s) (fun i s=>0<=s/\s<=i) (J:=IE c) (F:=y0T c) (fun g i s hi r=>by
  have k:∀d,Pn (i:Int) g d=g (d,((i+1:Nat):Int)):=fun d=>gP ⟨oo,trivial⟩;have q:((i:Int)).toNat=i:=rfl;refine(if_pos (by grind)).trans ?_;rw[q,gP ⟨oo,trivial⟩,lE,gP ⟨oo,trivial⟩,k,k]
  grind) (fun i s hi r=>by
  omega) (fun g s _=>aE) 0 oo
 refine f.trans ?_;show IE c (J0 c.2.2.1.length (q7 c))=_;have o:∀b:Int,IE c b=some (if c.2.1=1 then b==0&&(c.2.2.2.2.1.length:Int)==1*2 ^ (c.2.2.1.length-1)&&c.2.2.2.2.1.all (j2 · 0 1)
  else if c.2.1=2 then b==1&&(c.2.2.2.2.1.length:Int)==0&&!H0 c.2.2.2.1.length (k6 c) 1&&!(H0 c.2.2.2.1.length (k6 c) 2==H0 c.2.2.2.1.length (k6 c) 3)
  else if c.2.1=3 then b==1&&(c.2.2.2.2.1.length:Int)==0&&H0 c.2.2.2.1.length (k6 c) 1&&H0 c.2.2.2.1.length (k6 c) 2&&!H0 c.2.2.2.1.length (k6 c) 3
  else false):=fun b=>by
  rw[IE,Ut c a,Hi _ _ _ t,Uu c a,Uu c a,Uu c a]
  repeat rw[vS]
  rw[Nd (by omega)];by_cases e:c.2.1=1
  ·rw[if_pos (beq_iff_eq.2 e),if_pos e,gP ⟨fun _=>rfl,fun _=>⟨by omega,B0g u⟩,fun _=>rfl,trivial⟩,lE,Nd (by omega)]
  ·rw[if_neg (by grind),if_neg e];by_cases j:c.2.1=2
   ·rw[if_pos (beq_iff_eq.2 j),if_pos j,gP ⟨fun _=>rfl,fun _=>rfl,fun _=>rfl,trivial⟩]
   ·rw[if_neg (by grind),if_neg j];by_cases l:c.2.1=3
    ·rw[if_pos (beq_iff_eq.2 l),if_pos l,gP ⟨fun _=>rfl,fun _=>rfl,fun _=>rfl,trivial⟩]
    grind
 exact o (J0 c.2.2.1.length (q7 c))
abbrev Cj(q:Nat->(Nat->O4)->F5->Bool)(c:l6):Bool:=V9 q c.1 c.2.1 c.2.2.1.length (q7 c) c.2.2.2.1.length (k6 c) c.2.2.2.2.1 c.2.2.2.2.2.1 c.2.2.2.2.2.2
theorem N0w(c:l6)(b:wf y153 c)(e:c.2.2.1.length<=1048576):Ms c=some (Cj G8 c):=by
 have d:=Uv b;show _=some (V9 G8 _ _ _ _ _ _ _ _ _);rw[<- D0C];unfold Ms V9;rw[Up c.1 b.1,N0p _ d e,N0o c b,Y2,Y2]
 repeat rw[vS]
 cases hpo:AG c.2.2.1.length (q7 c) with
 | false =>
   rw[gP ⟨rfl,fun _=>rfl,fun a=>by simp at a,fun a=>by simp at a,fun a=>by simp at a,fun a=>by simp at a,trivial⟩];simp
 | true =>
   obtain⟨g,f,_⟩:=IU hpo;rw[N0n c b g f,vS,gP ⟨rfl,fun _=>rfl,fun _=>rfl,fun _=>rfl,fun _=>rfl,fun _=>rfl,trivial⟩]
theorem N0s(c:l6)(o:wf y153 c)(y:c.2.2.2.1.length<=8)(k:∀i,i<c.2.2.2.1.length->1<=(k6 c i).1/\(k6 c i).1<=5):KP c=some (fN (Hc (k6 c)) c.2.2.2.1.length (List.replicate 6 0)):=by
 have h:=(Uw o).1;unfold KP;rw[gP ⟨⟨by omega,rfl,by decide,by omega⟩,trivial⟩];have r:=lF (n:=c.2.2.2.1.length) h (fun i (v:List Int)=>((i:Int),v)) (Hc (k6 c)) (fun i v=>i<=c.2.2.2.1.length/\v=fN (Hc (k6 c)) i (List.replicate 6 0)) (J:=fun v=>some v) (F:=YA c) (fun g i v hi e=>by
  obtain⟨u,t⟩:=Ua (k6 c) i (fun j x=>k j (by omega));obtain⟨w,z⟩:=k i hi;have l:v.length=6:=by rw[e.2]; exact u
  have a:=t (k6 c i).1.toNat (by omega);have m:=MU (k6 c) ((k6 c i).1.toNat:Int) i;rw[<- e.2] at a;have q:((i:Int)).toNat=i:=rfl;refine(if_pos (by grind)).trans ?_;have f:b9 (v.getD (k6 c i).1.toNat 0+1):=by rw[a]; exact oo
  have b:ix (k6 c i).1 v.length:=oo;have d:(k6 c i).1.toNat<v.length:=by omega
  rw[q,gP ⟨oo,b,d,f,b,d,trivial⟩,lE,gP ⟨oo,trivial⟩];rfl) (fun i v hi e=>⟨by omega,by rw[e.2]; rfl⟩) (fun g s _=>aE) (List.replicate 6 0) ⟨by omega,rfl⟩
 grind
theorem N0y(c:l6)(f:wf y153 c):KZ c=some (Cj G8 c):=by
 have Q:=Uw f;have h:=Q.1;show _=some (V9 G8 _ _ _ _ _ _ _ _ _);unfold KZ V9;rw[N0u c f,Qd c.1 f.1,R8,R8]
 repeat rw[vS]
 rw[gP ⟨rfl,trivial⟩,lE,gP ⟨fun _=>rfl,fun _=>rfl,fun _=>rfl,trivial⟩];cases hpo:AG c.2.2.1.length (q7 c) with
 | false =>
   grind
 | true =>
   obtain⟨h2,h5,_⟩:=IU hpo;have e9:(if true=true then(J0 c.2.2.1.length (q7 c),true) else((0:Int),false))=(J0 c.2.2.1.length (q7 c),true):=rfl;rw[e9];by_cases u:J4 c.1=true/\c.2.2.2.1.length<=8/\j2 c.2.2.2.2.2.1 0 100000=true/\j2 c.2.2.2.2.2.2 0 100000=true
   ·obtain⟨g1,P,r,g4⟩:=u;have e0:decide (8 < (c.2.2.2.1.length:Int))=false:=decide_eq_false (by omega);rw[g1,e0,r,g4];refine(if_neg (by simp)).trans ?_;have q:=H9 (n:=c.2.2.2.1.length) h (fun i=>!G8 c.2.2.1.length (q7 c) (k6 c i)||IT (k6 c) i) (some false) (e:=OM c (J0 c.2.2.1.length (q7 c),true) ()) (F:=YP c (J0 c.2.2.1.length (q7 c),true)) (fun g i hi=>by
     have e3:((i:Int)).toNat=i:=rfl;have e1:=N0t c (k6 c i) f (M9 hi Q);have d:=H9 (n:=i) (by omega) (fun k=>(k6 c k).1==(k6 c i).1&&(k6 c k).2.1==(k6 c i).2.1&&(k6 c k).2.2.1==(k6 c i).2.2.1) (some false) (e:=g ((i:Int)+1)) (F:=YO c (k6 c i) (i:Int) g) (fun r k hk=>Ci hk (by omega) ⟨oo,fun _=>oo,fun _=>oo,trivial⟩) (fun r=>by
      refine aE.trans ?_;exact gP ⟨oo,trivial⟩)
     refine(if_pos (by grind)).trans ?_;rw[e3,gP ⟨oo,trivial⟩,lE,e1,vS,gP ⟨rfl,trivial⟩,d];unfold IT
     grind) (fun g=>aE)
    refine q.trans ?_;unfold Ha;rw[decide_eq_true P];cases hany:(List.range c.2.2.2.1.length).any fun i=>!G8 c.2.2.1.length (q7 c) (k6 c i)||IT (k6 c) i with
    | true=>simp
    | false =>
      rw[if_neg (by simp)];have b:∀i,i<c.2.2.2.1.length->G8 c.2.2.1.length (q7 c) (k6 c i)=true:=fun i hi=>by
       grind
      have l:=N0s c f P (fun i hi=>n0O (b i hi));obtain⟨G,a⟩:=Ua (k6 c) c.2.2.2.1.length (fun i hi=>n0O (b i hi));have H:=a 1 (by omega);have c2:=a 2 (by omega);have V:=a 3 (by omega);rw[OM,l,vS,gP ⟨rfl,trivial⟩,lE];generalize fN (Hc (k6 c)) c.2.2.2.1.length (List.replicate 6 0)=v at *
      have q1:((v.getD 1 0)==(0:Int))=!H0 c.2.2.2.1.length (k6 c) 1:=by
       rw[H,IW];have:=(MU (k6 c) 1 c.2.2.2.1.length).1;rw[Bool.eq_iff_iff]; simp; omega
      have E:decide (0<v.getD 1 0)=H0 c.2.2.2.1.length (k6 c) 1:=by rw[H,IW]; rfl
      have Y:decide (0<v.getD 2 0)=H0 c.2.2.2.1.length (k6 c) 2:=by rw[c2,IW]; rfl
      have q3:decide (0<v.getD 3 0)=H0 c.2.2.2.1.length (k6 c) 3:=by rw[V,IW]; rfl
      have w:((v.getD 3 0)==(0:Int))=!H0 c.2.2.2.1.length (k6 c) 3:=by
       rw[V,IW];have:=(MU (k6 c) 3 c.2.2.2.1.length).1;rw[Bool.eq_iff_iff]; simp; omega
      have W:ix (1:Int) v.length:=oo;have i2:ix (2:Int) v.length:=oo;have i3:ix (3:Int) v.length:=oo;have X:Int.toNat (1:Int)<v.length:=by rw[G]; decide
      have T:Int.toNat (2:Int)<v.length:=by rw[G]; decide
      have n3:Int.toNat (3:Int)<v.length:=by rw[G]; decide
      unfold IV;by_cases o:c.2.1=1
      ·rw[if_pos (beq_iff_eq.2 o),if_pos o];have ht:=f.2.2.2.2.1.1;have j:=H9 (n:=c.2.2.2.2.1.length) ht (fun i=>!j2 (c.2.2.2.2.1.getD i 0) 0 1) (some false) (e:=KY (J0 c.2.2.1.length (q7 c),true) c ()) (F:=YM c (J0 c.2.2.1.length (q7 c),true)) (fun g i hi=>Ci hi ht ⟨oo,rfl,trivial⟩) (fun g=>aE);refine j.trans ?_;rw[T8 c.2.2.2.2.1 0 (fun x=>!j2 x 0 1),<- Bs];have e5:KY (J0 c.2.2.1.length (q7 c),true) c ()=some (J0 c.2.2.1.length (q7 c)==0&&(c.2.2.2.2.1.length:Int)==1*2 ^ (c.2.2.1.length-1)):=by
        rw[KY,Nd (by omega),gP ⟨fun _=>oo,fun _=>oo,fun _=>⟨by omega,B0g h5⟩,trivial⟩]
       rw[e5];cases c.2.2.2.2.1.any fun x=>!j2 x 0 1 <;> simp
      ·rw[if_neg (by simpa using o),if_neg o];by_cases m:c.2.1=2
       ·rw[if_pos (beq_iff_eq.2 m),if_pos m,gP ⟨fun _=>W,fun _=>X,fun _=>i2,fun _=>T,fun _=>i3,fun _=>n3,trivial⟩];have y:Int.toNat (1:Int)=1:=rfl;have s:Int.toNat (2:Int)=2:=rfl;have t:Int.toNat (3:Int)=3:=rfl;rw[y,s,t,q1,Y,q3];cases J0 c.2.2.1.length (q7 c)==1 <;> cases(c.2.2.2.2.1.length:Int)==0 <;> cases H0 c.2.2.2.1.length (k6 c) 1 <;> cases H0 c.2.2.2.1.length (k6 c) 2 <;> cases H0 c.2.2.2.1.length (k6 c) 3 <;> rfl
       ·rw[if_neg (by simpa using m),if_neg m];by_cases z:c.2.1=3
        ·rw[if_pos (beq_iff_eq.2 z),if_pos z,gP ⟨fun _=>W,fun _=>X,fun _=>i2,fun _=>T,fun _=>i3,fun _=>n3,trivial⟩];have y:Int.toNat (1:Int)=1:=rfl;have s:Int.toNat (2:Int)=2:=rfl;have t:Int.toNat (3:Int)=3:=rfl;rw[y,s,t,E,Y,w];cases J0 c.2.2.1.length (q7 c)==1 <;> cases(c.2.2.2.2.1.length:Int)==0 <;> cases H0 c.2.2.2.1.length (k6 c) 1 <;> cases H0 c.2.2.2.1.length (k6 c) 2 <;> cases H0 c.2.2.2.1.length (k6 c) 3 <;> rfl
        ·rw[if_neg (by grind),if_neg z];rfl
   grind[J4,decide,j2,trans,Ha]
abbrev Y4(l:List l6)(i:Nat):l6:=l.getD i (a7 y153)
abbrev DJ(l:List l6):Bool:=CP l.length (fun i=>Cj G8 (Y4 l i)) (fun i=>(Y4 l i).1)
theorem v0G{c:l6}(h:Cj G8 c=true):J4 c.1=true:=by
 grind[V9,G8]
theorem N0I(l:List l6)(a:wf (.sl y153) l)(f:h9 (.sl y153) l<=1048576):Mu l=some (DJ l):=by
 have h:=a.1;have u:=B7 f;have e:=Nc (n:=l.length) h (fun i (s:List ByteArray)=>(s,(i:Int))) (Y3 fun i=>(Y4 l i).1) (fun i=>!Cj G8 (Y4 l i)) (some false) (fun i s=>s.length=i) (J:=Mt l) (F:=z0A l) (fun g i s hi t=>by
  have r:((i:Int)).toNat=i:=rfl;have d:h9 y153 (Y4 l i)<=1048576:=Q3 hi f;have j:(Y4 l i).2.2.1.length<=1048576:=B7 (cF (cS (cS d)));have k:=N0w (Y4 l i) (M9 hi a) j;have z:=Qe (b:=16) hi u (by decide);refine(if_pos (by grind)).trans ?_;rw[r,gP ⟨oo,trivial⟩,lE,k,vS,gP ⟨rfl,trivial⟩,gP ⟨⟨by grind,by grind⟩,trivial⟩,gP ⟨oo,trivial⟩];rfl) (fun i s hi t _=>by grind[Y3,List.length_append]) (fun g s _=>aE) [] rfl
 refine e.trans ?_;rw[Jg l (a7 y153) (fun c:l6=>c.1)];have o:wf (.sl .str) (l.map fun c:l6=>c.1):=Jf h fun x q=>(a.2 x q).1;have y:∀v:List ByteArray,wf (.sl .str) v->Mt l v=some (decide (l.length<=8)&&C7 v.length fun i=>v.getD i (a7 .str)):=fun v m=>by
  have w:decide ((l.length:Int)<=8)=decide (l.length<=8):=by rw[decide_eq_decide]; omega
  rw[Mt,Na _ m,vS,gP ⟨fun _=>rfl,trivial⟩,w]
 rw[y _ o,Je l (fun c:l6=>c.1) (a7 y153)];show _=some (CP _ _ _);rw[<- H0C (fun i _ d=>v0G d)];split <;> rfl
theorem N0M(l:List l6)(c:wf (.sl y153) l):La l=some (DJ l):=by
 have h:=c.1;have b:=H9 (n:=l.length) h (fun i=>!Cj G8 (Y4 l i)||P6 (fun i=>(Y4 l i).1) i) (some false) (e:=ON l ()) (F:=YS l) (fun g i hi=>by
  have j:((i:Int)).toNat=i:=rfl;have d:=N0y (Y4 l i) (M9 hi c);have a:=H9 (n:=i) (by omega) (fun k=>decide ((Y4 l k).1=(Y4 l i).1)) (some false) (e:=g ((i:Int)+1)) (F:=YR l (i:Int) g) (fun m k f=>Ci f (by omega) ⟨oo,oo,trivial⟩) (fun m=>by
   refine aE.trans ?_;exact gP ⟨oo,trivial⟩)
  refine(if_pos (by grind)).trans ?_;rw[j,d,vS,gP ⟨oo,rfl,trivial⟩,a];unfold P6
  grind) (fun g=>aE)
 refine b.trans ?_;show _=some (CP _ _ _);unfold CP ON;have o:decide ((l.length:Int)<=8)=decide (l.length<=8):=by rw[decide_eq_decide]; omega
 rw[o];cases(List.range l.length).any (fun i=>!Cj G8 (Y4 l i)||P6 (fun i=>(Y4 l i).1) i) <;> rfl
abbrev l5(d:p9)(i:Nat):F7:=d.1.getD i (a7 y155)
abbrev B1(d:p9)(i:Nat):J3:=d.2.2.getD i (a7 y231)
abbrev Y5(l:List l6)(x:Int):Nat:=(l.getD x.toNat (a7 y153)).2.2.1.length
abbrev Hj(l:List l6)(d:p9):Bool:=CQ (DJ l) l.length (Y5 l) d.1.length d.2.2.length d.2.1.length (l5 d) (B1 d) (fun i=>d.2.1.getD i (a7 .str))
theorem L0j(d:p9)(a:wf y53 d)(x:Int):GL d x=some (j2 x 0 ((d.2.1.length:Int)-1)):=by
 have h:=a.2.1.1;have e:ID d.2.1=some (d.2.1.length:Int):=rfl;unfold GL;rw[e]
 repeat rw[vS]
 rw[Y2,vS,gP ⟨rfl,oo,rfl,trivial⟩]
theorem N0G(d:p9)(l:List l6)(x:F7)(k:wf y53 d)(m:wf (.sl y153) l)(f:wf y155 x):Mi d l x=some (R4 l.length (Y5 l) d.2.1.length x):=by
 have h:=m.1;have a:=f.2.2.1;have e:Fy l=some (l.length:Int):=rfl;have c:∀y,Mh y d=some (!j2 y 0 ((d.2.1.length:Int)-1)):=fun y=>by
  unfold Mh;rw[L0j d k,gP ⟨rfl,trivial⟩,vS]
 have n:Pe x.2.2 d=_:=CR a (fun i=>!j2 (x.2.2.getD i 0) 0 ((d.2.1.length:Int)-1)) (fun g i hi=>Hg hi a (c _)) (fun g=>aE);have b:Pf x.2.2 d=_:=Hh n;rw[T8 x.2.2 0 (fun y=>!j2 y 0 ((d.2.1.length:Int)-1))] at b;unfold Mi;rw[e,b]
 repeat rw[vS]
 rw[Y2,vS,gP ⟨rfl,oo,rfl,fun j=>by
  have:=A4.1 j.1;exact oo,fun _=>rfl,trivial⟩,Bs]
 rfl
theorem N0H(d:p9)(a:wf y53 d)(u:h9 y53 d<=1048576):Pk d=some (decide (d.1.length<=14)&&decide (d.2.1.length<=30)&&decide (d.2.2.length<=8)&&C7 d.1.length (fun i=>(l5 d i).1)&&C7 d.2.1.length (fun i=>d.2.1.getD i (a7 .str))&&C7 d.2.2.length (fun i=>(B1 d i).1)):=by
 have h:=a.1.1;have f:=a.2.2.1;have j:d.1.length<=1048576:=B7 (cF u);have o:d.2.2.length<=1048576:=B7 (cS (cS u));have l:=lF (n:=d.1.length) h (fun i (s:List ByteArray)=>(s,(i:Int))) (Y3 fun i=>(l5 d i).1) (fun i s=>s.length=i) (J:=Mm d) (F:=z0z d) (fun g i s hi r=>by
  have t:((i:Int)).toNat=i:=rfl;have G:=Qe (b:=16) hi j (by decide);refine(if_pos (by grind)).trans ?_;rw[t,gP ⟨oo,trivial⟩,lE,gP ⟨⟨by grind,by grind⟩,trivial⟩,gP ⟨oo,trivial⟩];rfl) (fun i s hi r=>by grind[Y3,List.length_append]) (fun g s _=>aE) [] rfl
 refine l.trans ?_;rw[Jg d.1 (a7 y155) (fun c:F7=>c.1)];have k:wf (.sl .str) (d.1.map fun c:F7=>c.1):=Jf h fun x q=>(a.1.2 x q).1;have m:wf (.sl .str) (d.2.2.map fun c:J3=>c.1):=Jf f fun x q=>(a.2.2.2 x q).1;have Q:∀v:List ByteArray,wf (.sl .str) v->v.length=d.1.length->Mm d v=some (decide (d.1.length<=14)&&decide (d.2.1.length<=30)&&decide (d.2.2.length<=8)&&(C7 v.length fun i=>v.getD i (a7 .str))&&C7 d.2.1.length (fun i=>d.2.1.getD i (a7 .str))&&C7 d.2.2.length (fun i=>(B1 d i).1)):=fun v w y=>by
  rw[Mm];have e:=lF (n:=d.2.2.length) f (fun i (s:List ByteArray)=>(s,(i:Int))) (Y3 fun i=>(B1 d i).1) (fun i s=>s.length=i) (J:=Mj v d) (F:=z0y d v) (fun g i s hi r=>by
   have t:((i:Int)).toNat=i:=rfl;have G:=Qe (b:=16) hi o (by decide);refine(if_pos (by grind)).trans ?_;rw[t,gP ⟨oo,trivial⟩,lE,gP ⟨⟨by grind,by grind⟩,trivial⟩,gP ⟨oo,trivial⟩];rfl) (fun i s hi r=>by grind[Y3,List.length_append]) (fun g s _=>aE) [] rfl
  refine e.trans ?_;rw[Jg d.2.2 (a7 y231) (fun c:J3=>c.1)];have V:∀z:List ByteArray,wf (.sl .str) z->z.length=d.2.2.length->Mj v d z=some (decide (d.1.length<=14)&&decide (d.2.1.length<=30)&&decide (d.2.2.length<=8)&&(C7 v.length fun i=>v.getD i (a7 .str))&&C7 d.2.1.length (fun i=>d.2.1.getD i (a7 .str))&&C7 z.length (fun i=>z.getD i (a7 .str))):=fun z hz P=>by
   have H:decide ((v.length:Int)<=14)=decide (d.1.length<=14):=by rw[decide_eq_decide]; omega
   have T:decide ((d.2.1.length:Int)<=30)=decide (d.2.1.length<=30):=by rw[decide_eq_decide]; omega
   have E:decide ((z.length:Int)<=8)=decide (d.2.2.length<=8):=by rw[decide_eq_decide]; omega
   rw[Mj,Na _ w,Na _ hz,Na _ a.2.1,vS,vS,vS,gP ⟨fun _=>rfl,fun _=>rfl,fun _=>rfl,trivial⟩,H,T,E]
  rw[V _ m (List.length_map _),Je d.2.2 (fun c:J3=>c.1) (a7 y231)]
 rw[Q _ k (List.length_map _),Je d.1 (fun c:F7=>c.1) (a7 y155)]
theorem Qf{l:List l6}(h:DJ l=true){x:Int}(b:j2 x 0 ((l.length:Int)-1)=true):2<=Y5 l x/\Y5 l x<=5:=by
 have h:CP _ _ _=true:=h;unfold CP at h;rw[ba] at h;rw[A4] at b;have:=Cf.1 h.1 x.toNat (by omega);rw[Bool.or_eq_false_iff,Bool.not_eq_false'] at this;have a:V9 G8 _ _ _ _ _ _ _ _ _=true:=this.1;unfold V9 at a;simp only[ba] at a;have:=IU a.1.1.1.1.2
 grind
theorem Ux{a b:Nat}{O6:Int->Nat}{x:F6}(h:R4 a O6 b x=true)(c:∀y,j2 y 0 ((a:Int)-1)=true->2<=O6 y):1<=x.2.2.length/\j2 (x.2.2.getD (x.2.2.length-1) 0) 0 ((b:Int)-1)=true:=by
 grind[R4]
theorem N0L(l:List l6)(d:p9)(u:wf (.sl y153) l)(c:wf y53 d):OI l d=some (!((List.range d.1.length).any fun i=>!R4 l.length (Y5 l) d.2.1.length (l5 d i))&&!((List.range d.2.2.length).any fun i=>!R5 d.2.1.length (B1 d i))):=by
 have h:=u.1;have f:=c.1.1;have m:=c.2.2.1;have q:=c.2.1.1;have w:OH d ()=some (!((List.range d.2.2.length).any fun i=>!R5 d.2.1.length (B1 d i))):=by
  have b:=H9 (n:=d.2.2.length) m (fun i=>!R5 d.2.1.length (B1 d i)) (some false) (e:=some true) (F:=Yv d) (fun g i hi=>by
   have j:((i:Int)).toNat=i:=rfl;refine(if_pos (by grind)).trans ?_;rw[j,R8,R8,vS,vS,gP ⟨oo,rfl,fun _=>oo,fun _=>oo,fun _=>rfl,trivial⟩,gP ⟨oo,trivial⟩]
   grind[R5,Bool.not_and]) (fun g=>aE)
  refine b.trans ?_;cases(List.range d.2.2.length).any fun i=>!R5 d.2.1.length (B1 d i) <;> rfl
 have b:=H9 (n:=d.1.length) f (fun i=>!R4 l.length (Y5 l) d.2.1.length (l5 d i)) (some false) (e:=OH d ()) (F:=Yy d l) (fun g i hi=>by
  have j:((i:Int)).toNat=i:=rfl;have s:=M9 (d:=a7 y155) hi c.1;have o:=s.2.2.1;refine(if_pos (by grind)).trans ?_;rw[j,gP ⟨oo,trivial⟩,lE,R8,vS,gP ⟨oo,rfl,fun t=>by
   have:=t.1;rw[Bool.not_eq_false'] at this;have:=A4.1 this;exact oo,trivial⟩]
  have a:=H9 (n:=(l5 d i).2.2.length) o (fun k=>!j2 ((l5 d i).2.2.getD k 0) 0 ((d.2.1.length:Int)-1)) (some false) (e:=g ((i:Int)+1)) (F:=Yx (l5 d i) d (i:Int) g) (fun v k r=>by
   refine(Ci r o ⟨oo,oo,rfl,trivial⟩).trans ?_;rfl) (fun v=>by
   refine aE.trans ?_;exact gP ⟨oo,trivial⟩)
  rw[T8 (l5 d i).2.2 0 (fun y=>!j2 y 0 ((d.2.1.length:Int)-1))] at a;rw[a];unfold R4
  grind[Bs]) (fun g=>aE)
 refine b.trans ?_
 grind
theorem q0o(v:List Int):(!v.any fun x=>x != 1)=v.all (·==1):=Bs v (fun x=>x==1)
theorem Uy{n b:Nat}(h:n<=1048576)(a:b<=4096):(0<=(n:Int)/\(n:Int)=(n:Int)/\(n:Int).toNat*b<=281474976710656/\(n:Int)<=9223372036854775807)/\True:=by
 have c:n*b<=1048576*4096:=Nat.mul_le_mul h a;exact⟨⟨by omega,rfl,by rw[Int.toNat_natCast]; omega,by omega⟩,trivial⟩
theorem Nf{v:List Int}{n b:Nat}{x:Int}(h:Ah v n b)(e:b<=2097152)(d:j2 x 0 ((n:Int)-1)=true):ix x v.length/\x.toNat<v.length/\b9 (v.getD x.toNat 0+1)/\ix x v.length/\x.toNat<v.length/\True:=by
 obtain⟨a,c⟩:=x0I h d;have:=h.2 x.toNat;exact⟨a,c,oo,a,c,trivial⟩
theorem Qg{n:Nat}(a:1<=n)(h:n<=9223372036854775807):b9 ((n:Int)-1)/\ix ((n:Int)-1) n:=⟨oo,oo⟩
theorem N0T(l:List l6)(d:p9)(E:wf (.sl y153) l)(e:wf y53 d)(H:h9 (.sl y153) l<=1048576)(md:h9 y53 d<=1048576):Mw l d=some (Hj l d):=by
 have q:=e.1.1;have o:=e.2.2.1;have mi:d.1.length<=1048576:=B7 (cF md);have T:d.2.1.length<=1048576:=B7 (cF (cS md));have Y:d.2.2.length<=1048576:=B7 (cS (cS md));show _=some (CQ _ _ _ _ _ _ _ _ _);unfold Mw CQ;rw[N0I l E H,N0H d e md,vS,vS,gP ⟨rfl,fun _=>rfl,trivial⟩];cases hlo:DJ l with
 | false=>grind
 | true =>
   rw[Bool.true_and];cases hno:(decide (d.1.length<=14)&&decide (d.2.1.length<=30)&&decide (d.2.2.length<=8)&&C7 d.1.length (fun i=>(l5 d i).1)&&C7 d.2.1.length (fun i=>d.2.1.getD i (a7 .str))&&C7 d.2.2.length (fun i=>(B1 d i).1)) with
   | false=>grind
   | true =>
     refine(if_neg (by simp)).trans ?_;rw[gP (Uy T (by decide)),Int.toNat_natCast];have j:∀y,j2 y 0 ((l.length:Int)-1)=true->2<=Y5 l y:=fun y V=>(Qf hlo V).1;have m:=Nc (n:=d.1.length) q (fun i (v:List Int)=>((i:Int),v)) (T9 (l5 d)) (fun i=>!R4 l.length (Y5 l) d.2.1.length (l5 d i)) (some false) (fun i v=>i<=d.1.length/\Ah v d.2.1.length i) (J:=Pz d) (F:=A0n d l) (fun g i v hi c=>by
      have t:((i:Int)).toNat=i:=rfl;have u:=M9 (d:=a7 y155) hi e.1;refine(if_pos (by grind)).trans ?_;rw[t,gP ⟨oo,trivial⟩,lE,N0G d l _ e E u,vS,gP ⟨rfl,trivial⟩];cases hin:R4 l.length (Y5 l) d.2.1.length (l5 d i) with
      | false=>rfl
      | true =>
        obtain⟨r,P⟩:=Ux hin j;have a:(l5 d i).2.2.length<=9223372036854775807:=u.2.2.1;refine(if_neg (by simp)).trans ?_;rw[Nd r,gP ⟨(Qg r a).1,(Qg r a).2,Nf c.2 (by omega) P⟩,lE,gP ⟨oo,trivial⟩];rfl) (fun i v hi c _=>⟨by omega,IX c.2 _⟩) (fun g v _=>aE) (List.replicate d.2.1.length 0) ⟨by omega,PW _ _⟩
     refine m.trans ?_;cases hia:(List.range d.1.length).any fun i=>!R4 l.length (Y5 l) d.2.1.length (l5 d i) with
     | true=>simp
     | false =>
       refine(if_neg (by simp)).trans ?_;have b:=Uc (l5 d) d.2.1.length d.1.length;unfold FL;generalize fN (T9 (l5 d)) d.1.length (List.replicate d.2.1.length 0)=v0 at *
       rw[Pz];have f:=Nc (n:=d.2.2.length) o (fun i (v:List Int)=>((i:Int),v)) (N6 (B1 d)) (fun i=>!R5 d.2.1.length (B1 d i)) (some false) (fun i v=>i<=d.2.2.length/\Ah v d.2.1.length (d.1.length+i)) (J:=Mv) (F:=A0m d) (fun g i v hi c=>by
        have t:((i:Int)).toNat=i:=rfl;have w:∀s,Py (i:Int) g s=g (((i+1:Nat):Int),s):=fun s=>gP ⟨oo,trivial⟩;refine(if_pos (by grind)).trans ?_;rw[t,gP ⟨oo,trivial⟩,lE,L0j d e,vS,gP ⟨fun _=>rfl,trivial⟩,w,w];have Q:((B1 d i).2.1 != 1&&(B1 d i).2.1 != 2||!j2 (B1 d i).2.2 0 ((d.2.1.length:Int)-1))=!R5 d.2.1.length (B1 d i):=by
         unfold R5;rw[Bool.not_and];congr 1;rw[Bool.eq_iff_iff];simp only[ba,bne_iff_ne,Bool.not_eq_true',<- Bool.not_eq_true,A4];omega
        show(if((B1 d i).2.1 != 1&&(B1 d i).2.1 != 2||!j2 (B1 d i).2.2 0 ((d.2.1.length:Int)-1))=true then some false else _)=_;rw[Q];cases hpo:R5 d.2.1.length (B1 d i) with
        | false=>rfl
        | true =>
          have h:j2 (B1 d i).2.2 0 ((d.2.1.length:Int)-1)=true:=by
           unfold R5 at hpo;rw[ba] at hpo;exact hpo.2
          refine(if_neg (by simp)).trans ?_;show _=g (_,N6 (B1 d) i v);unfold N6;by_cases z:(B1 d i).2.1=1
          ·rw[if_pos (beq_iff_eq.2 z),if_pos z];exact gP (Nf c.2 (by omega) h)
          grind) (fun i v hi c _=>⟨by omega,by
          grind[N6,IX,Ub]⟩) (fun g v _=>aE) v0 ⟨by omega,b⟩
       refine f.trans ?_;cases hpa:(List.range d.2.2.length).any fun i=>!R5 d.2.1.length (B1 d i) with
       | true=>simp
       | false =>
         refine(if_neg (by simp)).trans ?_;have k:∀v:List Int,v.length<=9223372036854775807->Mv v=some (v.all (·==1)):=fun v k=>by
          have W:Pw v=_:=CR k (fun i=>v.getD i 0 != 1) (fun g i hi=>Hg hi k rfl) (fun g=>aE);have G:Px v=_:=Hh W;rw[T8 v 0 (fun x=>x != 1)] at G;rw[Mv,G,vS,gP ⟨rfl,trivial⟩,q0o]
         have a:(fN (N6 (B1 d)) d.2.2.length v0).length<=9223372036854775807:=by
          have:∀n,(fN (N6 (B1 d)) n v0).length=v0.length:=by
           intro n
           induction n with
           | zero=>rfl
           | succ n X =>
             grind[fN,N6,Ce,List.length_set]
          rw[this,b.1]; omega
         grind
theorem N0U(l:List l6)(d:p9)(hl:wf (.sl y153) l)(t:wf y53 d)(md:h9 y53 d<=1048576):Lf l d=some (Hj l d):=by
 have m:=t.1.1;have k:=t.2.2.1;have mi:d.1.length<=1048576:=B7 (cF md);have mn:d.2.1.length<=1048576:=B7 (cF (cS md));have mp:d.2.2.length<=1048576:=B7 (cS (cS md));show _=some (CQ _ _ _ _ _ _ _ _ _);unfold Lf;rw[N0M l hl,N0L l d hl t,vS,vS,gP ⟨rfl,fun _=>rfl,trivial⟩];by_cases o:DJ l=true/\d.1.length<=14/\d.2.1.length<=30/\d.2.2.length<=8/\((List.range d.1.length).any fun i=>!R4 l.length (Y5 l) d.2.1.length (l5 d i))=false/\((List.range d.2.2.length).any fun i=>!R5 d.2.1.length (B1 d i))=false
 ·obtain⟨w,aA,X,h8,P,H⟩:=o;have a1:decide (14 < (d.1.length:Int))=false:=decide_eq_false (by omega);have a2:decide (30 < (d.2.1.length:Int))=false:=decide_eq_false (by omega);have a3:decide (8 < (d.2.2.length:Int))=false:=decide_eq_false (by omega);rw[w,a1,a2,a3,P,H];refine(if_neg (by simp)).trans ?_;have G:∀y,j2 y 0 ((l.length:Int)-1)=true->2<=Y5 l y:=fun y hy=>(Qf w hy).1;have T:∀i,i<d.1.length->R4 l.length (Y5 l) d.2.1.length (l5 d i)=true:=fun i hi=>by
   grind
  have q:∀i,i<d.2.2.length->R5 d.2.1.length (B1 d i)=true:=fun i hi=>by
   grind
  have Sf:∀v:List Int,v.length<=9223372036854775807->Lb v=some (v.all (·==1)):=fun v u=>by
   rw[Lb];have a:=H9 (n:=v.length) u (fun i=>v.getD i 0 != 1) (some false) (e:=some true) (F:=YU v) (fun g i hi=>by
    refine(Ci hi u ⟨oo,by omega,trivial⟩).trans ?_;rfl) (fun g=>aE)
   refine a.trans ?_;rw[T8 v 0 (fun x=>x != 1),<- q0o]
   grind
  have k7:∀v:List Int,Ah v d.2.1.length d.1.length->Lc d v=some ((fN (N6 (B1 d)) d.2.2.length v).all (·==1)):=fun W h=>by
   rw[Lc];have a:=lF (n:=d.2.2.length) k (fun i (v:List Int)=>((i:Int),v)) (N6 (B1 d)) (fun i v=>i<=d.2.2.length/\Ah v d.2.1.length (d.1.length+i)) (J:=Lb) (F:=YV d) (fun g i v hi b=>by
    have r:((i:Int)).toNat=i:=rfl;have j8:∀v',OO (i:Int) g v'=g (((i+1:Nat):Int),v'):=fun v'=>gP ⟨oo,trivial⟩;have E:j2 (B1 d i).2.2 0 ((d.2.1.length:Int)-1)=true:=by
     have:=q i hi;unfold R5 at this;rw[ba] at this;exact this.2
    refine(if_pos (by grind)).trans ?_;rw[r,gP ⟨oo,trivial⟩,j8];show(if((B1 d i).2.1==1)=true then _ else _)=g (_,N6 (B1 d) i v);unfold N6;by_cases k1:(B1 d i).2.1=1
    ·rw[if_pos (beq_iff_eq.2 k1),if_pos k1];refine(gP ⟨oo,Nf b.2 (by omega) E⟩).trans ?_;rw[lE];exact j8 _
    grind) (fun i v hi b=>⟨by omega,by
    grind[N6,IX,Ub]⟩) (fun g v _=>aE) W ⟨by omega,h⟩
   refine a.trans (Sf _ ?_);have:∀n,(fN (N6 (B1 d)) n W).length=W.length:=by
    intro n
    induction n with
    | zero=>rfl
    | succ n ih =>
      grind[fN,N6,Ce,List.length_set]
   rw[this,h.1]; omega
  have k5:lp (SG d) ((0:Int),List.replicate d.2.1.length 0)=some ((FL d.1.length d.2.2.length d.2.1.length (l5 d) (B1 d)).all (·==1)):=by
   have a:=lF (n:=d.1.length) m (fun i (v:List Int)=>((i:Int),v)) (T9 (l5 d)) (fun i v=>i<=d.1.length/\Ah v d.2.1.length i) (J:=Lc d) (F:=SG d) (fun g i v hi b=>by
    have r:((i:Int)).toNat=i:=rfl;have Q:=M9 (d:=a7 y155) hi t.1;obtain⟨g1,g2⟩:=Ux (T i hi) G;have j:(l5 d i).2.2.length<=9223372036854775807:=Q.2.2.1;refine(if_pos (by grind)).trans ?_;rw[r,gP ⟨oo,trivial⟩,lE,Nd g1,gP ⟨(Qg g1 j).1,(Qg g1 j).2,Nf b.2 (by omega) g2⟩,lE,gP ⟨oo,trivial⟩];rfl) (fun i v hi b=>⟨by omega,IX b.2 _⟩) (fun g v _=>aE) (List.replicate d.2.1.length 0) ⟨by omega,PW _ _⟩
   refine a.trans (k7 _ (Uc _ _ _))
  have V:wf (.sl .str) (d.1.map fun c:F7=>c.1):=Jf m fun x Q=>(t.1.2 x Q).1;have Y:wf (.sl .str) (d.2.2.map fun c:J3=>c.1):=Jf k fun x Q=>(t.2.2.2 x Q).1;have k2:∀v z:List ByteArray,wf (.sl .str) v->wf (.sl .str) z->Ld d v z=some ((C7 v.length fun i=>v.getD i (a7 .str))&&(C7 z.length fun i=>z.getD i (a7 .str))&&C7 d.2.1.length (fun i=>d.2.1.getD i (a7 .str))&&(FL d.1.length d.2.2.length d.2.1.length (l5 d) (B1 d)).all (·==1)):=fun v z u hz=>by
   rw[Ld,Uq _ u,Uq _ hz,Uq _ t.2.1,vS,vS,vS,gP ⟨rfl,fun _=>rfl,fun _=>rfl,trivial⟩,gP (Uy mn (by decide)),Int.toNat_natCast,k5];cases(C7 v.length fun i=>v.getD i (a7 .str)) <;> cases(C7 z.length fun i=>z.getD i (a7 .str)) <;> cases C7 d.2.1.length (fun i=>d.2.1.getD i (a7 .str)) <;> rfl
  have k3:∀v:List ByteArray,wf (.sl .str) v->Le d v=some ((C7 v.length fun i=>v.getD i (a7 .str))&&C7 d.2.2.length (fun i=>(B1 d i).1)&&C7 d.2.1.length (fun i=>d.2.1.getD i (a7 .str))&&(FL d.1.length d.2.2.length d.2.1.length (l5 d) (B1 d)).all (·==1)):=fun v u=>by
   rw[Le];have a:=lF (n:=d.2.2.length) k (fun i (s:List ByteArray)=>((i:Int),s)) (Y3 fun i=>(B1 d i).1) (fun i s=>s.length=i) (J:=Ld d v) (F:=YW d v) (fun g i s hi b=>by
    have r:((i:Int)).toNat=i:=rfl;refine(if_pos (by grind)).trans ?_;rw[r,gP ⟨oo,⟨by grind,by grind⟩,trivial⟩,gP ⟨oo,trivial⟩];rfl) (fun i s hi b=>by grind[Y3,List.length_append]) (fun g s _=>aE) [] rfl
   refine a.trans ?_;rw[Jg d.2.2 (a7 y231) (fun c:J3=>c.1),k2 _ _ u Y,Je d.2.2 (fun c:J3=>c.1) (a7 y231)]
  have a:=lF (n:=d.1.length) m (fun i (s:List ByteArray)=>((i:Int),s)) (Y3 fun i=>(l5 d i).1) (fun i s=>s.length=i) (J:=Le d) (F:=YX d) (fun g i s hi b=>by
   have r:((i:Int)).toNat=i:=rfl;refine(if_pos (by grind)).trans ?_;rw[r,gP ⟨oo,⟨by grind,by grind⟩,trivial⟩,gP ⟨oo,trivial⟩];rfl) (fun i s hi b=>by grind[Y3,List.length_append]) (fun g s _=>aE) [] rfl
  refine a.trans ?_;rw[Jg d.1 (a7 y155) (fun c:F7=>c.1),k3 _ V,Je d.1 (fun c:F7=>c.1) (a7 y155)];unfold CQ;rw[P,H,decide_eq_true aA,decide_eq_true X,decide_eq_true h8];cases C7 d.1.length (fun i=>(l5 d i).1) <;> cases C7 d.2.1.length (fun i=>d.2.1.getD i (a7 .str)) <;> cases C7 d.2.2.length (fun i=>(B1 d i).1) <;> rfl
 ·have e0:(!DJ l||decide (14 < (d.1.length:Int))||decide (30 < (d.2.1.length:Int))||decide (8 < (d.2.2.length:Int))||!(!((List.range d.1.length).any fun i=>!R4 l.length (Y5 l) d.2.1.length (l5 d i))&&!((List.range d.2.2.length).any fun i=>!R5 d.2.1.length (B1 d i))))=true:=by
   rw[<- Bool.not_eq_false];intro f;simp only[Bool.or_eq_false_iff,Bool.not_eq_false',decide_eq_false_iff_not,ba,Bool.not_eq_true'] at f;exact o ⟨f.1.1.1.1,by omega,by omega,by omega,f.2.1,f.2.2⟩
  refine(if_pos e0).trans ?_;refine congrArg some ?_
  symm
  rw[<- Bool.not_eq_true];intro f;unfold CQ at f;simp only[ba,dq,Bool.not_eq_true'] at f;obtain⟨⟨⟨⟨⟨⟨⟨⟨⟨c1,c2⟩,c3⟩,c4⟩,_⟩,_⟩,_⟩,c5⟩,c6⟩,_⟩:=f;exact o ⟨c1,c2,c3,c4,c5,c6⟩
abbrev Ng(w:C3)(i:Nat):Bool:=(i==0&&(w.1.getD i 0 != -1||w.2.1.getD 0 0 != 0))||(decide (0<i)&&!j2 (w.1.getD i 0) 0 ((i:Int)-1))
theorem N0F(w:C3)(b:wf y172 w)(j:w.2.1.length=w.1.length):CH w=some (!(List.range w.1.length).any (Ng w)):=by
 have h:=b.1.1;have a:=H9 (n:=w.1.length) h (Ng w) (some false) (e:=some true) (F:=z0w w) (fun g i hi=>by
  have c:((i:Int)).toNat=i:=rfl;have d:((i:Int)==0)=(i==0):=by rw[Bool.eq_iff_iff,beq_iff_eq,beq_iff_eq]; omega
  have f:decide ((0:Int) < (i:Int))=decide (0<i):=by rw[decide_eq_decide]; omega
  refine(if_pos (by simpa using hi)).trans ?_;rw[c,d,f,Y2,vS,gP ⟨oo,trivial⟩,gP ⟨fun _=>oo,fun _=>oo,fun _=>rfl,trivial⟩,gP ⟨oo,trivial⟩];rfl) (fun g=>aE)
 refine a.trans ?_
 grind
theorem N0S(w:C3)(n:Int)(d:wf y172 w):Mf w n=some (Bt w n):=by
 obtain⟨⟨i,_⟩,⟨h,_⟩,⟨g,_⟩,f,_⟩:=id d;have e:∀xs:List Int,D9 xs=some (xs.length:Int):=fun _=>rfl;unfold Mf;rw[e,e,e,e]
 repeat rw[vS]
 rw[gP ⟨rfl,trivial⟩,lE,Y2,Hi _ _ _ h,Hi _ _ _ g,Hi _ _ _ f]
 repeat rw[vS]
 by_cases b:(j2 (w.1.length:Int) 1 8&&(w.2.1.length:Int)==(w.1.length:Int)&&(w.2.2.1.length:Int)==(w.1.length:Int))=true
 ·have c:=b;simp only[ba,beq_iff_eq,A4] at c;rw[N0F w d (by omega),vS,gP ⟨rfl,fun _=>rfl,fun _=>rfl,fun _=>rfl,fun _=>rfl,fun _=>rfl,fun _=>rfl,fun _=>oo,fun _=>rfl,trivial⟩,lE];refine congrArg some ?_;rw[b];unfold Bt;rw[decide_eq_true (show 1<=w.1.length by omega),decide_eq_true (show w.1.length<=8 by omega),decide_eq_true (show w.2.1.length=w.1.length by omega),decide_eq_true (show w.2.2.1.length=w.1.length by omega)];cases(List.range w.1.length).any (Ng w) <;> cases w.2.1.all (j2 · 0 1000) <;> cases w.2.2.1.all (j2 · 0 500) <;> cases(w.2.2.2.length:Int)==n <;> cases w.2.2.2.all (j2 · 0 ((w.1.length:Int)-1)) <;> rfl
 ·have c:(j2 (w.1.length:Int) 1 8&&(w.2.1.length:Int)==(w.1.length:Int)&&(w.2.2.1.length:Int)==(w.1.length:Int))=false:=by simpa using b
  rw[c,gP ⟨rfl,fun _=>rfl,fun _=>rfl,fun a=>by simp at a,fun a=>by simp at a,fun a=>by simp at a,fun a=>by simp at a,fun a=>by simp at a,fun a=>by simp at a,trivial⟩,lE];refine congrArg some ?_;rw[c];simp only[Bool.false_and]
  symm
  rw[<- Bool.not_eq_true];intro a;unfold Bt at a;simp only[ba,dq] at a;refine b ?_;simp only[ba,beq_iff_eq,A4];omega
theorem L0o(w:C3)(n:Int)(m:wf y172 w):KO w n=some (Bt w n):=by
 obtain⟨⟨q,_⟩,⟨y,_⟩,⟨v,_⟩,c,_⟩:=id m;unfold KO;by_cases b:1<=w.1.length/\w.1.length<=8/\w.2.1.length=w.1.length/\w.2.2.1.length=w.1.length/\(w.2.2.2.length:Int)=n
 ·obtain⟨l,r,j,h,u⟩:=b;have a:(decide ((w.1.length:Int)<1)||decide (8 < (w.1.length:Int))||(w.2.1.length:Int) != (w.1.length:Int)||(w.2.2.1.length:Int) != (w.1.length:Int)||(w.2.2.2.length:Int) != n)=false:=by
   rw[<- Bool.not_eq_true]; simp; omega
  refine(if_neg (by rw[a]; simp)).trans ?_;have f:=H9 (n:=w.2.2.2.length) c (fun i=>!j2 (w.2.2.2.getD i 0) 0 ((w.1.length:Int)-1)) (some false) (e:=some true) (F:=Yo w) (fun g i hi=>Ci hi c ⟨oo,oo,rfl,trivial⟩) (fun g=>aE);rw[T8 w.2.2.2 0 (fun x=>!j2 x 0 ((w.1.length:Int)-1))] at f;have s:=H9 (n:=w.1.length) q (fun i=>(!j2 (w.2.2.1.getD i 0) 0 500||!j2 (w.2.1.getD i 0) 0 1000)||Ng w i) (some false) (e:=OE w ()) (F:=Yp w) (fun g i hi=>by
   have o:((i:Int)).toNat=i:=rfl;have a:((i:Int)==0)=(i==0):=by rw[Bool.eq_iff_iff,beq_iff_eq,beq_iff_eq]; omega
   have t:decide ((0:Int) < (i:Int))=decide (0<i):=by rw[decide_eq_decide]; omega
   refine(if_pos (by simpa using hi)).trans ?_;rw[o,a,t,R8,R8,R8]
   repeat rw[vS]
   rw[gP ⟨oo,rfl,fun _=>oo,fun _=>rfl,trivial⟩,gP ⟨fun _=>oo,fun _=>oo,fun _=>oo,fun _=>oo,fun _=>rfl,trivial⟩,gP ⟨oo,trivial⟩]
   grind) (fun g=>aE)
  refine s.trans ?_;rw[PX,PX];have d:=T8 w.2.2.1 0 (fun x=>!j2 x 0 500);have k:=T8 w.2.1 0 (fun x=>!j2 x 0 1000);rw[h] at d;rw[j] at k;rw[d,k];unfold OE;rw[f];unfold Bt;rw[decide_eq_true l,decide_eq_true r,decide_eq_true j,decide_eq_true h,beq_iff_eq.2 u,<- Bs,<- Bs,<- Bs];cases(List.range w.1.length).any (Ng w) <;> cases w.2.1.any (fun x=>!j2 x 0 1000) <;> cases w.2.2.1.any (fun x=>!j2 x 0 500) <;> cases w.2.2.2.any (fun x=>!j2 x 0 ((w.1.length:Int)-1)) <;> rfl
 grind[decide,trans,Bt]
theorem Qh(d:p9)(l:wf y53 d)(t:d.1.length<=14)(y:d.2.2.length<=8)(m:∀i,i<d.1.length->1<=(l5 d i).2.2.length/\(l5 d i).2.2.length<=5):BW d=some (O7 d.1.length d.2.2.length (l5 d) (B1 d)):=by
 have b:=l.1.1;have h:=l.2.2.1;unfold BW;have u:∀s:List B6,s.length<=70->Mg d s=some (fN (Q5 (B1 d)) d.2.2.length s):=fun j E=>by
  rw[Mg];exact lF (n:=d.2.2.length) h (fun i (s:List B6)=>((i:Int),s)) (Q5 (B1 d)) (fun i s=>s.length=j.length+i) (J:=fun s=>some s) (F:=A0i d) (fun g i s hi e=>by
   have c:((i:Int)).toNat=i:=rfl;refine(if_pos (by grind)).trans ?_;rw[c,gP ⟨oo,trivial⟩,lE,gP ⟨⟨by grind,by grind⟩,trivial⟩,gP ⟨oo,trivial⟩];rfl) (fun i s hi e=>by grind[Q5,List.length_append]) (fun g s _=>aE) j rfl
 have f:=lF (n:=d.1.length) b (fun i (s:List B6)=>(s,(i:Int))) (P7 (l5 d)) (fun i s=>s.length<=5*i) (J:=Mg d) (F:=A0k d) (fun g i s hi e=>by
  have c:((i:Int)).toNat=i:=rfl;have w:=(m i hi).2;have q:(l5 d i).2.2.length<=9223372036854775807:=by omega
  refine(if_pos (by grind)).trans ?_;rw[c,gP ⟨oo,trivial⟩,lE];have a:=lF (n:=(l5 d i).2.2.length) q (fun k (s:List B6)=>((k:Int),s)) (U0 (l5 d i) i) (fun k z=>z.length=s.length+k) (J:=SX (i:Int) g) (F:=A0j (i:Int) (l5 d i) g) (fun v k z o hz=>by
   have r:((k:Int)).toNat=k:=rfl;refine(if_pos (by grind)).trans ?_;rw[r,gP ⟨oo,trivial⟩,gP ⟨oo,⟨by grind,by grind⟩,trivial⟩,lE];exact gP ⟨oo,trivial⟩) (fun k z o hz=>by grind[U0,List.length_append]) (fun v z _=>aE) s rfl
  refine a.trans ?_;exact gP ⟨oo,trivial⟩) (fun i s hi e=>by
  grind[P7,Hd]) (fun g s _=>aE) [] (Nat.zero_le _)
 refine f.trans (u _ ?_);have:=PY (x:=l5 d) (ni:=d.1.length) (fun i hi=>(m i hi).2) d.1.length (Nat.le_refl _);omega
theorem FN(d:p9)(l:wf y53 d)(t:d.1.length<=14)(y:d.2.2.length<=8)(m:∀i,i<d.1.length->1<=(l5 d i).2.2.length/\(l5 d i).2.2.length<=5):M0 d=some (O7 d.1.length d.2.2.length (l5 d) (B1 d)):=by
 have b:=l.1.1;have h:=l.2.2.1;unfold M0;have u:∀s:List D5,s.length<=70->KE d s=some (fN (Q5 (B1 d)) d.2.2.length s):=fun j E=>by
  rw[KE];exact lF (n:=d.2.2.length) h (fun i (s:List D5)=>((i:Int),s)) (Q5 (B1 d)) (fun i s=>s.length=j.length+i) (J:=fun s=>some s) (F:=XA d) (fun g i s hi e=>by
   have c:((i:Int)).toNat=i:=rfl;refine(if_pos (by grind)).trans ?_;rw[c,gP ⟨oo,oo,⟨by grind,by grind⟩,trivial⟩,lE];exact gP ⟨oo,trivial⟩) (fun i s hi e=>by grind[Q5,List.length_append]) (fun g s _=>aE) j rfl
 have f:=lF (n:=d.1.length) b (fun i (s:List D5)=>((i:Int),s)) (P7 (l5 d)) (fun i s=>s.length<=5*i) (J:=KE d) (F:=XC d) (fun g i s hi e=>by
  have c:((i:Int)).toNat=i:=rfl;have w:=(m i hi).2;have q:(l5 d i).2.2.length<=9223372036854775807:=by omega
  refine(if_pos (by grind)).trans ?_;rw[c,gP ⟨oo,trivial⟩,lE];have a:=lF (n:=(l5 d i).2.2.length) q (fun k (s:List D5)=>((k:Int),s)) (U0 (l5 d i) i) (fun k z=>z.length=s.length+k) (J:=Sj (i:Int) g) (F:=XB (i:Int) (l5 d i) g) (fun v k z o hz=>by
   have r:((k:Int)).toNat=k:=rfl;refine(if_pos (by grind)).trans ?_;rw[r,gP ⟨oo,oo,⟨by grind,by grind⟩,trivial⟩,lE];exact gP ⟨oo,trivial⟩) (fun k z o hz=>by grind[U0,List.length_append]) (fun v z _=>aE) s rfl
  refine a.trans ?_;exact gP ⟨oo,trivial⟩) (fun i s hi e=>by
  grind[P7,Hd]) (fun g s _=>aE) [] (Nat.zero_le _)
 refine f.trans (u _ ?_);have:=PY (x:=l5 d) (ni:=d.1.length) (fun i hi=>(m i hi).2) d.1.length (Nat.le_refl _);omega
abbrev o3(d:p9):List B3:=O7 d.1.length d.2.2.length (l5 d) (B1 d)
abbrev x7(d:p9)(i:Nat):B3:=(o3 d).getD i (a7 y235)
abbrev j3(b:j1)(i:Nat):C3:=b.2.2.getD i (a7 y172)
def u3(b:j1):Bool:=Hj b.1 b.2.1&&decide (b.2.2.length=b.2.1.2.1.length)&&!(List.range b.2.2.length).any fun i=>!Bt (j3 b i) (y9 (x7 b.2.1) i (o3 b.2.1).length)
structure DF(l:List l6)(d:p9):Prop where
 lib:DJ l=true
 fac:DesignFacts l.length (Y5 l) d.1.length d.2.2.length d.2.1.length (l5 d) (B1 d)
 pin:∀i,i<d.1.length->1<=(l5 d i).2.2.length/\(l5 d i).2.2.length<=5
 plc:IY d.2.1.length (o3 d)
 len:(o3 d).length<=78
theorem U2{l:List l6}{d:p9}(h:Hj l d=true):DF l d:=by
 obtain⟨f,b⟩:=n0C h;have c:∀i,i<d.1.length->1<=(l5 d i).2.2.length/\(l5 d i).2.2.length<=5:=fun i hi=>by
  have a:=b.inst i hi;have k:=(Ux a (fun y g=>(Qf f g).1)).1;unfold R4 at a;simp only[ba,beq_iff_eq] at a
  grind[Qf]
 have e:=b.net;refine⟨f,b,c,q0l e.2 (k0A e.1 d.1.length (Nat.le_refl _)) d.2.2.length (Nat.le_refl _),?_⟩;have:=PY (x:=l5 d) (ni:=d.1.length) (fun i hi=>(c i hi).2) d.1.length (Nat.le_refl _);have j:=b.ni14;have m:=b.np8;unfold o3 O7
 grind[MV]
theorem O0g(b:j1)(f:wf j6 b)(l:h9 j6 b<=1048576):II b=some (u3 b):=by
 have y:=f.1;have s:=f.2.1;have x:=f.2.2.1;have w:b.2.2.length<=1048576:=B7 (cS (cS l));unfold II u3;rw[N0T b.1 b.2.1 y s (cF l) (cF (cS l)),vS,gP ⟨rfl,trivial⟩];cases hdo:Hj b.1 b.2.1 with
 | false=>grind
 | true =>
   have c:=U2 hdo;by_cases a:b.2.2.length=b.2.1.2.1.length
   ·have t:((b.2.2.length:Int) != (b.2.1.2.1.length:Int))=false:=by rw[a]; simp
    rw[t,decide_eq_true a];refine(if_neg (by simp)).trans ?_;rw[gP (Uy w (by decide)),Int.toNat_natCast,Qh b.2.1 s c.fac.ni14 c.fac.np8 c.pin,vS,gP ⟨rfl,trivial⟩,lE];have j:(o3 b.2.1).length<=9223372036854775807:=by have:=c.len; omega
    have d:∀i,i < (o3 b.2.1).length->j2 (x7 b.2.1 i).2.2.1 0 ((b.2.2.length:Int)-1)=true:=fun i hi=>by
     rw[a]; exact c.plc _ (K7 hi)
    have h:=lF (n:=(o3 b.2.1).length) j (fun i (v:List Int)=>((i:Int),v)) (DI (x7 b.2.1)) (fun i v=>i<=(o3 b.2.1).length/\Ah v b.2.2.length i) (J:=PA b) (F:=A0U (o3 b.2.1) b) (fun g i v hi r=>by
     have m:((i:Int)).toNat=i:=rfl;have o:∀k,PB (i:Int) g k=g (((i+1:Nat):Int),k):=fun k=>gP ⟨oo,trivial⟩;refine(if_pos (by grind)).trans ?_;rw[m,gP ⟨oo,hi,trivial⟩,lE,o];show(if(!(x7 b.2.1 i).2.2.2)=true then _ else _)=g (_,DI (x7 b.2.1) i v);unfold DI;cases hdr:(x7 b.2.1 i).2.2.2 with
     | true=>rfl
     | false =>
       refine(if_pos rfl).trans ?_;refine(gP (Nf r.2 (by have:=c.len; omega) (d i hi))).trans ?_;rw[lE];exact o _) (fun i v hi r=>⟨by omega,by
     grind[DI,IX,Ub]⟩) (fun g v _=>aE) (List.replicate b.2.2.length 0) ⟨by omega,PW _ _⟩
    refine h.trans ?_;obtain⟨z,u⟩:=m0K (x7 b.2.1) b.2.2.length (o3 b.2.1).length d;generalize fN (DI (x7 b.2.1)) (o3 b.2.1).length (List.replicate b.2.2.length 0)=v at *
    rw[PA];have q:=H9 (n:=b.2.2.length) x (fun i=>!Bt (j3 b i) (y9 (x7 b.2.1) i (o3 b.2.1).length)) (some false) (e:=some true) (F:=A0T v b) (fun g i hi=>by
     have m:((i:Int)).toNat=i:=rfl;refine(if_pos (by grind)).trans ?_;rw[m,gP ⟨oo,trivial⟩,lE,u i hi,N0S _ _ (M9 hi f.2.2),vS,gP ⟨oo,by omega,rfl,trivial⟩,gP ⟨oo,trivial⟩]) (fun g=>aE)
    grind
   grind
theorem Uz(d:p9)(h:wf y53 d){l:List l6}(a:DF l d)(t:Int):Ba d t=some (fN (O8 (x7 d) t) (o3 d).length []):=by
 have k:=a.len;unfold Ba;rw[FN d h a.fac.ni14 a.fac.np8 a.pin,vS,gP ⟨rfl,trivial⟩,lE];exact lF (n:=(o3 d).length) (by omega) (fun i (s:List Int)=>((i:Int),s)) (O8 (x7 d) t) (fun i s=>s.length<=i) (J:=fun s=>some s) (F:=XE (o3 d) t) (fun g i s hi c=>by
  have e:((i:Int)).toNat=i:=rfl;have b:∀s',On (i:Int) g s'=g (((i+1:Nat):Int),s'):=fun j=>gP ⟨oo,trivial⟩;refine(if_pos (by grind)).trans ?_;have f:s.length<=i:=c;rw[e,gP ⟨oo,hi,fun _=>oo,fun _=>hi,trivial⟩,gP ⟨⟨by grind,by grind⟩,trivial⟩,b,b];show _=g (_,O8 (x7 d) t i s);unfold O8
  grind) (fun i s hi c=>by
  grind[O8,List.length_append]) (fun g s _=>aE) [] (Nat.le_refl _)
theorem UA(b:j1)(c:wf j6 b)(j:h9 j6 b<=1048576):Au b=some (u3 b):=by
 have o:=c.1;have f:=c.2.1;have h:=c.2.2.1;unfold Au u3;rw[N0U b.1 b.2.1 o f (cF (cS j)),vS,gP ⟨rfl,trivial⟩];cases hdo:Hj b.1 b.2.1 with
 | false=>grind
 | true =>
   have m:=U2 hdo;by_cases a:b.2.2.length=b.2.1.2.1.length
   ·have l:((b.2.2.length:Int) != (b.2.1.2.1.length:Int))=false:=by rw[a]; simp
    rw[l,decide_eq_true a];refine(if_neg (by simp)).trans ?_;have d:=H9 (n:=b.2.2.length) h (fun i=>!Bt (j3 b i) (y9 (x7 b.2.1) i (o3 b.2.1).length)) (some false) (e:=some true) (F:=YZ b) (fun g i hi=>by
     have k:((i:Int)).toNat=i:=rfl;refine(if_pos (by grind)).trans ?_;rw[k,Uz b.2.1 f m,vS,MW,L0o _ _ (M9 hi c.2.2),gP ⟨oo,rfl,rfl,trivial⟩,lE,MW,L0o _ _ (M9 hi c.2.2),vS,gP ⟨oo,trivial⟩]) (fun g=>aE)
    grind
   grind
theorem W4{b:j1}(h:u3 b=true):Hj b.1 b.2.1=true/\b.2.2.length=b.2.1.2.1.length/\∀i,i<b.2.2.length->Bt (j3 b i) (y9 (x7 b.2.1) i (o3 b.2.1).length)=true:=by
 grind[u3,hi]
abbrev x9(d:p9)(t:Int):List Int:=fN (O8 (x7 d) t) (o3 d).length []
def FO(l:List l6)(d:p9)(p:B3):Int:=if p.1<0 then 0 else((l.getD (l5 d p.1.toNat).2.1.toNat (a7 y153)).2.2.1.getD p.2.1.toNat (a7 y293)).2.2.1
theorem Qi{d:p9}{i:Nat}(h:i < (o3 d).length):x7 d i∈o3 d:=K7 h
theorem n0k{l:List l6}(h:DJ l=true){i:Nat}(hi:i<l.length):Cj G8 (Y4 l i)=true:=by
 have h:CP _ _ _=true:=h;unfold CP at h;rw[ba] at h;have:=Cf.1 h.1 i hi;rw[Bool.or_eq_false_iff,Bool.not_eq_false'] at this;exact this.1
theorem UB{l:List l6}{d:p9}(e:DF l d){p:B3}(c:p∈o3 d):(p.1 = -1/\0<=p.2.1/\p.2.1.toNat<d.2.2.length) ∨
  (0<=p.1/\p.1.toNat<d.1.length/\0<=(l5 d p.1.toNat).2.1/\(l5 d p.1.toNat).2.1.toNat<l.length/\0<=p.2.1/\p.2.1.toNat < (l.getD (l5 d p.1.toNat).2.1.toNat (a7 y153)).2.2.1.length):=by
 rcases o0D d.1.length d.2.2.length (l5 d) (B1 d) p c with h | ⟨h1,h2,h3,h4⟩
 ·exact .inl h
 ·have a:=e.fac.inst p.1.toNat h2;unfold R4 at a;simp only[ba,beq_iff_eq] at a;have f:=A4.1 a.1.1;have b:=a.1.2;refine .inr ⟨h1,h2,f.1,by omega,h3,?_⟩;have b:((l5 d p.1.toNat).2.2.length:Int)=((l.getD (l5 d p.1.toNat).2.1.toNat (a7 y153)).2.2.1.length:Int):=b;omega
theorem C0E{l:List l6}{d:p9}(b:DF l d){p:B3}(c:p∈o3 d):0<=FO l d p/\FO l d p<=500:=by
 unfold FO;split
 ·exact⟨by decide,by decide⟩
 ·rename_i e;rcases UB b c with h | ⟨h1,h2,h3,h4,h5,h6⟩
  ·omega
  ·have a:V9 G8 _ _ _ _ _ _ _ _ _=true:=n0k b.lib h4;unfold V9 AG at a;simp only[ba] at a;have:=Cf.1 a.1.1.1.1.2.2 p.2.1.toNat h6;rw[Bool.not_eq_false'] at this;unfold Cd at this;rw[ba] at this;exact A4.1 this.1
theorem Nh{d:p9}{t:Int}{k:Nat}(h:k < (x9 d t).length):0<=(x9 d t).getD k 0/\((x9 d t).getD k 0).toNat < (o3 d).length:=by
 obtain⟨j,b,a,_⟩:=Qa (x7 d) t (o3 d).length _ (K7 (d:=0) h);rw[b];exact⟨Int.natCast_nonneg _,by simpa using a⟩
structure NetOk(b:j1)(i:Nat):Prop where
 df:DF b.1 b.2.1
 lt:i<b.2.2.length
 wf:n0W (j3 b i) ((x9 b.2.1 i).length:Int)
theorem Bv{b:j1}(h:u3 b=true){i:Nat}(hi:i<b.2.2.length):NetOk b i:=by
 obtain⟨c,d,a⟩:=W4 h;refine⟨U2 c,hi,?_⟩;rw[MW];exact r0s (a i hi)
def r9(b:j1)(i k:Nat):Int:=(j3 b i).2.2.2.getD k 0
def W5(b:j1)(i k:Nat):Int:=FO b.1 b.2.1 (x7 b.2.1 ((x9 b.2.1 i).getD k 0).toNat)
def R9(b:j1)(i k:Nat):Int:=(j3 b i).1.getD k 0
def CS(b:j1)(i k:Nat):Int:=(j3 b i).2.1.getD k 0
def A3(b:j1)(i:Nat):List Int:=H0A (j3 b i).2.2.1 (j3 b i).1.length (x9 b.2.1 i).length (r9 b i) (W5 b i) (R9 b i)
theorem NetOk.sn{b:j1}{i:Nat}(h:NetOk b i):(j3 b i).2.2.2.length=(x9 b.2.1 i).length:=by have:=h.wf.snk; omega
theorem NetOk.s78{b:j1}{i:Nat}(h:NetOk b i):(x9 b.2.1 i).length<=78:=by
 have e:=h.df.len;have d:=K3 (x7 b.2.1) i (o3 b.2.1).length;have a:=MW (x7 b.2.1) i (o3 b.2.1).length;have c:((x9 b.2.1 i).length:Int)=y9 (x7 b.2.1) i (o3 b.2.1).length:=a;omega
theorem NetOk.capIn{b:j1}{i:Nat}(h:NetOk b i){k:Nat}(c:k < (x9 b.2.1 i).length):0<=r9 b i k/\(r9 b i k).toNat < (j3 b i).1.length/\0<=W5 b i k/\W5 b i k<=500:=by
 have d:=h.wf.snkIn k (by rw[h.sn]; exact c);have a:=C0E h.df (Qi (Nh c).2);exact⟨d.1,d.2,a.1,a.2⟩
theorem NetOk.low{b:j1}{i:Nat}(h:NetOk b i):∀m,m<=(x9 b.2.1 i).length->Low (fN (Cg (r9 b i) (W5 b i)) m (j3 b i).2.2.1) (j3 b i).1.length (500*((j3 b i).1.length:Int)+500*(m:Int)):=fun m c=>r0e (C0T h.wf.cap h.wf.capOk) m (fun k a=>h.capIn (by omega))
theorem NetOk.pull{b:j1}{i:Nat}(h:NetOk b i):∀k,k<=(j3 b i).1.length-1->Jb (fN (W2 (R9 b i) (j3 b i).1.length) k (fN (Cg (r9 b i) (W5 b i)) (x9 b.2.1 i).length (j3 b i).2.2.1)) (j3 b i).1.length k 43000:=by
 have a:=h.low _ (Nat.le_refl _);have g:=h.s78;have f:=h.wf.n8;have e:Low (fN (Cg (r9 b i) (W5 b i)) (x9 b.2.1 i).length (j3 b i).2.2.1) (j3 b i).1.length 43000:=⟨a.len,a.pos,by have:=a.sum; omega⟩;exact m0S e (by decide) (fun k d c=>h.wf.par k d c)
theorem NetOk.loads{b:j1}{i:Nat}(h:NetOk b i):(A3 b i).length=(j3 b i).1.length/\∀j,0<=(A3 b i).getD j 0/\(A3 b i).getD j 0<=43000:=by
 have:=h.pull _ (Nat.le_refl _);exact⟨this.len,fun j=>⟨this.pos j,this.bd j⟩⟩
abbrev u4(b:j1)(i:Nat):l6:=b.1.getD (l5 b.2.1 i).2.1.toNat (a7 y153)
theorem FP{b:j1}(a:DF b.1 b.2.1){i:Nat}(hi:i<b.2.1.1.length):ix (l5 b.2.1 i).2.1 b.1.length/\Cj G8 (u4 b i)=true/\(l5 b.2.1 i).2.2.length=(u4 b i).2.2.1.length:=by
 have:=a.fac.inst i hi;unfold R4 at this;rw[ba,ba,beq_iff_eq] at this;have d:=A4.1 this.1.1;have c:=this.1.2;have e:((l5 b.2.1 i).2.2.length:Int)=((u4 b i).2.2.1.length:Int):=c;exact⟨⟨d.1,by omega⟩,n0k a.lib (by omega),by omega⟩
theorem FQ{c:l6}(h:Cj G8 c=true):2<=c.2.2.1.length/\c.2.2.1.length<=5/\c.2.2.2.1.length<=8/\∀j,j<c.2.2.2.1.length->0<=(k6 c j).2.1/\(k6 c j).2.1 < (c.2.2.1.length:Int)-1/\0<=(k6 c j).2.2.1/\(k6 c j).2.2.1 < (c.2.2.1.length:Int):=by
 have h:V9 G8 _ _ _ _ _ _ _ _ _=true:=h;unfold V9 Ha at h;simp only[ba,dq] at h;have b:=IU h.1.1.1.1.2;refine⟨b.1,b.2.1,h.1.1.1.2.1,fun j d=>?_⟩;have:=Cf.1 h.1.1.1.2.2 j d;rw[Bool.or_eq_false_iff,Bool.not_eq_false'] at this;have a:=this.1;unfold G8 at a;rw[ba,ba] at a;have f:=A4.1 a.1.1;have e:=A4.1 a.1.2;omega
theorem N0B(l:List l6)(d:p9)(b:DF l d){p:B3}(a:p∈o3 d):GQ d l p=some (FO l d p):=by
 unfold GQ FO;rcases UB b a with h | ⟨h1,h2,h3,h4,h5,h6⟩
 ·grind
 ·refine(if_neg (by grind)).trans ?_;rw[if_neg (by omega),gP ⟨oo,⟨h3,by grind⟩,⟨h5,by grind⟩,trivial⟩];rfl
theorem N0C(d:p9)(h:wf y53 d){l:List l6}(a:DF l d)(t:Int):My d t=some (x9 d t):=by
 have k:=a.len;unfold My;rw[Qh d h a.fac.ni14 a.fac.np8 a.pin,vS,gP ⟨rfl,trivial⟩,lE];exact lF (n:=(o3 d).length) (by omega) (fun i (s:List Int)=>(s,(i:Int))) (O8 (x7 d) t) (fun i s=>s.length<=i) (J:=fun s=>some s) (F:=z0t t (o3 d)) (fun g i s hi c=>by
  have e:((i:Int)).toNat=i:=rfl;have b:∀s',PC (i:Int) g s'=g (s',((i+1:Nat):Int)):=fun j=>gP ⟨oo,trivial⟩;refine(if_pos (by grind)).trans ?_;have f:s.length<=i:=c;rw[e,gP ⟨oo,hi,trivial⟩,lE,gP ⟨⟨by grind,by grind⟩,trivial⟩,b,b];show _=g (O8 (x7 d) t i s,_);unfold O8
  grind) (fun i s hi c=>by
  grind[O8,List.length_append]) (fun g s _=>aE) [] (Nat.le_refl _)
theorem N0D(xs:List Int)(h:xs.length<=1048576):PE xs=some xs:=gP ⟨oo,trivial⟩
theorem L0n(b:j1)(t:wf j6 b){i:Nat}(h:NetOk b i):BX b (i:Int)=some (A3 b i):=by
 have y:=t.2.1;have df:=h.df;have hb:=t.2.2.1;have hi:=h.lt;have n1:=h.wf.n1;have n8:=h.wf.n8;have H:=h.sn;have hs:=h.s78;have G:=h.wf.cap;unfold BX;have X:((i:Int)).toNat=i:=rfl;rw[gP ⟨oo,trivial⟩,lE,X,N0D _ (by grind),vS,gP ⟨rfl,trivial⟩,lE,Qh b.2.1 y df.fac.ni14 df.fac.np8 df.pin,vS,gP ⟨rfl,trivial⟩,lE,N0C b.2.1 y df,vS,gP ⟨rfl,trivial⟩,lE];have m:=lF (n:=(x9 b.2.1 i).length) (by omega) (fun k (s:List Int)=>((k:Int),s)) (Cg (r9 b i) (W5 b i)) (fun k v=>Low v (j3 b i).1.length (500*((j3 b i).1.length:Int)+500*(k:Int))) (J:=PD (j3 b i)) (F:=A0f b (o3 b.2.1) (x9 b.2.1 i) (j3 b i)) (fun g k v c a=>by
  have Y:((k:Int)).toNat=k:=rfl;obtain⟨u,q,x,z⟩:=h.capIn c;obtain⟨W,r⟩:=Nh c;have hv:=a.bd (by omega) (r9 b i k).toNat;have j:0<=(j3 b i).2.2.2.getD k 0:=u;have l:((j3 b i).2.2.2.getD k 0).toNat<v.length:=by rw[a.len]; exact q
  refine(if_pos (by grind)).trans ?_;rw[Y,gP ⟨oo,c,trivial⟩,N0B b.1 b.2.1 df (Qi r),vS];rw[gP ⟨oo,⟨j,by omega⟩,l,⟨W,by omega⟩,r,rfl,⟨by grind[r9,W5],by grind[r9,W5]⟩,⟨j,by omega⟩,l,trivial⟩,lE];exact gP ⟨oo,trivial⟩) (fun k v c a=>by
  obtain⟨u,q,x,z⟩:=h.capIn c;have:=a.add q x;refine⟨this.len,this.pos,Int.le_trans this.sum ?_⟩;omega) (fun g s _=>aE) (j3 b i).2.2.1 (by
  have:=h.low 0 (Nat.zero_le _);exact this)
 refine m.trans ?_;have d:=(h.low _ (Nat.le_refl _)).len;have e:=h.pull 0 (Nat.zero_le _);have Q:A3 b i=fN (W2 (R9 b i) (j3 b i).1.length) ((j3 b i).1.length-1) (fN (Cg (r9 b i) (W5 b i)) (x9 b.2.1 i).length (j3 b i).2.2.1):=rfl;rw[Q];have o:=h.pull;generalize fN (Cg (r9 b i) (W5 b i)) (x9 b.2.1 i).length (j3 b i).2.2.1=v0 at d e o ⊢;rw[PD,d,gP ⟨oo,trivial⟩];have P:(((j3 b i).1.length:Int)-1,v0)=(fun(k:Nat) (s:List Int)=>(((j3 b i).1.length:Int)-1-(k:Int),s)) 0 v0:=by simp
 rw[P];exact lF (n:=(j3 b i).1.length-1) (by omega) (fun(k:Nat) (s:List Int)=>(((j3 b i).1.length:Int)-1-(k:Int),s)) (W2 (R9 b i) (j3 b i).1.length) (fun k v=>Jb v (j3 b i).1.length k 43000) (J:=fun s=>some s) (F:=IJ (j3 b i)) (fun g k v c a=>by
  have E:=h.wf.par ((j3 b i).1.length-1-k) (by omega) (by omega);have f:0<=(j3 b i).1.getD ((j3 b i).1.length-1-k) 0/\((j3 b i).1.getD ((j3 b i).1.length-1-k) 0).toNat < (j3 b i).1.length-1-k:=E;have w:=a.len;have T:((j3 b i).1.length:Int)-1-(k:Int)=(((j3 b i).1.length-1-k:Nat):Int):=by omega
  have e7:((((j3 b i).1.length-1-k:Nat):Int)).toNat=(j3 b i).1.length-1-k:=rfl;have b1:=a.pos ((j3 b i).1.getD ((j3 b i).1.length-1-k) 0).toNat;have b2:=a.bd ((j3 b i).1.getD ((j3 b i).1.length-1-k) 0).toNat;have b3:=a.pos ((j3 b i).1.length-1-k);have b4:=a.bd ((j3 b i).1.length-1-k);have V:((j3 b i).1.length:Int)-1-((k+1:Nat):Int)=(((j3 b i).1.length-1-k:Nat):Int)-1:=by omega
  show IJ (j3 b i) g (((j3 b i).1.length:Int)-1-(k:Int),v)=g (((j3 b i).1.length:Int)-1-((k+1:Nat):Int),W2 (R9 b i) (j3 b i).1.length k v);rw[V,T];refine(if_pos (decide_eq_true (by omega))).trans ?_;rw[e7,gP ⟨oo,⟨f.1,by omega⟩,by omega,oo,by omega,oo,⟨f.1,by omega⟩,by omega,trivial⟩,lE];exact gP ⟨oo,trivial⟩) (fun k v c a=>Uf a c (h.wf.par _ (by omega) (by omega))) (fun g s _=>by
  have e9:((j3 b i).1.length:Int)-1-(((j3 b i).1.length-1:Nat):Int)=0:=by omega
  show IJ (j3 b i) g (((j3 b i).1.length:Int)-1-(((j3 b i).1.length-1:Nat):Int),s)=some s;rw[e9];have:IJ (j3 b i) g (0,s)=To s:=by
   rw[IJ];exact if_neg (by decide)
  exact this.trans rfl) v0 e
end Go.Proofs.YtechodbafnmddaaGreatDoor
end

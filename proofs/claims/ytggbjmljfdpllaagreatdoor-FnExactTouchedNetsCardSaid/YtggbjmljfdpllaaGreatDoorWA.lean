/- Plain words on names: no program in sight. -/
import Derived.Test.YtggbjmljfdpllaaGreatDoorXA
import Derived.Lib.SlTrimSet
import Derived.Lib.Bytealg
import Derived.Test.YtggbjmljfdpllaaGreatDoorProg
import Derived.KernelRfl
import Derived.Test.YtggbjmljfdpllaaGreatDoorXK
import Derived.Test.YtggbjmljfdpllaaGreatDoorTY
import Derived.Test.YtggbjmljfdpllaaGreatDoorFC1b
import Derived.Test.YtggbjmljfdpllaaGreatDoorXF
import Derived.Test.YtggbjmljfdpllaaGreatDoorGC1
set_option maxHeartbeats 0
section
namespace Go.Proofs.Sv
open Go
def lowB(c:Int):Bool:=decide (c≥97)&&decide (c<=122)
def digB(c:Int):Bool:=decide (c≥48)&&decide (c<=57)
def chB(c:Int)(i:Nat):Bool:=lowB c||(digB c&&decide (0<i))
def nmTo(s:ByteArray):Nat->Bool
 | 0=>true
 | k+1=>nmTo s k&&chB (byteAt s k) k
def nmB(s:ByteArray):Bool:=nmTo s s.size&&decide ((s.size:Int)≥1)&&decide ((s.size:Int)<=8)
theorem nmTo_mono(s:ByteArray)(k:Nat):∀j,k<=j->nmTo s j=true->nmTo s k=true:=by
 intro j hj h
 induction j with
 | zero=>have:k=0:=by omega
         subst this; rfl
 | succ j ih =>
   by_cases hk:k=j+1
   ·subst hk; exact h
   ·simp only[nmTo,ba] at h;exact ih (by omega) h.1
def low26:List UInt8:=[97,98,99,100,101,102,103,104,105,106,107,108,109,110,111,112,113,114,115,116,117,118,119,120,121,122]
def low36:List UInt8:=[97,98,99,100,101,102,103,104,105,106,107,108,109,110,111,112,113,114,115,116,117,118,119,120,121,122,48,49,50,51,52,53,54,55,56,57]
theorem low26_fin:∀n:Fin 256,low26.contains (UInt8.ofNat n.val)=lowB (n.val:Int):=by decide +kernel
theorem low36_fin:∀n:Fin 256,low36.contains (UInt8.ofNat n.val)=(lowB (n.val:Int)||digB (n.val:Int)):=by decide +kernel
theorem low26_mem(b:UInt8):low26.contains b=lowB (b.toNat:Int):=by
 have:=low26_fin ⟨b.toNat,b.toNat_lt⟩;simpa using this
theorem low36_mem(b:UInt8):low36.contains b=(lowB (b.toNat:Int)||digB (b.toNat:Int)):=by
 have:=low36_fin ⟨b.toNat,b.toNat_lt⟩;simpa using this
theorem indexByte_mem(c:UInt8):∀l:List UInt8,decide (0<=Lib.indexByte l c)=l.contains c
 | []=>by simp[Lib.indexByte]
 | b :: l=>by
   have ih:=indexByte_mem c l;have hg:=Lib.indexByte_ge l c;unfold Lib.indexByte;by_cases hb:b=c
   ·subst hb; simp
   ·have hb':¬c=b:=fun h=>hb h.symm;have e1:(b==c)=false:=by simpa using hb
    rw[e1,List.contains_cons,show(c==b)=false by simpa using hb',<- ih];by_cases h1:Lib.indexByte l c = -1
    ·simp[h1]
    ·have:(Lib.indexByte l c == -1)=false:=by simpa using h1
     rw[this];simp only[Bool.false_eq_true,if_false,Bool.false_or];rw[Bool.eq_iff_iff]; simp only[dq]; omega
theorem dropWhile_nil{α:Type}(p:α->Bool):∀l:List α,l.dropWhile p=[]↔∀x∈l,p x=true
 | []=>by simp
 | x :: r=>by
   rw[List.dropWhile_cons];by_cases h:p x=true
   ·simp[h,dropWhile_nil p r]
   ·simp[h]
theorem mem_takeWhile{α:Type}(p:α->Bool)(x:α):∀l:List α,x∈l.takeWhile p->p x=true
 | [],h=>by cases h
 | y :: r,h=>by
   rw[List.takeWhile_cons] at h;by_cases hy:p y=true
   ·rw[if_pos hy] at h;rcases List.mem_cons.1 h with rfl | h
    ·exact hy
    ·exact mem_takeWhile p x r h
   ·rw[if_neg hy] at h; cases h
theorem trimS_nil(l cs:List UInt8):Lib.trimS l cs=[]↔∀b∈l,cs.contains b=true:=by
 unfold Lib.trimS Lib.trimLeftS Lib.trimRightS;rw[dropWhile_nil];constructor
 ·intro h b hb;have e:l=(l.reverse.dropWhile (cs.contains ·)).reverse++(l.reverse.takeWhile (cs.contains ·)).reverse:=by
   rw[<- List.reverse_append,List.takeWhile_append_dropWhile,List.reverse_reverse]
  rw[e] at hb;rcases List.mem_append.1 hb with hb | hb
  ·exact h b hb
  ·have:=List.mem_reverse.1 hb;exact mem_takeWhile (cs.contains ·) b _ this
 ·intro h b hb;exact h b (by have:=(List.dropWhile_sublist _).mem (List.mem_reverse.1 hb); exact List.mem_reverse.1 this)
theorem nmTo_all(s:ByteArray)(h0:lowB (byteAt s 0)=true):∀k,k<=s.size->(nmTo s k=true↔∀i,i<k->(lowB (byteAt s i)||digB (byteAt s i))=true)
 | 0,_=>by simp[nmTo]
 | k+1,hk=>by
   have ih:=nmTo_all s h0 k (by omega);simp only[nmTo,ba,ih];constructor
   ·rintro⟨h1,h2⟩ i hi;by_cases hik:i=k
    ·subst hik;unfold chB at h2;cases hl:lowB (byteAt s i) with
     | true=>simp
     | false=>rw[hl] at h2; simp only[Bool.false_or,ba] at h2; simp[h2.1]
    ·exact h1 i (by omega)
   ·intro h;refine⟨fun i hi=>h i (by omega),?_⟩;have:=h k (by omega);unfold chB;by_cases hk0:k=0
    ·subst hk0; simp[h0]
    ·have hp:decide (0<k)=true:=by simp; omega
     rw[hp]; simpa using this
theorem trim_all(s:ByteArray):Lib.trimS s.data.toList low36=[]↔∀i,i<s.size->(lowB (byteAt s i)||digB (byteAt s i))=true:=by
 rw[trimS_nil];have hl:s.data.toList.length=s.size:=by simp
 constructor
 ·intro h i hi;have hi':i<s.data.toList.length:=by rw[hl]; exact hi
  have:=h s.data.toList[i] (List.getElem_mem hi');rw[low36_mem] at this;unfold byteAt;rw[gq,List.getElem?_eq_getElem hi'];exact this
 ·intro h b hb;obtain⟨i,hi,rfl⟩:=List.getElem_of_mem hb;have:=h i (by rw[<- hl]; exact hi);unfold byteAt at this;rw[gq,List.getElem?_eq_getElem hi] at this;rw[low36_mem]; exact this
theorem nmB_trim(s:ByteArray)(h1:1<=s.size)(h8:s.size<=8):nmB s=((Lib.trimS s.data.toList low36==[])&&decide (0<=Lib.indexByte low26 (byteAt s 0).toNat.toUInt8)):=by
 have e0:(byteAt s 0).toNat.toUInt8=s.data.toList.getD 0 0:=by unfold byteAt; simp
 rw[e0,indexByte_mem,low26_mem];show nmB s=(_&&lowB (byteAt s 0));have g1:decide ((s.size:Int)≥1)=true:=by simp; omega
 have g2:decide ((s.size:Int)<=8)=true:=by simp; omega
 unfold nmB;rw[g1,g2,Bool.and_true,Bool.and_true];cases h0:lowB (byteAt s 0) with
 | false =>
   rw[Bool.and_false];cases hn:nmTo s s.size with
   | false=>rfl
   | true =>
     have:=nmTo_mono s 1 s.size h1 hn;simp[nmTo,chB,h0] at this
 | true =>
   rw[Bool.and_true,Bool.eq_iff_iff,nmTo_all s h0 s.size (Nat.le_refl _),beq_iff_eq,trim_all]
end Go.Proofs.Sv
end
section
namespace Go.Proofs.YtggbjmljfdpllaaGreatDoor
open Go Go.Proofs Go.Proofs.Sv
instance:NotAgg Tryz.prog 2:=⟨by kernel_rfl⟩
instance:Info Tryz.prog 2 1 8 (.int .i64 0):=⟨by kernel_rfl⟩
instance:NotAgg Tryz.prog 3:=⟨by kernel_rfl⟩
instance:Info Tryz.prog 3 1 8 (.int .i64 0):=⟨by kernel_rfl⟩
instance:NotAgg Tryz.prog 4:=⟨by kernel_rfl⟩
instance:BoolT Tryz.prog 4:=⟨by kernel_rfl⟩
instance:Info Tryz.prog 4 1 1 (.bool false):=⟨by kernel_rfl⟩
instance:NotAgg Tryz.prog 5:=⟨by kernel_rfl⟩
instance:Info Tryz.prog 5 1 1 (.int .u8 0):=⟨by kernel_rfl⟩
instance:NotAgg Tryz.prog 9:=⟨by kernel_rfl⟩
instance:StringT Tryz.prog 9:=⟨by kernel_rfl⟩
instance:Info Tryz.prog 9 1 16 (.string ⟨#[]⟩):=⟨by kernel_rfl⟩
instance:NotAgg Tryz.prog 26:=⟨by kernel_rfl⟩
instance:SliceOf Tryz.prog 26 9:=⟨by kernel_rfl⟩
instance:Info Tryz.prog 26 1 24 (.slice none 0 0):=⟨by kernel_rfl⟩
instance:AggT Tryz.prog 32:=⟨by kernel_rfl⟩
instance:FieldAt Tryz.prog 32 0 0:=⟨by kernel_rfl⟩
instance:FieldAt Tryz.prog 32 1 1:=⟨by kernel_rfl⟩
instance:FieldAt Tryz.prog 32 2 4:=⟨by kernel_rfl⟩
instance:Info Tryz.prog 32 5 120 (.agg #[.slice none 0 0,.slice none 0 0,.slice none 0 0,.slice none 0 0,.slice none 0 0]):=⟨by kernel_rfl⟩
instance:NotAgg Tryz.prog 33:=⟨by kernel_rfl⟩
instance:SliceOf Tryz.prog 33 2:=⟨by kernel_rfl⟩
instance:Info Tryz.prog 33 1 24 (.slice none 0 0):=⟨by kernel_rfl⟩
instance:AggT Tryz.prog 37:=⟨by kernel_rfl⟩
instance:FieldAt Tryz.prog 37 0 0:=⟨by kernel_rfl⟩
instance:FieldAt Tryz.prog 37 1 1:=⟨by kernel_rfl⟩
instance:FieldAt Tryz.prog 37 2 2:=⟨by kernel_rfl⟩
instance:FieldAt Tryz.prog 37 3 3:=⟨by kernel_rfl⟩
instance:FieldAt Tryz.prog 37 4 4:=⟨by kernel_rfl⟩
instance:FieldAt Tryz.prog 37 5 5:=⟨by kernel_rfl⟩
instance:FieldAt Tryz.prog 37 6 6:=⟨by kernel_rfl⟩
instance:Info Tryz.prog 37 10 152 (.agg #[.int .i64 0,.int .i64 0,.int .i64 0,.int .i64 0,.int .i64 0,.string ⟨#[]⟩,.slice none 0 0,.slice none 0 0,.slice none 0 0,.slice none 0 0]):=⟨by kernel_rfl⟩
instance:NotAgg Tryz.prog 42:=⟨by kernel_rfl⟩
instance:SliceOf Tryz.prog 42 134:=⟨by kernel_rfl⟩
instance:Info Tryz.prog 42 1 24 (.slice none 0 0):=⟨by kernel_rfl⟩
instance:AggT Tryz.prog 44:=⟨by kernel_rfl⟩
instance:FieldAt Tryz.prog 44 0 0:=⟨by kernel_rfl⟩
instance:Info Tryz.prog 44 1 24 (.agg #[.slice none 0 0]):=⟨by kernel_rfl⟩
instance:NotAgg Tryz.prog 45:=⟨by kernel_rfl⟩
instance:SliceOf Tryz.prog 45 94:=⟨by kernel_rfl⟩
instance:Info Tryz.prog 45 1 24 (.slice none 0 0):=⟨by kernel_rfl⟩
instance:NotAgg Tryz.prog 46:=⟨by kernel_rfl⟩
instance:SliceOf Tryz.prog 46 138:=⟨by kernel_rfl⟩
instance:Info Tryz.prog 46 1 24 (.slice none 0 0):=⟨by kernel_rfl⟩
instance:AggT Tryz.prog 48:=⟨by kernel_rfl⟩
instance:FieldAt Tryz.prog 48 0 0:=⟨by kernel_rfl⟩
instance:FieldAt Tryz.prog 48 1 1:=⟨by kernel_rfl⟩
instance:FieldAt Tryz.prog 48 2 2:=⟨by kernel_rfl⟩
instance:Info Tryz.prog 48 3 72 (.agg #[.slice none 0 0,.slice none 0 0,.slice none 0 0]):=⟨by kernel_rfl⟩
instance:NotAgg Tryz.prog 49:=⟨by kernel_rfl⟩
instance:SliceOf Tryz.prog 49 53:=⟨by kernel_rfl⟩
instance:Info Tryz.prog 49 1 24 (.slice none 0 0):=⟨by kernel_rfl⟩
instance:AggT Tryz.prog 51:=⟨by kernel_rfl⟩
instance:FieldAt Tryz.prog 51 0 0:=⟨by kernel_rfl⟩
instance:FieldAt Tryz.prog 51 1 1:=⟨by kernel_rfl⟩
instance:FieldAt Tryz.prog 51 2 4:=⟨by kernel_rfl⟩
instance:Info Tryz.prog 51 5 120 (.agg #[.slice none 0 0,.slice none 0 0,.slice none 0 0,.slice none 0 0,.slice none 0 0]):=⟨by kernel_rfl⟩
instance:AggT Tryz.prog 53:=⟨by kernel_rfl⟩
instance:FieldAt Tryz.prog 53 0 0:=⟨by kernel_rfl⟩
instance:FieldAt Tryz.prog 53 1 1:=⟨by kernel_rfl⟩
instance:FieldAt Tryz.prog 53 2 2:=⟨by kernel_rfl⟩
instance:FieldAt Tryz.prog 53 3 3:=⟨by kernel_rfl⟩
instance:Info Tryz.prog 53 4 96 (.agg #[.slice none 0 0,.slice none 0 0,.slice none 0 0,.slice none 0 0]):=⟨by kernel_rfl⟩
instance:AggT Tryz.prog 55:=⟨by kernel_rfl⟩
instance:FieldAt Tryz.prog 55 0 0:=⟨by kernel_rfl⟩
instance:FieldAt Tryz.prog 55 1 1:=⟨by kernel_rfl⟩
instance:FieldAt Tryz.prog 55 2 2:=⟨by kernel_rfl⟩
instance:FieldAt Tryz.prog 55 3 3:=⟨by kernel_rfl⟩
instance:FieldAt Tryz.prog 55 4 4:=⟨by kernel_rfl⟩
instance:FieldAt Tryz.prog 55 5 5:=⟨by kernel_rfl⟩
instance:FieldAt Tryz.prog 55 6 6:=⟨by kernel_rfl⟩
instance:Info Tryz.prog 55 10 152 (.agg #[.int .i64 0,.int .i64 0,.int .i64 0,.int .i64 0,.int .i64 0,.string ⟨#[]⟩,.slice none 0 0,.slice none 0 0,.slice none 0 0,.slice none 0 0]):=⟨by kernel_rfl⟩
instance:AggT Tryz.prog 94:=⟨by kernel_rfl⟩
instance:FieldAt Tryz.prog 94 0 0:=⟨by kernel_rfl⟩
instance:FieldAt Tryz.prog 94 1 1:=⟨by kernel_rfl⟩
instance:FieldAt Tryz.prog 94 2 2:=⟨by kernel_rfl⟩
instance:Info Tryz.prog 94 3 48 (.agg #[.string ⟨#[]⟩,.int .i64 0,.slice none 0 0]):=⟨by kernel_rfl⟩
instance:NotAgg Tryz.prog 131:=⟨by kernel_rfl⟩
instance:SliceOf Tryz.prog 131 155:=⟨by kernel_rfl⟩
instance:Info Tryz.prog 131 1 24 (.slice none 0 0):=⟨by kernel_rfl⟩
instance:NotAgg Tryz.prog 132:=⟨by kernel_rfl⟩
instance:SliceOf Tryz.prog 132 190:=⟨by kernel_rfl⟩
instance:Info Tryz.prog 132 1 24 (.slice none 0 0):=⟨by kernel_rfl⟩
instance:AggT Tryz.prog 134:=⟨by kernel_rfl⟩
instance:FieldAt Tryz.prog 134 0 0:=⟨by kernel_rfl⟩
instance:FieldAt Tryz.prog 134 1 1:=⟨by kernel_rfl⟩
instance:FieldAt Tryz.prog 134 2 2:=⟨by kernel_rfl⟩
instance:FieldAt Tryz.prog 134 3 3:=⟨by kernel_rfl⟩
instance:FieldAt Tryz.prog 134 4 4:=⟨by kernel_rfl⟩
instance:FieldAt Tryz.prog 134 5 5:=⟨by kernel_rfl⟩
instance:FieldAt Tryz.prog 134 6 6:=⟨by kernel_rfl⟩
instance:Info Tryz.prog 134 7 112 (.agg #[.string ⟨#[]⟩,.int .i64 0,.slice none 0 0,.slice none 0 0,.slice none 0 0,.int .i64 0,.int .i64 0]):=⟨by kernel_rfl⟩
instance:AggT Tryz.prog 138:=⟨by kernel_rfl⟩
instance:FieldAt Tryz.prog 138 0 0:=⟨by kernel_rfl⟩
instance:FieldAt Tryz.prog 138 1 1:=⟨by kernel_rfl⟩
instance:FieldAt Tryz.prog 138 2 2:=⟨by kernel_rfl⟩
instance:Info Tryz.prog 138 3 32 (.agg #[.string ⟨#[]⟩,.int .i64 0,.int .i64 0]):=⟨by kernel_rfl⟩
instance:AggT Tryz.prog 155:=⟨by kernel_rfl⟩
instance:FieldAt Tryz.prog 155 0 0:=⟨by kernel_rfl⟩
instance:FieldAt Tryz.prog 155 1 1:=⟨by kernel_rfl⟩
instance:FieldAt Tryz.prog 155 2 2:=⟨by kernel_rfl⟩
instance:FieldAt Tryz.prog 155 3 3:=⟨by kernel_rfl⟩
instance:Info Tryz.prog 155 4 40 (.agg #[.string ⟨#[]⟩,.int .i64 0,.int .i64 0,.bool false]):=⟨by kernel_rfl⟩
instance:NotAgg Tryz.prog 187:=⟨by kernel_rfl⟩
instance:SliceOf Tryz.prog 187 5:=⟨by kernel_rfl⟩
instance:Info Tryz.prog 187 1 24 (.slice none 0 0):=⟨by kernel_rfl⟩
instance:NotAgg Tryz.prog 188:=⟨by kernel_rfl⟩
instance:SliceOf Tryz.prog 188 217:=⟨by kernel_rfl⟩
instance:Info Tryz.prog 188 1 24 (.slice none 0 0):=⟨by kernel_rfl⟩
instance:AggT Tryz.prog 190:=⟨by kernel_rfl⟩
instance:FieldAt Tryz.prog 190 0 0:=⟨by kernel_rfl⟩
instance:FieldAt Tryz.prog 190 1 1:=⟨by kernel_rfl⟩
instance:FieldAt Tryz.prog 190 2 2:=⟨by kernel_rfl⟩
instance:FieldAt Tryz.prog 190 3 3:=⟨by kernel_rfl⟩
instance:FieldAt Tryz.prog 190 4 4:=⟨by kernel_rfl⟩
instance:FieldAt Tryz.prog 190 5 5:=⟨by kernel_rfl⟩
instance:Info Tryz.prog 190 6 80 (.agg #[.int .i64 0,.int .i64 0,.int .i64 0,.int .i64 0,.slice none 0 0,.slice none 0 0]):=⟨by kernel_rfl⟩
instance:AggT Tryz.prog 217:=⟨by kernel_rfl⟩
instance:FieldAt Tryz.prog 217 0 0:=⟨by kernel_rfl⟩
instance:FieldAt Tryz.prog 217 1 1:=⟨by kernel_rfl⟩
instance:FieldAt Tryz.prog 217 2 2:=⟨by kernel_rfl⟩
instance:Info Tryz.prog 217 3 72 (.agg #[.slice none 0 0,.slice none 0 0,.slice none 0 0]):=⟨by kernel_rfl⟩
instance:HasBody Tryz.prog 4:=⟨by kernel_rfl⟩
instance:HasBody Tryz.prog 5:=⟨by kernel_rfl⟩
instance:HasBody Tryz.prog 6:=⟨by kernel_rfl⟩
instance:HasBody Tryz.prog 7:=⟨by kernel_rfl⟩
instance:HasBody Tryz.prog 8:=⟨by kernel_rfl⟩
instance:HasBody Tryz.prog 9:=⟨by kernel_rfl⟩
instance:HasBody Tryz.prog 10:=⟨by kernel_rfl⟩
instance:HasBody Tryz.prog 11:=⟨by kernel_rfl⟩
instance:HasBody Tryz.prog 12:=⟨by kernel_rfl⟩
instance:HasBody Tryz.prog 13:=⟨by kernel_rfl⟩
instance:HasBody Tryz.prog 14:=⟨by kernel_rfl⟩
instance:HasBody Tryz.prog 15:=⟨by kernel_rfl⟩
instance:HasBody Tryz.prog 16:=⟨by kernel_rfl⟩
instance:HasBody Tryz.prog 34:=⟨by kernel_rfl⟩
instance:HasBody Tryz.prog 35:=⟨by kernel_rfl⟩
instance:HasBody Tryz.prog 36:=⟨by kernel_rfl⟩
instance:HasBody Tryz.prog 37:=⟨by kernel_rfl⟩
instance:HasBody Tryz.prog 64:=⟨by kernel_rfl⟩
instance:HasBody Tryz.prog 65:=⟨by kernel_rfl⟩
instance:HasBody Tryz.prog 66:=⟨by kernel_rfl⟩
instance:HasBody Tryz.prog 67:=⟨by kernel_rfl⟩
instance:HasBody Tryz.prog 93:=⟨by kernel_rfl⟩
instance:HasBody Tryz.prog 94:=⟨by kernel_rfl⟩
instance:HasBody Tryz.prog 95:=⟨by kernel_rfl⟩
instance:HasBody Tryz.prog 138:=⟨by kernel_rfl⟩
end Go.Proofs.YtggbjmljfdpllaaGreatDoor
end
section
namespace Go.Proofs.YtggbjmljfdpllaaGreatDoor
open Go Go.Proofs Go.Proofs.Xv
instance : FacT Tryz.prog := ⟨fun _ => ⟨fun g e => (nomatch (show Tryz.prog.globalNamed "internal/strconv.uint64pow10" = none by kernel_rfl).symm.trans e), fun g e => (nomatch (show Tryz.prog.globalNamed "strconv.ErrSyntax" = none by kernel_rfl).symm.trans e), fun g e => (nomatch (show Tryz.prog.globalNamed "strconv.ErrRange" = none by kernel_rfl).symm.trans e), fun f g e _ => (nomatch (show Tryz.prog.funcNamed "strings.Split" = none by kernel_rfl).symm.trans e)⟩⟩
end Go.Proofs.YtggbjmljfdpllaaGreatDoor
end
section
namespace Go.Proofs.YtggbjmljfdpllaaGreatDoor
open Go Go.Proofs Go.Proofs.Sv Go.Proofs.Xv Go.RowKit
attribute [local irreducible] VS VO VQ VH FinS seqQ blkQ loopQ RunsOp RunsU
attribute [local simp] spl reps Value.cells
instance:Mixed Tryz.prog:=⟨by kernel_rfl⟩
instance:ByteT Tryz.prog 5:=⟨by kernel_rfl⟩
instance:IntT Tryz.prog 3:=⟨by kernel_rfl⟩
instance:IntT Tryz.prog 2:=⟨by kernel_rfl⟩
theorem pow_step{k:Int}{n:Nat}(hk:0<k)(h:k*(10:Int) ^ n<=9223372036854775807):n<=18/\k.tdiv 10*(10:Int) ^ (n+1)<=9223372036854775807:=by
 have hp:(0:Int) < (10:Int) ^ n:=Int.pow_pos (by decide);constructor
 ·rcases Nat.lt_or_ge 18 n with hn | hn
  ·have h19:(10:Int) ^ 19<=(10:Int) ^ n:=by
    have h0:10 ^ 19<=10 ^ n:=Nat.pow_le_pow_right (n:=10) (by decide) (by omega:19<=n)
    exact_mod_cast h0
   have h1:(1:Int)*(10:Int) ^ n<=k*(10:Int) ^ n:=Int.mul_le_mul_of_nonneg_right (by omega) (by omega);have:(10:Int) ^ 19=10000000000000000000:=by decide
   omega
  ·exact hn
 ·have e:k.tdiv 10*(10:Int) ^ (n+1)=(k.tdiv 10*10)*(10:Int) ^ n:=by rw[Int.pow_succ,Int.mul_comm ((10:Int) ^ n) 10,<- Int.mul_assoc]
  have h2:k.tdiv 10*10<=k:=by
   rw[Int.tdiv_eq_ediv_of_nonneg (by omega)];omega
  rw[e];exact Int.le_trans (Int.mul_le_mul_of_nonneg_right h2 (by omega)) h
set_option maxHeartbeats 2000000 in
theorem cText{k:Int}{w:World}(hk:InI k):Calls Tryz.prog 93 #[.int .i64 k] w fun en w'=>∃s,en=.returned (.string s)/\s.size<=9223372036854775807/\Ext w w':=by
 have hb:Below w.heap.size w w:=Below.refl _ _;refine calls_vs Tryz.func93 Tryz.ntmps93 rfl rfl ?_
 (repeat (first | refine vo_pure rfl rfl ?_ | refine vs_seq ?_ | refine vs_region ?_ | refine oN ?_ | refine nQ ?_ | refine vs_skip ?_ | refine vs_block ?_ | refine vs_ret ?_ | refine fin_seq_ret ?_ | refine fin_blk ?_ | refine vs_exit ?_ | refine fin_seq_exit ?_ | refine fin_loop_exit ?_ | refine fin_blk_exit rfl ?_))
 refine vs_cond rfl (fun hc=>?_) (fun hc=>?_)
 · (repeat (first | refine vo_pure rfl rfl ?_ | refine vs_seq ?_ | refine vs_region ?_ | refine oN ?_ | refine nQ ?_ | refine vs_skip ?_ | refine vs_block ?_ | refine vs_ret ?_ | refine fin_seq_ret ?_ | refine fin_blk ?_ | refine vs_exit ?_ | refine fin_seq_exit ?_ | refine fin_loop_exit ?_ | refine fin_blk_exit rfl ?_))
   (first | refine fin_ret1 Tryz.results93 rfl ?_ | refine fin_end1 Tryz.results93 rfl ?_ | refine fin_ret2 Tryz.results93 rfl rfl ?_ | refine fin_retC1 Tryz.results93 rfl (by assumption) rfl rfl ?_ | refine fin_retC Tryz.results93 rfl (by assumption) rfl ?_)
   exact⟨_,rfl,by decide,hb⟩
 · (repeat (first | refine vo_pure rfl rfl ?_ | refine vs_seq ?_ | refine vs_region ?_ | refine oN ?_ | refine nQ ?_ | refine vs_skip ?_ | refine vs_block ?_ | refine vs_ret ?_ | refine fin_seq_ret ?_ | refine fin_blk ?_ | refine vs_exit ?_ | refine fin_seq_exit ?_ | refine fin_loop_exit ?_ | refine fin_blk_exit rfl ?_))
   have hk0:0<k:=by simp at hc; omega
   refine vs_loop (fun s:Int×ByteArray=>(3,.string s.2) :: (0,.int .i64 s.1) :: []) (fun s w'=>0<=s.1/\s.1<=9223372036854775807/\s.1*(10:Int) ^ s.2.size<=9223372036854775807/\(s.1=0->s.2.size<=19)/\Below w.heap.size w w') (fun s=>s.1.toNat) (k,⟨#[]⟩) ⟨by omega,hk.2,by show k*(10:Int) ^ 0<=_; rw[Int.pow_zero,Int.mul_one]; exact hk.2,fun _=>Nat.zero_le _,hb⟩ (by ((repeat (refine sub_cons rfl ?_)); exact sub_nil)) ?_;rintro⟨m,s⟩ w1 ⟨h1,h2,h3,h4,hb⟩;dsimp only at h1 h2 h3 h4
   (repeat (first | refine vo_pure rfl rfl ?_ | refine vs_seq ?_ | refine vs_region ?_ | refine oN ?_ | refine nQ ?_ | refine vs_skip ?_ | refine vs_block ?_ | refine vs_ret ?_ | refine fin_seq_ret ?_ | refine fin_blk ?_ | refine vs_exit ?_ | refine fin_seq_exit ?_ | refine fin_loop_exit ?_ | refine fin_blk_exit rfl ?_))
   refine vs_cond rfl (fun hc=>?_) (fun hc=>?_)
   ·have hm:0<m:=by simpa using hc
    obtain⟨q1,q2⟩:=pow_step hm h3
    (repeat (first | refine vo_pure rfl rfl ?_ | refine vs_seq ?_ | refine vs_region ?_ | refine oN ?_ | refine nQ ?_ | refine vs_skip ?_ | refine vs_block ?_ | refine vs_ret ?_ | refine fin_seq_ret ?_ | refine fin_blk ?_ | refine vs_exit ?_ | refine fin_seq_exit ?_ | refine fin_loop_exit ?_ | refine fin_blk_exit rfl ?_))
    have r1:=Int.tmod_nonneg 10 h1;have r2:=Int.tmod_lt_of_pos m (show(0:Int)<10 by decide);have d1:0<=m.tdiv 10:=Int.tdiv_nonneg h1 (by decide);have d2:m.tdiv 10<m:=by
     rw[Int.tdiv_eq_ediv_of_nonneg h1];omega
    refine vo_val _ (runs_rem (a:=m) rfl rfl (show(10:Int)≠0 by decide)) rfl ?_;refine vo_val _ (runs_add rfl rfl (by omega)) rfl ?_;refine vo_val _ (runs_toByte rfl) rfl ?_
    (refine vo_buildSlice rfl rfl rfl rfl rfl ?_; intro b1 w1 hN B1; have zz:=hN.eq; have zz:=hN.size; have hE:=hN.ext; replace hb:=hb.trans (hE.mono hb.size))
    refine vo_val _ (runs_toStr (ms:=[((48:Int)+m.tmod 10) % 256]) rfl rfl B1.at) rfl ?_;have hz:(strOfNums [((48:Int)+m.tmod 10) % 256]).size=1:=rfl;generalize strOfNums [((48:Int)+m.tmod 10) % 256]=c at hz
    (repeat (first | refine vo_pure rfl rfl ?_ | refine vs_seq ?_ | refine vs_region ?_ | refine oN ?_ | refine nQ ?_ | refine vs_skip ?_ | refine vs_block ?_ | refine vs_ret ?_ | refine fin_seq_ret ?_ | refine fin_blk ?_ | refine vs_exit ?_ | refine fin_seq_exit ?_ | refine fin_loop_exit ?_ | refine fin_blk_exit rfl ?_))
    refine vo_val _ (runs_cat rfl rfl (by show c.size+s.size<=_; omega)) rfl ?_
    (repeat (first | refine vo_pure rfl rfl ?_ | refine vs_seq ?_ | refine vs_region ?_ | refine oN ?_ | refine nQ ?_ | refine vs_skip ?_ | refine vs_block ?_ | refine vs_ret ?_ | refine fin_seq_ret ?_ | refine fin_blk ?_ | refine vs_exit ?_ | refine fin_seq_exit ?_ | refine fin_loop_exit ?_ | refine fin_blk_exit rfl ?_))
    refine vo_val _ (runs_quo rfl rfl ⟨by omega,h2⟩ (show(0:Int)<10 by decide)) rfl ?_
    (repeat (first | refine vo_pure rfl rfl ?_ | refine vs_seq ?_ | refine vs_region ?_ | refine oN ?_ | refine nQ ?_ | refine vs_skip ?_ | refine vs_block ?_ | refine vs_ret ?_ | refine fin_seq_ret ?_ | refine fin_blk ?_ | refine vs_exit ?_ | refine fin_seq_exit ?_ | refine fin_loop_exit ?_ | refine fin_blk_exit rfl ?_))
    refine fin_loop (m.tdiv 10,c++s) ⟨d1,by show m.tdiv 10<=_; omega,?_,?_,hb⟩ (by show(m.tdiv 10).toNat<m.toNat; omega) (by ((repeat (refine sub_cons rfl ?_)); exact sub_nil))
    ·show m.tdiv 10*(10:Int) ^ (c++s).size<=_;rw[ByteArray.size_append,hz,Nat.add_comm];exact q2
    ·intro _;show(c++s).size<=19;rw[ByteArray.size_append,hz];omega
   ·have hm:m=0:=by
     have:¬(0<m):=by simpa using hc
     omega
    have hs:=h4 hm
    (repeat (first | refine vo_pure rfl rfl ?_ | refine vs_seq ?_ | refine vs_region ?_ | refine oN ?_ | refine nQ ?_ | refine vs_skip ?_ | refine vs_block ?_ | refine vs_ret ?_ | refine fin_seq_ret ?_ | refine fin_blk ?_ | refine vs_exit ?_ | refine fin_seq_exit ?_ | refine fin_loop_exit ?_ | refine fin_blk_exit rfl ?_))
    refine vo_val _ (runs_cat rfl rfl (by show(ByteArray.mk #[109]).size+s.size<=_; have:(ByteArray.mk #[109]).size=1:=rfl; omega)) rfl ?_
    (repeat (first | refine vo_pure rfl rfl ?_ | refine vs_seq ?_ | refine vs_region ?_ | refine oN ?_ | refine nQ ?_ | refine vs_skip ?_ | refine vs_block ?_ | refine vs_ret ?_ | refine fin_seq_ret ?_ | refine fin_blk ?_ | refine vs_exit ?_ | refine fin_seq_exit ?_ | refine fin_loop_exit ?_ | refine fin_blk_exit rfl ?_))
    (first | refine fin_ret1 Tryz.results93 rfl ?_ | refine fin_end1 Tryz.results93 rfl ?_ | refine fin_ret2 Tryz.results93 rfl rfl ?_ | refine fin_retC1 Tryz.results93 rfl (by assumption) rfl rfl ?_ | refine fin_retC Tryz.results93 rfl (by assumption) rfl ?_)
    refine⟨_,rfl,?_,hb⟩;show(ByteArray.mk #[109]++s).size<=_;rw[ByteArray.size_append];have:(ByteArray.mk #[109]).size=1:=rfl;omega
theorem tC:TxC Tryz.prog 93:=fun _ _ h=>cText h
set_option maxHeartbeats 2000000 in
theorem m15:MkS Tryz.prog 15 (.sl (.int .i64)):=by
 intro F w u x k hF0 hS h0 hk;have hS0:=hS;obtain⟨p,cap,hu,hcap,hmax,_⟩:=hS0;simp only[List.cons.injEq,and_true] at hu;subst hu;have hall:=cntP_all (.int .i64) x;refine calls_vs Tryz.func15 Tryz.ntmps15 rfl rfl ?_;refine ra ?_;refine pu ?_;refine oN (nQ (vs_seq (ra ?_)));refine pu ?_;refine oN (nQ (vs_block ?_));refine vs_loop (fun i:Nat=>(1,.int .i64 (k+(cntP (.int .i64) x i:Int))) :: (5,.int .i64 (i:Int)) :: (0,.slice p x.length cap) :: []) (fun i w'=>i<=x.length/\WM F w w') (fun i=>x.length-i) 0 ⟨Nat.zero_le _,WM.refl F w⟩ (by rw[cntP_zero]; simp only[Int.natCast_zero,Int.add_zero]; ((repeat (refine sub_cons rfl ?_)); exact sub_nil)) ?_;rintro i w1 ⟨hi,hm⟩;have hle:=cntP_le (.int .i64) x i hi;refine vs_seq (ra ?_);refine pu ?_;refine pu ?_;refine vo_val _ (runs_lenL rfl) rfl ?_;refine pu ?_;refine oN (nQ ?_);refine vs_cond rfl (fun hc=>?_) (fun hc=>?_)
 ·have hlt:i<x.length:=by simpa using hc
  obtain⟨_,b,o,c,rfl,hF,hU,hat,hs⟩:=SH.get hS hlt;have hsu:=cntP_succ (e:=(.int .i64)) (xs:=x) hlt;have hle1:=cntP_le (.int .i64) x (i+1) (by omega);generalize x[i]=y at hs hsu;obtain⟨z0,rfl,_,_⟩:=hs;have hy:cntM (.int .i64) y=1:=rfl;refine vs_skip (nQ (vs_seq (vs_block ?_)));refine ra ?_;refine pu ?_;refine pu ?_;refine pu ?_;refine im hlt ?_;refine si hm hF hU (hat 0 _ rfl) fun w2 hm=>?_;refine rc ?_;refine pu ?_;refine ad ?_;refine pu ?_;refine rd' ?_;refine pu ?_;refine ad ?_;refine pu ?_;refine oN ?_;have he:k+((cntP (.int .i64) x (i+1):Nat):Int)=((k+(cntP (.int .i64) x i:Int))+1):=by rw[hsu,hy]; omega
  refine fin_loop (i+1) ⟨by omega,hm⟩ (by omega) (by rw[he,Int.natCast_succ]; ((repeat (refine sub_cons rfl ?_)); exact sub_nil))
 ·have hge:i=x.length:=by
   have:¬i<x.length:=by simpa using hc
   omega
  subst hge;refine vs_exit (fin_seq_exit (fin_loop_exit (fin_blk_exit rfl (nQ (ra ?_)))));refine pu ?_;refine pu ?_;refine oN (nQ (vs_ret ?_));refine fin_ret1 Tryz.results15 rfl ?_;rw[hall];exact⟨rfl,hm⟩
set_option maxHeartbeats 2000000 in
theorem m138:MkS Tryz.prog 138 (.sl y217):=by
 intro F w u x k hF0 hS h0 hk;have hS0:=hS;obtain⟨p,cap,hu,hcap,hmax,_⟩:=hS0;simp only[List.cons.injEq,and_true] at hu;subst hu;have hall:=cntP_all y217 x;refine calls_vs Tryz.func138 Tryz.ntmps138 rfl rfl ?_;refine ra ?_;refine pu ?_;refine oN (nQ (vs_seq (ra ?_)));refine pu ?_;refine oN (nQ (vs_block ?_));refine vs_loop (fun i:Nat=>(1,.int .i64 (k+(cntP y217 x i:Int))) :: (5,.int .i64 (i:Int)) :: (0,.slice p x.length cap) :: []) (fun i w'=>i<=x.length/\WM F w w') (fun i=>x.length-i) 0 ⟨Nat.zero_le _,WM.refl F w⟩ (by rw[cntP_zero]; simp only[Int.natCast_zero,Int.add_zero]; ((repeat (refine sub_cons rfl ?_)); exact sub_nil)) ?_;rintro i w1 ⟨hi,hm⟩;have hle:=cntP_le y217 x i hi;refine vs_seq (ra ?_);refine pu ?_;refine pu ?_;refine vo_val _ (runs_lenL rfl) rfl ?_;refine pu ?_;refine oN (nQ ?_);refine vs_cond rfl (fun hc=>?_) (fun hc=>?_)
 ·have hlt:i<x.length:=by simpa using hc
  obtain⟨_,b,o,c,rfl,hF,hU,hat,hs⟩:=SH.get hS hlt;have hsu:=cntP_succ (e:=y217) (xs:=x) hlt;have hle1:=cntP_le y217 x (i+1) (by omega);generalize x[i]=y at hs hsu;obtain⟨_,_,rfl,q0,⟨_,_,rfl,q1,q2⟩⟩:=hs;have r0:=q0;obtain⟨_,_,rfl,_⟩:=r0;have r1:=q1;obtain⟨_,_,rfl,_⟩:=r1;have r2:=q2;obtain⟨_,_,rfl,_⟩:=r2;have hy:cntM y217 y=(cntM (.sl (.int .i64)) y.1+(cntM (.sl (.int .i64)) y.2.1+cntM (.sl (.int .i64)) y.2.2)):=rfl;refine vs_skip (nQ (vs_seq (vs_block ?_)));refine ra ?_;refine pu ?_;refine pu ?_;refine im hlt ?_;refine fm ?_;refine lm hm hF (hat 0 _ rfl) ?_;refine pu ?_;refine mc m15 hF0 hm q0 fun w2 hm _=>?_;refine pu ?_;refine rb ?_;refine pu ?_;refine pu ?_;refine im hlt ?_;refine fm ?_;refine lm hm hF (hat 1 _ rfl) ?_;refine pu ?_;refine mc m15 hF0 hm q1 fun w2 hm _=>?_;refine pu ?_;refine rc ?_;refine pu ?_;refine pu ?_;refine im hlt ?_;refine fm ?_;refine lm hm hF (hat 2 _ rfl) ?_;refine pu ?_;refine mc m15 hF0 hm q2 fun w2 hm _=>?_;refine pu ?_;refine rd' ?_;refine pu ?_;refine ad ?_;refine pu ?_;refine oN ?_;have he:k+((cntP y217 x (i+1):Nat):Int)=((((k+(cntP y217 x i:Int))+(cntM (.sl (.int .i64)) y.1:Int))+(cntM (.sl (.int .i64)) y.2.1:Int))+(cntM (.sl (.int .i64)) y.2.2:Int)):=by rw[hsu,hy]; omega
  refine fin_loop (i+1) ⟨by omega,hm⟩ (by omega) (by rw[he,Int.natCast_succ]; ((repeat (refine sub_cons rfl ?_)); exact sub_nil))
 ·have hge:i=x.length:=by
   have:¬i<x.length:=by simpa using hc
   omega
  subst hge;refine vs_exit (fin_seq_exit (fin_loop_exit (fin_blk_exit rfl (nQ (ra ?_)))));refine pu ?_;refine pu ?_;refine oN (nQ (vs_ret ?_));refine fin_ret1 Tryz.results138 rfl ?_;rw[hall];exact⟨rfl,hm⟩
set_option maxHeartbeats 2000000 in
theorem m95:MkS Tryz.prog 95 (.sl y190):=by
 intro F w u x k hF0 hS h0 hk;have hS0:=hS;obtain⟨p,cap,hu,hcap,hmax,_⟩:=hS0;simp only[List.cons.injEq,and_true] at hu;subst hu;have hall:=cntP_all y190 x;refine calls_vs Tryz.func95 Tryz.ntmps95 rfl rfl ?_;refine ra ?_;refine pu ?_;refine oN (nQ (vs_seq (ra ?_)));refine pu ?_;refine oN (nQ (vs_block ?_));refine vs_loop (fun i:Nat=>(1,.int .i64 (k+(cntP y190 x i:Int))) :: (5,.int .i64 (i:Int)) :: (0,.slice p x.length cap) :: []) (fun i w'=>i<=x.length/\WM F w w') (fun i=>x.length-i) 0 ⟨Nat.zero_le _,WM.refl F w⟩ (by rw[cntP_zero]; simp only[Int.natCast_zero,Int.add_zero]; ((repeat (refine sub_cons rfl ?_)); exact sub_nil)) ?_;rintro i w1 ⟨hi,hm⟩;have hle:=cntP_le y190 x i hi;refine vs_seq (ra ?_);refine pu ?_;refine pu ?_;refine vo_val _ (runs_lenL rfl) rfl ?_;refine pu ?_;refine oN (nQ ?_);refine vs_cond rfl (fun hc=>?_) (fun hc=>?_)
 ·have hlt:i<x.length:=by simpa using hc
  obtain⟨_,b,o,c,rfl,hF,hU,hat,hs⟩:=SH.get hS hlt;have hsu:=cntP_succ (e:=y190) (xs:=x) hlt;have hle1:=cntP_le y190 x (i+1) (by omega);generalize x[i]=y at hs hsu;obtain⟨_,_,rfl,⟨z0,rfl,_,_⟩,⟨_,_,rfl,⟨z1,rfl,_,_⟩,⟨_,_,rfl,⟨z2,rfl,_,_⟩,⟨_,_,rfl,⟨z3,rfl,_,_⟩,⟨_,_,rfl,q4,q5⟩⟩⟩⟩⟩:=hs;have r4:=q4;obtain⟨_,_,rfl,_⟩:=r4;have r5:=q5;obtain⟨_,_,rfl,_⟩:=r5;have hy:cntM y190 y=(1+(1+(1+(1+(cntM (.sl y217) y.2.2.2.2.1+cntM (.sl y217) y.2.2.2.2.2))))):=rfl;refine vs_skip (nQ (vs_seq (vs_block ?_)));refine ra ?_;refine pu ?_;refine pu ?_;refine pu ?_;refine im hlt ?_;refine fm ?_;refine si hm hF hU (hat 0 _ rfl) fun w2 hm=>?_;refine rb ?_;refine pu ?_;refine ad ?_;refine pu ?_;refine rb ?_;refine pu ?_;refine pu ?_;refine pu ?_;refine im hlt ?_;refine fm ?_;refine si hm hF hU (hat 1 _ rfl) fun w2 hm=>?_;refine rb ?_;refine pu ?_;refine ad ?_;refine pu ?_;refine rb ?_;refine pu ?_;refine pu ?_;refine pu ?_;refine im hlt ?_;refine fm ?_;refine si hm hF hU (hat 2 _ rfl) fun w2 hm=>?_;refine rb ?_;refine pu ?_;refine ad ?_;refine pu ?_;refine rb ?_;refine pu ?_;refine pu ?_;refine pu ?_;refine im hlt ?_;refine fm ?_;refine si hm hF hU (hat 3 _ rfl) fun w2 hm=>?_;refine rb ?_;refine pu ?_;refine ad ?_;refine pu ?_;refine rb ?_;refine pu ?_;refine pu ?_;refine im hlt ?_;refine fm ?_;refine lm hm hF (hat 4 _ rfl) ?_;refine pu ?_;refine mc m138 hF0 hm q4 fun w2 hm _=>?_;refine pu ?_;refine rc ?_;refine pu ?_;refine pu ?_;refine im hlt ?_;refine fm ?_;refine lm hm hF (hat 5 _ rfl) ?_;refine pu ?_;refine mc m138 hF0 hm q5 fun w2 hm _=>?_;refine pu ?_;refine rd' ?_;refine pu ?_;refine ad ?_;refine pu ?_;refine oN ?_;have he:k+((cntP y190 x (i+1):Nat):Int)=(((((((k+(cntP y190 x i:Int))+1)+1)+1)+1)+(cntM (.sl y217) y.2.2.2.2.1:Int))+(cntM (.sl y217) y.2.2.2.2.2:Int)):=by rw[hsu,hy]; omega
  refine fin_loop (i+1) ⟨by omega,hm⟩ (by omega) (by rw[he,Int.natCast_succ]; ((repeat (refine sub_cons rfl ?_)); exact sub_nil))
 ·have hge:i=x.length:=by
   have:¬i<x.length:=by simpa using hc
   omega
  subst hge;refine vs_exit (fin_seq_exit (fin_loop_exit (fin_blk_exit rfl (nQ (ra ?_)))));refine pu ?_;refine pu ?_;refine oN (nQ (vs_ret ?_));refine fin_ret1 Tryz.results95 rfl ?_;rw[hall];exact⟨rfl,hm⟩
set_option maxHeartbeats 2000000 in
theorem m94:MkS Tryz.prog 94 (.sl y155):=by
 intro F w u x k hF0 hS h0 hk;have hS0:=hS;obtain⟨p,cap,hu,hcap,hmax,_⟩:=hS0;simp only[List.cons.injEq,and_true] at hu;subst hu;have hall:=cntP_all y155 x;refine calls_vs Tryz.func94 Tryz.ntmps94 rfl rfl ?_;refine ra ?_;refine pu ?_;refine oN (nQ (vs_seq (ra ?_)));refine pu ?_;refine oN (nQ (vs_block ?_));refine vs_loop (fun i:Nat=>(1,.int .i64 (k+(cntP y155 x i:Int))) :: (5,.int .i64 (i:Int)) :: (0,.slice p x.length cap) :: []) (fun i w'=>i<=x.length/\WM F w w') (fun i=>x.length-i) 0 ⟨Nat.zero_le _,WM.refl F w⟩ (by rw[cntP_zero]; simp only[Int.natCast_zero,Int.add_zero]; ((repeat (refine sub_cons rfl ?_)); exact sub_nil)) ?_;rintro i w1 ⟨hi,hm⟩;have hle:=cntP_le y155 x i hi;refine vs_seq (ra ?_);refine pu ?_;refine pu ?_;refine vo_val _ (runs_lenL rfl) rfl ?_;refine pu ?_;refine oN (nQ ?_);refine vs_cond rfl (fun hc=>?_) (fun hc=>?_)
 ·have hlt:i<x.length:=by simpa using hc
  obtain⟨_,b,o,c,rfl,hF,hU,hat,hs⟩:=SH.get hS hlt;have hsu:=cntP_succ (e:=y155) (xs:=x) hlt;have hle1:=cntP_le y155 x (i+1) (by omega);generalize x[i]=y at hs hsu;obtain⟨_,_,rfl,⟨z0,rfl,_⟩,⟨_,_,rfl,⟨z1,rfl,_,_⟩,⟨_,_,rfl,⟨z2,rfl,_,_⟩,⟨z3,rfl⟩⟩⟩⟩:=hs;have hy:cntM y155 y=(1+(1+(1+1))):=rfl;refine vs_skip (nQ (vs_seq (vs_block ?_)));refine ra ?_;refine pu ?_;refine pu ?_;refine pu ?_;refine tc' tC hm fun w2 s1 hs1 hm=>?_;refine im hlt ?_;refine fm ?_;refine ss hm hF hU (hat 0 _ rfl) hs1 fun w2 hm=>?_;refine rb ?_;refine pu ?_;refine ad ?_;refine pu ?_;refine rb ?_;refine pu ?_;refine pu ?_;refine pu ?_;refine im hlt ?_;refine fm ?_;refine si hm hF hU (hat 1 _ rfl) fun w2 hm=>?_;refine rb ?_;refine pu ?_;refine ad ?_;refine pu ?_;refine rb ?_;refine pu ?_;refine pu ?_;refine pu ?_;refine im hlt ?_;refine fm ?_;refine si hm hF hU (hat 2 _ rfl) fun w2 hm=>?_;refine rb ?_;refine pu ?_;refine ad ?_;refine pu ?_;refine rb ?_;refine pu ?_;refine pu ?_;refine pu ?_;refine vo_val _ (runs_rem rfl rfl (show(3:Int)≠0 by decide)) rfl ?_;refine pu ?_;refine im hlt ?_;refine fm ?_;refine sb hm hF hU (hat 3 _ rfl) fun w2 hm=>?_;refine rc ?_;refine pu ?_;refine ad ?_;refine pu ?_;refine rd' ?_;refine pu ?_;refine ad ?_;refine pu ?_;refine oN ?_;have he:k+((cntP y155 x (i+1):Nat):Int)=(((((k+(cntP y155 x i:Int))+1)+1)+1)+1):=by rw[hsu,hy]; omega
  refine fin_loop (i+1) ⟨by omega,hm⟩ (by omega) (by rw[he,Int.natCast_succ]; ((repeat (refine sub_cons rfl ?_)); exact sub_nil))
 ·have hge:i=x.length:=by
   have:¬i<x.length:=by simpa using hc
   omega
  subst hge;refine vs_exit (fin_seq_exit (fin_loop_exit (fin_blk_exit rfl (nQ (ra ?_)))));refine pu ?_;refine pu ?_;refine oN (nQ (vs_ret ?_));refine fin_ret1 Tryz.results94 rfl ?_;rw[hall];exact⟨rfl,hm⟩
set_option maxHeartbeats 2000000 in
theorem m66:MkS Tryz.prog 66 (.sl .str):=by
 intro F w u x k hF0 hS h0 hk;have hS0:=hS;obtain⟨p,cap,hu,hcap,hmax,_⟩:=hS0;simp only[List.cons.injEq,and_true] at hu;subst hu;have hall:=cntP_all .str x;refine calls_vs Tryz.func66 Tryz.ntmps66 rfl rfl ?_;refine ra ?_;refine pu ?_;refine oN (nQ (vs_seq (ra ?_)));refine pu ?_;refine oN (nQ (vs_block ?_));refine vs_loop (fun i:Nat=>(1,.int .i64 (k+(cntP .str x i:Int))) :: (5,.int .i64 (i:Int)) :: (0,.slice p x.length cap) :: []) (fun i w'=>i<=x.length/\WM F w w') (fun i=>x.length-i) 0 ⟨Nat.zero_le _,WM.refl F w⟩ (by rw[cntP_zero]; simp only[Int.natCast_zero,Int.add_zero]; ((repeat (refine sub_cons rfl ?_)); exact sub_nil)) ?_;rintro i w1 ⟨hi,hm⟩;have hle:=cntP_le .str x i hi;refine vs_seq (ra ?_);refine pu ?_;refine pu ?_;refine vo_val _ (runs_lenL rfl) rfl ?_;refine pu ?_;refine oN (nQ ?_);refine vs_cond rfl (fun hc=>?_) (fun hc=>?_)
 ·have hlt:i<x.length:=by simpa using hc
  obtain⟨_,b,o,c,rfl,hF,hU,hat,hs⟩:=SH.get hS hlt;have hsu:=cntP_succ (e:=.str) (xs:=x) hlt;have hle1:=cntP_le .str x (i+1) (by omega);generalize x[i]=y at hs hsu;obtain⟨z0,rfl,_⟩:=hs;have hy:cntM .str y=1:=rfl;refine vs_skip (nQ (vs_seq (vs_block ?_)));refine ra ?_;refine pu ?_;refine pu ?_;refine pu ?_;refine tc' tC hm fun w2 s1 hs1 hm=>?_;refine im hlt ?_;refine ss hm hF hU (hat 0 _ rfl) hs1 fun w2 hm=>?_;refine rc ?_;refine pu ?_;refine ad ?_;refine pu ?_;refine rd' ?_;refine pu ?_;refine ad ?_;refine pu ?_;refine oN ?_;have he:k+((cntP .str x (i+1):Nat):Int)=((k+(cntP .str x i:Int))+1):=by rw[hsu,hy]; omega
  refine fin_loop (i+1) ⟨by omega,hm⟩ (by omega) (by rw[he,Int.natCast_succ]; ((repeat (refine sub_cons rfl ?_)); exact sub_nil))
 ·have hge:i=x.length:=by
   have:¬i<x.length:=by simpa using hc
   omega
  subst hge;refine vs_exit (fin_seq_exit (fin_loop_exit (fin_blk_exit rfl (nQ (ra ?_)))));refine pu ?_;refine pu ?_;refine oN (nQ (vs_ret ?_));refine fin_ret1 Tryz.results66 rfl ?_;rw[hall];exact⟨rfl,hm⟩
set_option maxHeartbeats 2000000 in
theorem m67:MkS Tryz.prog 67 (.sl y138):=by
 intro F w u x k hF0 hS h0 hk;have hS0:=hS;obtain⟨p,cap,hu,hcap,hmax,_⟩:=hS0;simp only[List.cons.injEq,and_true] at hu;subst hu;have hall:=cntP_all y138 x;refine calls_vs Tryz.func67 Tryz.ntmps67 rfl rfl ?_;refine ra ?_;refine pu ?_;refine oN (nQ (vs_seq (ra ?_)));refine pu ?_;refine oN (nQ (vs_block ?_));refine vs_loop (fun i:Nat=>(1,.int .i64 (k+(cntP y138 x i:Int))) :: (5,.int .i64 (i:Int)) :: (0,.slice p x.length cap) :: []) (fun i w'=>i<=x.length/\WM F w w') (fun i=>x.length-i) 0 ⟨Nat.zero_le _,WM.refl F w⟩ (by rw[cntP_zero]; simp only[Int.natCast_zero,Int.add_zero]; ((repeat (refine sub_cons rfl ?_)); exact sub_nil)) ?_;rintro i w1 ⟨hi,hm⟩;have hle:=cntP_le y138 x i hi;refine vs_seq (ra ?_);refine pu ?_;refine pu ?_;refine vo_val _ (runs_lenL rfl) rfl ?_;refine pu ?_;refine oN (nQ ?_);refine vs_cond rfl (fun hc=>?_) (fun hc=>?_)
 ·have hlt:i<x.length:=by simpa using hc
  obtain⟨_,b,o,c,rfl,hF,hU,hat,hs⟩:=SH.get hS hlt;have hsu:=cntP_succ (e:=y138) (xs:=x) hlt;have hle1:=cntP_le y138 x (i+1) (by omega);generalize x[i]=y at hs hsu;obtain⟨_,_,rfl,⟨z0,rfl,_⟩,⟨_,_,rfl,⟨z1,rfl,_,_⟩,⟨z2,rfl,_,_⟩⟩⟩:=hs;have hy:cntM y138 y=(1+(1+1)):=rfl;refine vs_skip (nQ (vs_seq (vs_block ?_)));refine ra ?_;refine pu ?_;refine pu ?_;refine pu ?_;refine tc' tC hm fun w2 s1 hs1 hm=>?_;refine im hlt ?_;refine fm ?_;refine ss hm hF hU (hat 0 _ rfl) hs1 fun w2 hm=>?_;refine rb ?_;refine pu ?_;refine ad ?_;refine pu ?_;refine rb ?_;refine pu ?_;refine pu ?_;refine pu ?_;refine im hlt ?_;refine fm ?_;refine si hm hF hU (hat 1 _ rfl) fun w2 hm=>?_;refine rb ?_;refine pu ?_;refine ad ?_;refine pu ?_;refine rb ?_;refine pu ?_;refine pu ?_;refine pu ?_;refine im hlt ?_;refine fm ?_;refine si hm hF hU (hat 2 _ rfl) fun w2 hm=>?_;refine rc ?_;refine pu ?_;refine ad ?_;refine pu ?_;refine rd' ?_;refine pu ?_;refine ad ?_;refine pu ?_;refine oN ?_;have he:k+((cntP y138 x (i+1):Nat):Int)=((((k+(cntP y138 x i:Int))+1)+1)+1):=by rw[hsu,hy]; omega
  refine fin_loop (i+1) ⟨by omega,hm⟩ (by omega) (by rw[he,Int.natCast_succ]; ((repeat (refine sub_cons rfl ?_)); exact sub_nil))
 ·have hge:i=x.length:=by
   have:¬i<x.length:=by simpa using hc
   omega
  subst hge;refine vs_exit (fin_seq_exit (fin_loop_exit (fin_blk_exit rfl (nQ (ra ?_)))));refine pu ?_;refine pu ?_;refine oN (nQ (vs_ret ?_));refine fin_ret1 Tryz.results67 rfl ?_;rw[hall];exact⟨rfl,hm⟩
set_option maxHeartbeats 2000000 in
theorem m65:MkS Tryz.prog 65 (.sl y94):=by
 intro F w u x k hF0 hS h0 hk;have hS0:=hS;obtain⟨p,cap,hu,hcap,hmax,_⟩:=hS0;simp only[List.cons.injEq,and_true] at hu;subst hu;have hall:=cntP_all y94 x;refine calls_vs Tryz.func65 Tryz.ntmps65 rfl rfl ?_;refine ra ?_;refine pu ?_;refine oN (nQ (vs_seq (ra ?_)));refine pu ?_;refine oN (nQ (vs_block ?_));refine vs_loop (fun i:Nat=>(1,.int .i64 (k+(cntP y94 x i:Int))) :: (5,.int .i64 (i:Int)) :: (0,.slice p x.length cap) :: []) (fun i w'=>i<=x.length/\WM F w w') (fun i=>x.length-i) 0 ⟨Nat.zero_le _,WM.refl F w⟩ (by rw[cntP_zero]; simp only[Int.natCast_zero,Int.add_zero]; ((repeat (refine sub_cons rfl ?_)); exact sub_nil)) ?_;rintro i w1 ⟨hi,hm⟩;have hle:=cntP_le y94 x i hi;refine vs_seq (ra ?_);refine pu ?_;refine pu ?_;refine vo_val _ (runs_lenL rfl) rfl ?_;refine pu ?_;refine oN (nQ ?_);refine vs_cond rfl (fun hc=>?_) (fun hc=>?_)
 ·have hlt:i<x.length:=by simpa using hc
  obtain⟨_,b,o,c,rfl,hF,hU,hat,hs⟩:=SH.get hS hlt;have hsu:=cntP_succ (e:=y94) (xs:=x) hlt;have hle1:=cntP_le y94 x (i+1) (by omega);generalize x[i]=y at hs hsu;obtain⟨_,_,rfl,⟨z0,rfl,_⟩,⟨_,_,rfl,⟨z1,rfl,_,_⟩,q2⟩⟩:=hs;have r2:=q2;obtain⟨_,_,rfl,_⟩:=r2;have hy:cntM y94 y=(1+(1+cntM (.sl (.int .i64)) y.2.2)):=rfl;refine vs_skip (nQ (vs_seq (vs_block ?_)));refine ra ?_;refine pu ?_;refine pu ?_;refine pu ?_;refine tc' tC hm fun w2 s1 hs1 hm=>?_;refine im hlt ?_;refine fm ?_;refine ss hm hF hU (hat 0 _ rfl) hs1 fun w2 hm=>?_;refine rb ?_;refine pu ?_;refine ad ?_;refine pu ?_;refine rb ?_;refine pu ?_;refine pu ?_;refine pu ?_;refine im hlt ?_;refine fm ?_;refine si hm hF hU (hat 1 _ rfl) fun w2 hm=>?_;refine rb ?_;refine pu ?_;refine ad ?_;refine pu ?_;refine rc ?_;refine pu ?_;refine pu ?_;refine im hlt ?_;refine fm ?_;refine lm hm hF (hat 2 _ rfl) ?_;refine pu ?_;refine mc m15 hF0 hm q2 fun w2 hm _=>?_;refine pu ?_;refine rd' ?_;refine pu ?_;refine ad ?_;refine pu ?_;refine oN ?_;have he:k+((cntP y94 x (i+1):Nat):Int)=((((k+(cntP y94 x i:Int))+1)+1)+(cntM (.sl (.int .i64)) y.2.2:Int)):=by rw[hsu,hy]; omega
  refine fin_loop (i+1) ⟨by omega,hm⟩ (by omega) (by rw[he,Int.natCast_succ]; ((repeat (refine sub_cons rfl ?_)); exact sub_nil))
 ·have hge:i=x.length:=by
   have:¬i<x.length:=by simpa using hc
   omega
  subst hge;refine vs_exit (fin_seq_exit (fin_loop_exit (fin_blk_exit rfl (nQ (ra ?_)))));refine pu ?_;refine pu ?_;refine oN (nQ (vs_ret ?_));refine fin_ret1 Tryz.results65 rfl ?_;rw[hall];exact⟨rfl,hm⟩
set_option maxHeartbeats 2000000 in
theorem m64:MkS Tryz.prog 64 (.sl y134):=by
 intro F w u x k hF0 hS h0 hk;have hS0:=hS;obtain⟨p,cap,hu,hcap,hmax,_⟩:=hS0;simp only[List.cons.injEq,and_true] at hu;subst hu;have hall:=cntP_all y134 x;refine calls_vs Tryz.func64 Tryz.ntmps64 rfl rfl ?_;refine ra ?_;refine pu ?_;refine oN (nQ (vs_seq (ra ?_)));refine pu ?_;refine oN (nQ (vs_block ?_));refine vs_loop (fun i:Nat=>(1,.int .i64 (k+(cntP y134 x i:Int))) :: (5,.int .i64 (i:Int)) :: (0,.slice p x.length cap) :: []) (fun i w'=>i<=x.length/\WM F w w') (fun i=>x.length-i) 0 ⟨Nat.zero_le _,WM.refl F w⟩ (by rw[cntP_zero]; simp only[Int.natCast_zero,Int.add_zero]; ((repeat (refine sub_cons rfl ?_)); exact sub_nil)) ?_;rintro i w1 ⟨hi,hm⟩;have hle:=cntP_le y134 x i hi;refine vs_seq (ra ?_);refine pu ?_;refine pu ?_;refine vo_val _ (runs_lenL rfl) rfl ?_;refine pu ?_;refine oN (nQ ?_);refine vs_cond rfl (fun hc=>?_) (fun hc=>?_)
 ·have hlt:i<x.length:=by simpa using hc
  obtain⟨_,b,o,c,rfl,hF,hU,hat,hs⟩:=SH.get hS hlt;have hsu:=cntP_succ (e:=y134) (xs:=x) hlt;have hle1:=cntP_le y134 x (i+1) (by omega);generalize x[i]=y at hs hsu;obtain⟨_,_,rfl,⟨z0,rfl,_⟩,⟨_,_,rfl,⟨z1,rfl,_,_⟩,⟨_,_,rfl,q2,⟨_,_,rfl,q3,⟨_,_,rfl,q4,⟨_,_,rfl,⟨z5,rfl,_,_⟩,⟨z6,rfl,_,_⟩⟩⟩⟩⟩⟩⟩:=hs;have r2:=q2;obtain⟨_,_,rfl,_⟩:=r2;have r3:=q3;obtain⟨_,_,rfl,_⟩:=r3;have r4:=q4;obtain⟨_,_,rfl,_⟩:=r4;have hy:cntM y134 y=(1+(1+(cntM (.sl y155) y.2.2.1+(cntM (.sl y190) y.2.2.2.1+(cntM (.sl (.int .i64)) y.2.2.2.2.1+(1+1)))))):=rfl;refine vs_skip (nQ (vs_seq (vs_block ?_)));refine ra ?_;refine pu ?_;refine pu ?_;refine pu ?_;refine tc' tC hm fun w2 s1 hs1 hm=>?_;refine im hlt ?_;refine fm ?_;refine ss hm hF hU (hat 0 _ rfl) hs1 fun w2 hm=>?_;refine rb ?_;refine pu ?_;refine ad ?_;refine pu ?_;refine rb ?_;refine pu ?_;refine pu ?_;refine pu ?_;refine im hlt ?_;refine fm ?_;refine si hm hF hU (hat 1 _ rfl) fun w2 hm=>?_;refine rb ?_;refine pu ?_;refine ad ?_;refine pu ?_;refine rb ?_;refine pu ?_;refine pu ?_;refine im hlt ?_;refine fm ?_;refine lm hm hF (hat 2 _ rfl) ?_;refine pu ?_;refine mc m94 hF0 hm q2 fun w2 hm _=>?_;refine pu ?_;refine rb ?_;refine pu ?_;refine pu ?_;refine im hlt ?_;refine fm ?_;refine lm hm hF (hat 3 _ rfl) ?_;refine pu ?_;refine mc m95 hF0 hm q3 fun w2 hm _=>?_;refine pu ?_;refine rb ?_;refine pu ?_;refine pu ?_;refine im hlt ?_;refine fm ?_;refine lm hm hF (hat 4 _ rfl) ?_;refine pu ?_;refine mc m15 hF0 hm q4 fun w2 hm _=>?_;refine pu ?_;refine rb ?_;refine pu ?_;refine pu ?_;refine pu ?_;refine im hlt ?_;refine fm ?_;refine si hm hF hU (hat 5 _ rfl) fun w2 hm=>?_;refine rb ?_;refine pu ?_;refine ad ?_;refine pu ?_;refine rb ?_;refine pu ?_;refine pu ?_;refine pu ?_;refine im hlt ?_;refine fm ?_;refine si hm hF hU (hat 6 _ rfl) fun w2 hm=>?_;refine rc ?_;refine pu ?_;refine ad ?_;refine pu ?_;refine rd' ?_;refine pu ?_;refine ad ?_;refine pu ?_;refine oN ?_;have he:k+((cntP y134 x (i+1):Nat):Int)=((((((((k+(cntP y134 x i:Int))+1)+1)+(cntM (.sl y155) y.2.2.1:Int))+(cntM (.sl y190) y.2.2.2.1:Int))+(cntM (.sl (.int .i64)) y.2.2.2.2.1:Int))+1)+1):=by rw[hsu,hy]; omega
  refine fin_loop (i+1) ⟨by omega,hm⟩ (by omega) (by rw[he,Int.natCast_succ]; ((repeat (refine sub_cons rfl ?_)); exact sub_nil))
 ·have hge:i=x.length:=by
   have:¬i<x.length:=by simpa using hc
   omega
  subst hge;refine vs_exit (fin_seq_exit (fin_loop_exit (fin_blk_exit rfl (nQ (ra ?_)))));refine pu ?_;refine pu ?_;refine oN (nQ (vs_ret ?_));refine fin_ret1 Tryz.results64 rfl ?_;rw[hall];exact⟨rfl,hm⟩
set_option maxHeartbeats 2000000 in
theorem m36:MkS Tryz.prog 36 (.sl y53):=by
 intro F w u x k hF0 hS h0 hk;have hS0:=hS;obtain⟨p,cap,hu,hcap,hmax,_⟩:=hS0;simp only[List.cons.injEq,and_true] at hu;subst hu;have hall:=cntP_all y53 x;refine calls_vs Tryz.func36 Tryz.ntmps36 rfl rfl ?_;refine ra ?_;refine pu ?_;refine oN (nQ (vs_seq (ra ?_)));refine pu ?_;refine oN (nQ (vs_block ?_));refine vs_loop (fun i:Nat=>(1,.int .i64 (k+(cntP y53 x i:Int))) :: (5,.int .i64 (i:Int)) :: (0,.slice p x.length cap) :: []) (fun i w'=>i<=x.length/\WM F w w') (fun i=>x.length-i) 0 ⟨Nat.zero_le _,WM.refl F w⟩ (by rw[cntP_zero]; simp only[Int.natCast_zero,Int.add_zero]; ((repeat (refine sub_cons rfl ?_)); exact sub_nil)) ?_;rintro i w1 ⟨hi,hm⟩;have hle:=cntP_le y53 x i hi;refine vs_seq (ra ?_);refine pu ?_;refine pu ?_;refine vo_val _ (runs_lenL rfl) rfl ?_;refine pu ?_;refine oN (nQ ?_);refine vs_cond rfl (fun hc=>?_) (fun hc=>?_)
 ·have hlt:i<x.length:=by simpa using hc
  obtain⟨_,b,o,c,rfl,hF,hU,hat,hs⟩:=SH.get hS hlt;have hsu:=cntP_succ (e:=y53) (xs:=x) hlt;have hle1:=cntP_le y53 x (i+1) (by omega);generalize x[i]=y at hs hsu;obtain⟨_,_,rfl,q0,⟨_,_,rfl,q1,⟨_,_,rfl,q2,q3⟩⟩⟩:=hs;have r0:=q0;obtain⟨_,_,rfl,_⟩:=r0;have r1:=q1;obtain⟨_,_,rfl,_⟩:=r1;have r2:=q2;obtain⟨_,_,rfl,_⟩:=r2;have r3:=q3;obtain⟨_,_,rfl,_⟩:=r3;have hy:cntM y53 y=(cntM (.sl (.int .i64)) y.1+(cntM (.sl (.int .i64)) y.2.1+(cntM (.sl (.int .i64)) y.2.2.1+cntM (.sl (.int .i64)) y.2.2.2))):=rfl;refine vs_skip (nQ (vs_seq (vs_block ?_)));refine ra ?_;refine pu ?_;refine pu ?_;refine im hlt ?_;refine fm ?_;refine lm hm hF (hat 0 _ rfl) ?_;refine pu ?_;refine mc m15 hF0 hm q0 fun w2 hm _=>?_;refine pu ?_;refine rb ?_;refine pu ?_;refine pu ?_;refine im hlt ?_;refine fm ?_;refine lm hm hF (hat 1 _ rfl) ?_;refine pu ?_;refine mc m15 hF0 hm q1 fun w2 hm _=>?_;refine pu ?_;refine rb ?_;refine pu ?_;refine pu ?_;refine im hlt ?_;refine fm ?_;refine lm hm hF (hat 2 _ rfl) ?_;refine pu ?_;refine mc m15 hF0 hm q2 fun w2 hm _=>?_;refine pu ?_;refine rc ?_;refine pu ?_;refine pu ?_;refine im hlt ?_;refine fm ?_;refine lm hm hF (hat 3 _ rfl) ?_;refine pu ?_;refine mc m15 hF0 hm q3 fun w2 hm _=>?_;refine pu ?_;refine rd' ?_;refine pu ?_;refine ad ?_;refine pu ?_;refine oN ?_;have he:k+((cntP y53 x (i+1):Nat):Int)=(((((k+(cntP y53 x i:Int))+(cntM (.sl (.int .i64)) y.1:Int))+(cntM (.sl (.int .i64)) y.2.1:Int))+(cntM (.sl (.int .i64)) y.2.2.1:Int))+(cntM (.sl (.int .i64)) y.2.2.2:Int)):=by rw[hsu,hy]; omega
  refine fin_loop (i+1) ⟨by omega,hm⟩ (by omega) (by rw[he,Int.natCast_succ]; ((repeat (refine sub_cons rfl ?_)); exact sub_nil))
 ·have hge:i=x.length:=by
   have:¬i<x.length:=by simpa using hc
   omega
  subst hge;refine vs_exit (fin_seq_exit (fin_loop_exit (fin_blk_exit rfl (nQ (ra ?_)))));refine pu ?_;refine pu ?_;refine oN (nQ (vs_ret ?_));refine fin_ret1 Tryz.results36 rfl ?_;rw[hall];exact⟨rfl,hm⟩
set_option maxHeartbeats 2000000 in
theorem m34:MkA Tryz.prog 34 (.sl y134):=by
 intro F w cs x k hF0 hS h0 hk;have hc:cntM (.sl y134) x=cntM (.sl y134) x:=rfl;have q0:=hS;have r0:=q0;obtain⟨_,_,rfl,_⟩:=r0;refine calls_vs Tryz.func34 Tryz.ntmps34 rfl rfl ?_;refine vs_seq ?_;refine vs_region ?_;refine vo_box rfl rfl rfl ?_;intro b w1 hN B;have hm:WM F w w1:=WM.of_ext hN.ext;have hbF:¬F b:=by intro hb; have h1:=hF0 b hb; have h2:=hN.eq; have h3:=hN.size; omega
 refine pu ?_;refine oN ?_;refine nQ ?_;refine ra ?_;refine fm ?_;refine vo_loadB rfl B rfl rfl ?_;refine pu ?_;refine mc m64 hF0 hm q0 fun w2 hm hm2=>?_
 replace B:=blk_wm B hm2 hbF
 refine pu ?_;refine oN (nQ ?_);refine vs_seq ?_;refine vs_region ?_;refine pu ?_;refine pu ?_;refine oN ?_;refine nQ ?_;refine vs_ret ?_;refine fin_ret1 Tryz.results34 rfl ?_;refine⟨?_,hm⟩;rw[show k+(cntM (.sl y134) x:Int)=(k+(cntM (.sl y134) x:Int)) by omega]
set_option maxHeartbeats 2000000 in
theorem m35:MkA Tryz.prog 35 y48:=by
 intro F w cs x k hF0 hS h0 hk;have hc:cntM y48 x=(cntM (.sl y94) x.1+(cntM (.sl .str) x.2.1+cntM (.sl y138) x.2.2)):=rfl;obtain⟨_,_,rfl,q0,⟨_,_,rfl,q1,q2⟩⟩:=hS;have r0:=q0;obtain⟨_,_,rfl,_⟩:=r0;have r1:=q1;obtain⟨_,_,rfl,_⟩:=r1;have r2:=q2;obtain⟨_,_,rfl,_⟩:=r2;refine calls_vs Tryz.func35 Tryz.ntmps35 rfl rfl ?_;refine vs_seq ?_;refine vs_region ?_;refine vo_box rfl rfl rfl ?_;intro b w1 hN B;have hm:WM F w w1:=WM.of_ext hN.ext;have hbF:¬F b:=by intro hb; have h1:=hF0 b hb; have h2:=hN.eq; have h3:=hN.size; omega
 refine pu ?_;refine oN ?_;refine nQ ?_;refine ra ?_;refine fm ?_;refine vo_loadB rfl B rfl rfl ?_;refine pu ?_;refine mc m65 hF0 hm q0 fun w2 hm hm2=>?_
 replace B:=blk_wm B hm2 hbF
 refine pu ?_;refine oN (nQ ?_);refine ra ?_;refine fm ?_;refine vo_loadB rfl B rfl rfl ?_;refine pu ?_;refine mc m66 hF0 hm q1 fun w2 hm hm2=>?_
 replace B:=blk_wm B hm2 hbF
 refine pu ?_;refine oN (nQ ?_);refine ra ?_;refine fm ?_;refine vo_loadB rfl B rfl rfl ?_;refine pu ?_;refine mc m67 hF0 hm q2 fun w2 hm hm2=>?_
 replace B:=blk_wm B hm2 hbF
 refine pu ?_;refine oN (nQ ?_);refine vs_seq ?_;refine vs_region ?_;refine pu ?_;refine pu ?_;refine oN ?_;refine nQ ?_;refine vs_ret ?_;refine fin_ret1 Tryz.results35 rfl ?_;refine⟨?_,hm⟩;rw[show k+(cntM y48 x:Int)=(((k+(cntM (.sl y94) x.1:Int))+(cntM (.sl .str) x.2.1:Int))+(cntM (.sl y138) x.2.2:Int)) by omega]
set_option maxHeartbeats 2000000 in
theorem m13:MkA Tryz.prog 13 y51:=by
 intro F w cs x k hF0 hS h0 hk;have hc:cntM y51 x=(cntM (.sl y134) x.1+((cntM (.sl y94) x.2.1.1+(cntM (.sl .str) x.2.1.2.1+cntM (.sl y138) x.2.1.2.2))+cntM (.sl y53) x.2.2)):=rfl;obtain⟨_,_,rfl,q0,⟨_,_,rfl,⟨_,_,rfl,q1,⟨_,_,rfl,q2,q3⟩⟩,q4⟩⟩:=hS;have r0:=q0;obtain⟨_,_,rfl,_⟩:=r0;have r1:=q1;obtain⟨_,_,rfl,_⟩:=r1;have r2:=q2;obtain⟨_,_,rfl,_⟩:=r2;have r3:=q3;obtain⟨_,_,rfl,_⟩:=r3;have r4:=q4;obtain⟨_,_,rfl,_⟩:=r4;refine calls_vs Tryz.func13 Tryz.ntmps13 rfl rfl ?_;refine vs_seq ?_;refine vs_region ?_;refine vo_box rfl rfl rfl ?_;intro b w1 hN B;have hm:WM F w w1:=WM.of_ext hN.ext;have hbF:¬F b:=by intro hb; have h1:=hF0 b hb; have h2:=hN.eq; have h3:=hN.size; omega
 refine pu ?_;refine oN ?_;refine nQ ?_;refine ra ?_;refine fm ?_;refine vo_loadAt (cs:=[_]) rfl (B.at.mid (pre:=[]) (c:=[_]) (post:=[_,_,_,_])) rfl rfl ?_;refine pu ?_;have g0:SH F w (.sl y134) [_] x.1:=q0;have hn0:cntM (.sl y134) x.1=cntM (.sl y134) x.1:=rfl;refine ma m34 hF0 hm g0 fun w2 hm hm2=>?_
 replace B:=blk_wm B hm2 hbF
 refine pu ?_;refine oN (nQ ?_);refine ra ?_;refine fm ?_;refine vo_loadAt (cs:=[_,_,_]) rfl (B.at.mid (pre:=[_]) (c:=[_,_,_]) (post:=[_])) rfl rfl ?_;refine pu ?_;have g1:SH F w y48 [_,_,_] x.2.1:=⟨_,_,rfl,q1,⟨_,_,rfl,q2,q3⟩⟩;have hn1:cntM y48 x.2.1=(cntM (.sl y94) x.2.1.1+(cntM (.sl .str) x.2.1.2.1+cntM (.sl y138) x.2.1.2.2)):=rfl;refine ma m35 hF0 hm g1 fun w2 hm hm2=>?_
 replace B:=blk_wm B hm2 hbF
 refine pu ?_;refine oN (nQ ?_);refine ra ?_;refine fm ?_;refine vo_loadB rfl B rfl rfl ?_;refine pu ?_;refine mc m36 hF0 hm q4 fun w2 hm hm2=>?_
 replace B:=blk_wm B hm2 hbF
 refine pu ?_;refine oN (nQ ?_);refine vs_seq ?_;refine vs_region ?_;refine pu ?_;refine pu ?_;refine oN ?_;refine nQ ?_;refine vs_ret ?_;refine fin_ret1 Tryz.results13 rfl ?_;refine⟨?_,hm⟩;rw[show k+(cntM y51 x:Int)=(((k+(cntM (.sl y134) x.1:Int))+(cntM y48 x.2.1:Int))+(cntM (.sl y53) x.2.2:Int)) by omega]
set_option maxHeartbeats 2000000 in
theorem m37:MkA Tryz.prog 37 y53:=by
 intro F w cs x k hF0 hS h0 hk;have hc:cntM y53 x=(cntM (.sl (.int .i64)) x.1+(cntM (.sl (.int .i64)) x.2.1+(cntM (.sl (.int .i64)) x.2.2.1+cntM (.sl (.int .i64)) x.2.2.2))):=rfl;obtain⟨_,_,rfl,q0,⟨_,_,rfl,q1,⟨_,_,rfl,q2,q3⟩⟩⟩:=hS;have r0:=q0;obtain⟨_,_,rfl,_⟩:=r0;have r1:=q1;obtain⟨_,_,rfl,_⟩:=r1;have r2:=q2;obtain⟨_,_,rfl,_⟩:=r2;have r3:=q3;obtain⟨_,_,rfl,_⟩:=r3;refine calls_vs Tryz.func37 Tryz.ntmps37 rfl rfl ?_;refine vs_seq ?_;refine vs_region ?_;refine vo_box rfl rfl rfl ?_;intro b w1 hN B;have hm:WM F w w1:=WM.of_ext hN.ext;have hbF:¬F b:=by intro hb; have h1:=hF0 b hb; have h2:=hN.eq; have h3:=hN.size; omega
 refine pu ?_;refine oN ?_;refine nQ ?_;refine ra ?_;refine fm ?_;refine vo_loadB rfl B rfl rfl ?_;refine pu ?_;refine mc m15 hF0 hm q0 fun w2 hm hm2=>?_
 replace B:=blk_wm B hm2 hbF
 refine pu ?_;refine oN (nQ ?_);refine ra ?_;refine fm ?_;refine vo_loadB rfl B rfl rfl ?_;refine pu ?_;refine mc m15 hF0 hm q1 fun w2 hm hm2=>?_
 replace B:=blk_wm B hm2 hbF
 refine pu ?_;refine oN (nQ ?_);refine ra ?_;refine fm ?_;refine vo_loadB rfl B rfl rfl ?_;refine pu ?_;refine mc m15 hF0 hm q2 fun w2 hm hm2=>?_
 replace B:=blk_wm B hm2 hbF
 refine pu ?_;refine oN (nQ ?_);refine ra ?_;refine fm ?_;refine vo_loadB rfl B rfl rfl ?_;refine pu ?_;refine mc m15 hF0 hm q3 fun w2 hm hm2=>?_
 replace B:=blk_wm B hm2 hbF
 refine pu ?_;refine oN (nQ ?_);refine vs_seq ?_;refine vs_region ?_;refine pu ?_;refine pu ?_;refine oN ?_;refine nQ ?_;refine vs_ret ?_;refine fin_ret1 Tryz.results37 rfl ?_;refine⟨?_,hm⟩;rw[show k+(cntM y53 x:Int)=((((k+(cntM (.sl (.int .i64)) x.1:Int))+(cntM (.sl (.int .i64)) x.2.1:Int))+(cntM (.sl (.int .i64)) x.2.2.1:Int))+(cntM (.sl (.int .i64)) x.2.2.2:Int)) by omega]
set_option maxHeartbeats 2000000 in
theorem m14:∀(F:Nat->Prop) (w:World) (cs:List Value) (x:den y55) (k:Int),(∀i,F i->i<w.heap.size)->SH F w y55 cs x->0<=k->k+(cntM y53 x.2.2.2.2.2.2:Int)<=9223372036854775807->Calls Tryz.prog 14 #[.agg cs.toArray,.int .i64 k] w fun en w'=>en=.returned (.int .i64 (k+(cntM y53 x.2.2.2.2.2.2:Int)))/\WM F w w':=by
 intro F w cs x k hF0 hS h0 hk;have hc:cntM y53 x.2.2.2.2.2.2=(cntM (.sl (.int .i64)) x.2.2.2.2.2.2.1+(cntM (.sl (.int .i64)) x.2.2.2.2.2.2.2.1+(cntM (.sl (.int .i64)) x.2.2.2.2.2.2.2.2.1+cntM (.sl (.int .i64)) x.2.2.2.2.2.2.2.2.2))):=rfl;obtain⟨_,_,rfl,⟨z0,rfl,_,_⟩,⟨_,_,rfl,⟨z1,rfl,_,_⟩,⟨_,_,rfl,⟨z2,rfl,_,_⟩,⟨_,_,rfl,⟨z3,rfl,_,_⟩,⟨_,_,rfl,⟨z4,rfl,_,_⟩,⟨_,_,rfl,⟨z5,rfl,_⟩,⟨_,_,rfl,q6,⟨_,_,rfl,q7,⟨_,_,rfl,q8,q9⟩⟩⟩⟩⟩⟩⟩⟩⟩:=hS;have r6:=q6;obtain⟨_,_,rfl,_⟩:=r6;have r7:=q7;obtain⟨_,_,rfl,_⟩:=r7;have r8:=q8;obtain⟨_,_,rfl,_⟩:=r8;have r9:=q9;obtain⟨_,_,rfl,_⟩:=r9;refine calls_vs Tryz.func14 Tryz.ntmps14 rfl rfl ?_;refine vs_seq ?_;refine vs_region ?_;refine vo_box rfl rfl rfl ?_;intro b w1 hN B;have hm:WM F w w1:=WM.of_ext hN.ext;have hbF:¬F b:=by intro hb; have h1:=hF0 b hb; have h2:=hN.eq; have h3:=hN.size; omega
 refine pu ?_;refine oN ?_;refine nQ ?_;refine ra ?_;refine fm ?_;refine vo_loadAt (cs:=[_,_,_,_]) rfl (B.at.mid (pre:=[_,_,_,_,_,_]) (c:=[_,_,_,_]) (post:=[])) rfl rfl ?_;refine pu ?_;have g0:SH F w y53 [_,_,_,_] x.2.2.2.2.2.2:=⟨_,_,rfl,q6,⟨_,_,rfl,q7,⟨_,_,rfl,q8,q9⟩⟩⟩;have hn0:cntM y53 x.2.2.2.2.2.2=(cntM (.sl (.int .i64)) x.2.2.2.2.2.2.1+(cntM (.sl (.int .i64)) x.2.2.2.2.2.2.2.1+(cntM (.sl (.int .i64)) x.2.2.2.2.2.2.2.2.1+cntM (.sl (.int .i64)) x.2.2.2.2.2.2.2.2.2))):=rfl;refine ma m37 hF0 hm g0 fun w2 hm hm2=>?_
 replace B:=blk_wm B hm2 hbF
 refine pu ?_;refine oN (nQ ?_);refine vs_seq ?_;refine vs_region ?_;refine pu ?_;refine pu ?_;refine oN ?_;refine nQ ?_;refine vs_ret ?_;refine fin_ret1 Tryz.results14 rfl ?_;refine⟨?_,hm⟩;rw[show k+(cntM y53 x.2.2.2.2.2.2:Int)=(k+(cntM y53 x.2.2.2.2.2.2:Int)) by omega]
set_option maxHeartbeats 2000000 in
theorem x15:MkE Tryz.prog 15 (.int .i64) 1 mkI:=by
 intro K w u x k hU hS h0 hk;obtain⟨p,cap,rfl,b,o,ds,hp,hat,hl,hcl⟩:=hS.row;have hsz:ds.length=x.length*1:=hl;refine calls_vs Tryz.func15 Tryz.ntmps15 rfl rfl ?_;refine vs_seq ?_;refine vs_region ?_;refine vo_pure rfl rfl ?_;refine oN ?_;refine nQ ?_;refine vs_seq ?_;refine vs_seq ?_;refine vs_region ?_;refine vo_pure rfl rfl ?_;refine oN ?_;refine nQ ?_;refine vs_block ?_;refine vs_loop (fun i:Nat=>(1,.int .i64 (k+((1*i:Nat):Int))) :: (5,.int .i64 (i:Int)) :: (0,.slice p x.length cap) :: []) (fun i w'=>i<=x.length/\WO K w w'/\(∀j,UF w j->UF w' j)/\At w' b o (mks k (1*i)++ds.drop (1*i))) (fun i=>x.length-i) 0 ⟨Nat.zero_le _,WO.refl K w,fun _ h=>h,hat⟩ (by simp only[Nat.mul_zero,Int.natCast_zero,Int.add_zero]; ((repeat (refine sub_cons rfl ?_)); exact sub_nil)) ?_;rintro i w1 ⟨hi,hm,hu,hat⟩;refine vs_seq ?_;refine vs_seq ?_;refine vs_region ?_;refine vo_pure rfl rfl ?_;refine vo_pure rfl rfl ?_;refine vo_val _ (runs_lenL rfl) rfl ?_;refine vo_pure rfl rfl ?_;refine oN ?_;refine nQ ?_;refine vs_cond rfl (fun hc=>?_) (fun hc=>?_)
 ·have hlt:i<x.length:=by simpa using hc
  obtain⟨rfl,hK⟩:=hp (by omega);have hUb:=hU b hK;refine vs_skip ?_;refine nQ ?_;refine vs_seq ?_;refine vs_block ?_;refine vs_seq ?_;refine vs_region ?_;refine vo_pure rfl rfl ?_;refine vo_pure rfl rfl ?_;refine vo_pure rfl rfl ?_;refine vo_idxN rfl rfl hlt rfl ?_;refine vo_storeK (j:=1*i+0) (k:=k) (ds:=ds) rfl rfl (by omega) (by omega) (by omega) hat (hu b hUb) ?_;intro w2 hm2 hu2 hat
  replace hm:=hm.trans (hm2.up (fun j e=>by rw[e]; exact hK))
  replace hu:∀j,UF w j->UF w2 j:=fun j h=>hu2 j (hu j h)
  refine oN ?_;refine nQ ?_;refine vs_region ?_;refine vo_pure rfl rfl ?_;refine vo_val _ (runs_add rfl rfl (by omega)) rfl ?_;refine vo_pure rfl rfl ?_;refine oN ?_;refine fin_blk ?_;refine nQ ?_;refine vs_region ?_;refine vo_pure rfl rfl ?_;refine vo_val _ (runs_add rfl rfl (by omega)) rfl ?_;refine vo_pure rfl rfl ?_;refine oN ?_;have he:k+((1*(i+1):Nat):Int)=k+((1*i:Nat):Int)+1:=by omega
  refine fin_loop (i+1) ⟨by omega,hm,hu,hat⟩ (by omega) (by rw[he,Int.natCast_succ]; ((repeat (refine sub_cons rfl ?_)); exact sub_nil))
 ·have hge:i=x.length:=by
   have:¬i<x.length:=by simpa using hc
   omega
  subst hge;refine vs_exit ?_;refine fin_seq_exit ?_;refine fin_loop_exit ?_;refine fin_blk_exit rfl ?_;refine nQ ?_;refine vs_seq ?_;refine vs_region ?_;refine vo_pure rfl rfl ?_;refine vo_pure rfl rfl ?_;refine oN ?_;refine nQ ?_;refine vs_ret ?_;refine fin_ret1 Tryz.results15 rfl ?_;refine⟨rfl,hm,hu,hcl _ _ (mkI_len _ _) (mks k (1*x.length)) ?_ (by rw[Nat.one_mul]; exact mkI_all _ _ h0 (by omega))⟩;rw[List.drop_eq_nil_of_le (by omega),List.append_nil] at hat;exact hat
end Go.Proofs.YtggbjmljfdpllaaGreatDoor
end
section
namespace Go.Proofs.YtggbjmljfdpllaaGreatDoor
open Go Go.Proofs Go.Proofs.Sv Go.Proofs.Xv Go.Proofs.Xl Go.RowKit
theorem list10{l:List Value}(h:l.length=10):∃a b c d e f g h i j,l=[a,b,c,d,e,f,g,h,i,j]:=by
 match l,h with
 | [a,b,c,d,e,f,g,h,i,j],_=>exact⟨a,b,c,d,e,f,g,h,i,j,rfl⟩
theorem cTo7{p:Prop}{n m:Nat}{w:World}{cs:List Value}{x:Y32}{r:Y51}(f:Fa p n m w y32 cs x)(h:u7 x=some r):Calls Tryz.prog 7 #[.agg cs.toArray] w fun en w'=>∃x0 x1 x2 x3 x4,en=.returned (.agg #[x0,x1,x2,x3,x4])/\Ext w w'/\Fa True w.heap.size w'.heap.size w' y51 [x0,x1,x2,x3,x4] r:=by
 refine Calls.mono (ok_call o7 (fun _=>rfl) rfl (x:=(x,())) h ⟨_,_,rfl,f.arg,rfl,rfl⟩) ?_;rintro _ w' ⟨v,rfl,hE,us,rfl,hr⟩;obtain⟨x0,_,rfl,h0,hr⟩:=rrs_cons hr;obtain⟨x1,_,rfl,h1,hr⟩:=rrs_cons hr;obtain⟨x2,_,rfl,h2,hr⟩:=rrs_cons hr;obtain⟨x3,_,rfl,h3,hr⟩:=rrs_cons hr;obtain⟨x4,_,rfl,h4,hr⟩:=rrs_cons hr;obtain⟨rfl,_⟩:=hr;exact⟨x0,x1,x2,x3,x4,rfl,hE,[x0],[x1,x2,x3,x4],rfl,RT.up h0.1 (fun _ h=>h rfl),[x1,x2,x3],[x4],rfl,⟨[x1],[x2,x3],rfl,RT.up h1.1 (fun _ h=>h rfl),[x2],[x3],rfl,RT.up h2.1 (fun _ h=>h rfl),RT.up h3.1 (fun _ h=>h rfl)⟩,RT.up h4.1 (fun _ h=>h rfl)⟩
theorem cTo8{p:Prop}{n m:Nat}{w:World}{cs:List Value}{x:Y37}{r:Y55}(f:Fa p n m w y37 cs x)(h:u8 x=some r):Calls Tryz.prog 8 #[.agg cs.toArray] w fun en w'=>∃x0 x1 x2 x3 x4 x5 x6 x7 x8 x9,en=.returned (.agg #[x0,x1,x2,x3,x4,x5,x6,x7,x8,x9])/\Ext w w'/\Fa True w.heap.size w'.heap.size w' y55 [x0,x1,x2,x3,x4,x5,x6,x7,x8,x9] r:=by
 refine Calls.mono (ok_call o8 (fun _=>rfl) rfl (x:=(x,())) h ⟨_,_,rfl,f.arg,rfl,rfl⟩) ?_;rintro _ w' ⟨v,rfl,hE,us,rfl,hr⟩;obtain⟨x0,_,rfl,h0,hr⟩:=rrs_cons hr;obtain⟨x1,_,rfl,h1,hr⟩:=rrs_cons hr;obtain⟨x2,_,rfl,h2,hr⟩:=rrs_cons hr;obtain⟨x3,_,rfl,h3,hr⟩:=rrs_cons hr;obtain⟨x4,_,rfl,h4,hr⟩:=rrs_cons hr;obtain⟨x5,_,rfl,h5,hr⟩:=rrs_cons hr;obtain⟨x6,_,rfl,h6,hr⟩:=rrs_cons hr;obtain⟨x7,_,rfl,h7,hr⟩:=rrs_cons hr;obtain⟨x8,_,rfl,h8,hr⟩:=rrs_cons hr;obtain⟨x9,_,rfl,h9,hr⟩:=rrs_cons hr;obtain⟨rfl,_⟩:=hr;exact⟨x0,x1,x2,x3,x4,x5,x6,x7,x8,x9,rfl,hE,[x0],[x1,x2,x3,x4,x5,x6,x7,x8,x9],rfl,RT.up h0.1 (fun _ h=>h rfl),[x1],[x2,x3,x4,x5,x6,x7,x8,x9],rfl,RT.up h1.1 (fun _ h=>h rfl),[x2],[x3,x4,x5,x6,x7,x8,x9],rfl,RT.up h2.1 (fun _ h=>h rfl),[x3],[x4,x5,x6,x7,x8,x9],rfl,RT.up h3.1 (fun _ h=>h rfl),[x4],[x5,x6,x7,x8,x9],rfl,RT.up h4.1 (fun _ h=>h rfl),[x5],[x6,x7,x8,x9],rfl,RT.up h5.1 (fun _ h=>h rfl),[x6],[x7,x8,x9],rfl,RT.up h6.1 (fun _ h=>h rfl),[x7],[x8,x9],rfl,RT.up h7.1 (fun _ h=>h rfl),[x8],[x9],rfl,RT.up h8.1 (fun _ h=>h rfl),RT.up h9.1 (fun _ h=>h rfl)⟩
end Go.Proofs.YtggbjmljfdpllaaGreatDoor
end
section
namespace Go.Proofs.YtggbjmljfdpllaaGreatDoor
open Go Go.Proofs Go.Proofs.Sv Go.Proofs.Xv Go.Proofs.Xl Go.RowKit
attribute [local irreducible] VS VO VQ VH FinS seqQ blkQ loopQ RunsOp RunsU
attribute [local simp] spl reps Value.cells
structure HL3(x0:Y32)(x1:Y37)(l:List Int)(c:Int):Prop where
 ht2:u7 x0=some x0
 ht3:u8 x1=some x1
 hs4:u6 x0 x1=some (l,c)
 hs5:u9 x0 x1=some (l,c)
 he6:u10 l l=some true
 he7:u11 x0 x0=some true
 he8:u12 x1 x1=some true
 hk9:(1+(cntM y51 x0:Int))<=9223372036854775807
 hk10:((1+(cntM y51 x0:Int))+(cntM y53 x1.2.2.2.2.2.2:Int))<=9223372036854775807
 hk11:(1+((1*l.length:Nat):Int))<=9223372036854775807
 hh12:u16 (mkI 1 l.length) (1:Int)=some (1+((1*l.length:Nat):Int))
def GL3(x0:Y32)(x1:Y37):Prop:=∃L0:Int,u4 x0 (1048576:Int)=some L0/\L0<=1048576/\(0<=L0->∃L1:Int,u5 x1 (L0:Int)=some L1/\L1<=1048576/\(0<=L1->∃(l:List Int) (c:Int),HL3 x0 x1 l c))
set_option maxRecDepth 100000 in
set_option maxHeartbeats 4000000 in
theorem law3{K:Nat->Prop}{w0:World}{cs0:List Value}{x0:Y32}(a0:RT K w0 y32 cs0 x0){cs1:List Value}{x1:Y37}(a1:RT K w0 y37 cs1 x1)(hg:GL3 x0 x1):Calls Tryz.prog 3 #[.agg cs0.toArray,.agg cs1.toArray] w0 fun en w'=>en=.returned (.bool true)/\Ext w0 w':=by
 obtain⟨L0,hz0,hL0,hG⟩:=hg;obtain⟨c0a,c0b,c0c,c0d,c0e,rfl⟩:=list5 (RT.len a0);have f1:=Fa.of a0;obtain⟨c1a,c1b,c1c,c1d,c1e,c1f,c1g,c1h,c1i,c1j,rfl⟩:=list10 (RT.len a1);have f2:=Fa.of a1;have hb:Ext w0 w0:=Ext.refl w0;refine calls_vs Tryz.func3 Tryz.ntmps3 rfl rfl ?_;refine ra ?_;refine vo_box rfl rfl rfl ?_;intro b2 w1 hN B2;have i1:=hN.ext;have e2:=hN.eq;have s1:=hN.size;have B2:Blk w1 b2 [c0a,c0b,c0c,c0d,c0e] 32:=B2;refine vo_box rfl rfl rfl ?_;intro b3 w2 hN B3;have i2:=hN.ext;have e3:=hN.eq;have s2:=hN.size;have B3:Blk w2 b3 [c1a,c1b,c1c,c1d,c1e,c1f,c1g,c1h,c1i,c1j] 37:=B3;refine pu ?_;refine rb ?_;refine pu ?_;refine rb ?_;have B2:=B2.ext i2;refine vo_loadA rfl B2 rfl rfl ?_;refine pu ?_;have f1:=f1.ext (i1.trans i2);refine ci o4 (x:=(x0,(1048576:Int),())) hz0 ⟨_,_,rfl,f1.arg,⟨_,_,rfl,⟨rfl,by show lo .i64<=(1048576:Int); decide,by show(1048576:Int)<=hi .i64; decide⟩,⟨rfl,rfl⟩⟩⟩ fun w3 i3=>?_;have s3:=i3.size;refine pu ?_;refine oN (nQ (vs_seq (ra ?_)));refine pu ?_;refine pu ?_;refine oN (nQ (vs_cond rfl (fun hc=>?_) (fun hc=>?_)))
 ·refine ra ?_;refine pu ?_;refine oN (nQ (vs_ret ?_))
  (repeat refine fin_seq_ret ?_)
  refine fin_ret1 Tryz.results3 rfl ?_;have hb:=((hb.trans i1).trans i2).trans i3;exact⟨rfl,hb⟩
 have hp0:0<=L0:=by simpa using hc
 obtain⟨L1,hz1,hL1,hG⟩:=hG hp0;refine vs_skip (nQ (ra ?_));have B3:=B3.ext i3;refine vo_loadA rfl B3 rfl rfl ?_;refine pu ?_;have f2:=f2.ext (i1.trans (i2.trans i3));refine ci o5 (x:=(x1,(L0:Int),())) hz1 ⟨_,_,rfl,f2.arg,⟨_,_,rfl,⟨rfl,by show(-9223372036854775808:Int)<=L0; omega,by show L0<=(9223372036854775807:Int); omega⟩,⟨rfl,rfl⟩⟩⟩ fun w4 i4=>?_;have s4:=i4.size;refine pu ?_;refine oN (nQ (vs_seq (ra ?_)));refine pu ?_;refine pu ?_;refine oN (nQ (vs_cond rfl (fun hc=>?_) (fun hc=>?_)))
 ·refine ra ?_;refine pu ?_;refine oN (nQ (vs_ret ?_))
  (repeat refine fin_seq_ret ?_)
  refine fin_ret1 Tryz.results3 rfl ?_;have hb:=(((hb.trans i1).trans i2).trans i3).trans i4;exact⟨rfl,hb⟩
 obtain⟨l,c,⟨ht2,ht3,hs4,hs5,he6,he7,he8,hk9,hk10,hk11,hh12⟩⟩:=hG (by simpa using hc);refine vs_skip (nQ (vs_seq ?_));refine vs_held ?_;intro w5 i5;have s5:=i5.size;have hS:=Ext.refl w5;have B2:=B2.ext (i3.trans (i4.trans i5));have B3:=B3.ext (i4.trans i5);refine vh_take 0 rfl (fun _ hX=>runs_loadA rfl (lenIs_eq rfl) (B2.ext hX).at) rfl (by kernel_rfl) (by kernel_rfl) (by kernel_rfl) ?_;refine vh_take 2 rfl (fun _ hX=>runs_loadA rfl (lenIs_eq rfl) (B3.ext hX).at) rfl (by kernel_rfl) (by kernel_rfl) (by kernel_rfl) ?_;have f1:=f1.ext (i3.trans (i4.trans i5));refine vh_one 1 (by kernel_rfl) (vho_call rfl rfl rfl (Calls.mono (cTo7 f1 ht2) ?_)) hS;rintro _ w6 ⟨d3a,d3b,d3c,d3d,d3e,rfl,i6,g3⟩;refine⟨_,rfl,?_⟩
 replace hS:=hS.trans i6
 have s6:=i6.size;have f3:=g3;have f2:=f2.ext (i4.trans (i5.trans i6));refine vh_one 3 (by kernel_rfl) (vho_call rfl rfl rfl (Calls.mono (cTo8 f2 ht3) ?_)) hS;rintro _ w7 ⟨d4a,d4b,d4c,d4d,d4e,d4f,d4g,d4h,d4i,d4j,rfl,i7,g4⟩;refine⟨_,rfl,?_⟩
 replace hS:=hS.trans i7
 have s7:=i7.size;have f4:=g4;have f3:=f3.ext i7;refine vh_one 4 (by kernel_rfl) (vho_call rfl rfl rfl (Calls.mono (ok_call o6 (fun _=>rfl) rfl (x:=(x0,x1,())) hs4 ⟨_,_,rfl,f3.arg,⟨_,_,rfl,f4.arg,⟨rfl,rfl⟩⟩⟩) ?_)) hS;rintro _ w8 ⟨v,rfl,i8,hr⟩;refine⟨_,rfl,?_⟩
 replace hS:=hS.trans i8
 have s8:=i8.size;obtain⟨u5,v5,rfl,hr1,hr2⟩:=rr_two hr;obtain rfl:=rr_int hr2;have hq:=rr_dat (t:=(.sl (.int .i64))) (x:=l) (fr:=true) hr1;have f5:Fa True w7.heap.size w8.heap.size w8 (.sl (.int .i64)) [u5] l:=RT.up hq (fun _ h=>h rfl);refine vh_take 5 rfl (fun _ hX=>runs_pure rfl) rfl (by kernel_rfl) (by kernel_rfl) (by kernel_rfl) ?_;refine vh_take 6 rfl (fun _ hX=>runs_pure rfl) rfl (by kernel_rfl) (by kernel_rfl) (by kernel_rfl) ?_;refine vh_take 7 rfl (fun _ hX=>runs_pure rfl) rfl (by kernel_rfl) (by kernel_rfl) (by kernel_rfl) ?_;refine vh_take 8 rfl (fun _ hX=>runs_pure rfl) rfl (by kernel_rfl) (by kernel_rfl) (by kernel_rfl) ?_;refine vh_take 9 rfl (fun _ hX=>runs_pure rfl) rfl (by kernel_rfl) (by kernel_rfl) (by kernel_rfl) ?_;refine vh_done (by kernel_rfl) ?_ hS;refine nQ (ra ?_);have B2:=B2.ext (i6.trans (i7.trans i8));refine vo_loadA rfl B2 rfl rfl ?_;have f1:=f1.ext (i6.trans (i7.trans i8));refine vo_call rfl rfl (Calls.mono (cTo7 f1 ht2) ?_);rintro _ w9 ⟨d6a,d6b,d6c,d6d,d6e,rfl,i9,g6⟩;refine⟨_,rfl,?_⟩;have s9:=i9.size;have f6:=g6;refine vo_alloc rfl rfl ?_;intro b8 w10 hN B8;have i10:=hN.ext;have e8:=hN.eq;have s10:=hN.size;have f6:=f6.ext i10;refine vo_store (vs:=[d6a,d6b,d6c,d6d,d6e]) rfl rfl B8 rfl rfl (ones_of (RT.one f6)) rfl ?_;intro w11 hR hN;have i11:=wr_wo hR;have s11:=hR.size;have B8:Blk w11 b8 [d6a,d6b,d6c,d6d,d6e] 51:=hN;refine rb ?_;have B3:=blk_wo (B3.ext (i6.trans (i7.trans (i8.trans (i9.trans i10))))) i11 fun h=>by omega
 refine vo_loadA rfl B3 rfl rfl ?_;have f2:=(f2.ext (i7.trans (i8.trans (i9.trans i10)))).wo i11 fun i h1 h2 h3=>by omega
 refine vo_call rfl rfl (Calls.mono (cTo8 f2 ht3) ?_);rintro _ w12 ⟨d7a,d7b,d7c,d7d,d7e,d7f,d7g,d7h,d7i,d7j,rfl,i12,g7⟩;refine⟨_,rfl,?_⟩;have s12:=i12.size;have f7:=g7;refine vo_alloc rfl rfl ?_;intro b9 w13 hN B9;have i13:=hN.ext;have e9:=hN.eq;have s13:=hN.size;have f7:=f7.ext i13;refine vo_store (vs:=[d7a,d7b,d7c,d7d,d7e,d7f,d7g,d7h,d7i,d7j]) rfl rfl B9 rfl rfl (ones_of (RT.one f7)) rfl ?_;intro w14 hR hN;have i14:=wr_wo hR;have s14:=hR.size;have B9:Blk w14 b9 [d7a,d7b,d7c,d7d,d7e,d7f,d7g,d7h,d7i,d7j] 55:=hN;refine rb ?_;have B8:=blk_wo (B8.ext (i12.trans i13)) i14 fun h=>by omega
 refine vo_loadA rfl B8 rfl rfl ?_;refine vo_loadA rfl B9 rfl rfl ?_;have f6:=((f6.wo i11 fun i h1 h2 h3=>by omega).ext (i12.trans i13)).wo i14 fun i h1 h2 h3=>by omega
 have f7:=f7.wo i14 fun i h1 h2 h3=>by omega
 refine vo_call rfl rfl (Calls.mono (ok_call o9 (fun _=>rfl) rfl (x:=(x0,x1,())) hs5 ⟨_,_,rfl,f6.arg,⟨_,_,rfl,f7.arg,⟨rfl,rfl⟩⟩⟩) ?_);rintro _ w15 ⟨v,rfl,i15,hr⟩;refine⟨_,rfl,?_⟩;have s15:=i15.size;obtain⟨u8,v8,rfl,hr1,hr2⟩:=rr_two hr;obtain rfl:=rr_int hr2;have hq:=rr_dat (t:=(.sl (.int .i64))) (x:=l) (fr:=true) hr1;have f8:Fa True w14.heap.size w15.heap.size w15 (.sl (.int .i64)) [u8] l:=RT.up hq (fun _ h=>h rfl);refine pu ?_;refine pu ?_;refine pu ?_;refine pu ?_;refine pu ?_;refine oN (nQ (vs_seq (ra ?_)));refine pu ?_;refine pu ?_;have f5:=((((f5.ext (i9.trans i10)).wo i11 fun i h1 h2 h3=>by omega).ext (i12.trans i13)).wo i14 fun i h1 h2 h3=>by omega).ext i15;refine cb o10 (x:=(l,l,())) he6 ⟨_,_,rfl,f8.arg,⟨_,_,rfl,f5.arg,⟨rfl,rfl⟩⟩⟩ fun w16 i16=>?_;have s16:=i16.size;refine pu ?_;refine pu ?_;refine vo_guard_take rfl rfl ?_;refine pu ?_;refine vo_guard_take rfl rfl ?_;refine pu ?_;refine vo_guard_take rfl rfl ?_;refine pu ?_;refine vo_isF (bne_self_eq_false _) ?_;refine pu ?_;refine oN (nQ (vs_cond_false rfl ?_));refine vs_skip (nQ (vs_seq (vs_seq ?_)));refine vs_held ?_;intro w17 i17;have s17:=i17.size;have hS:=Ext.refl w17;have B8:=B8.ext (i15.trans (i16.trans i17));have B2:=(blk_wo ((blk_wo (B2.ext (i9.trans i10)) i11 fun h=>by omega).ext (i12.trans i13)) i14 fun h=>by omega).ext (i15.trans (i16.trans i17));refine vh_take 0 rfl (fun _ hX=>runs_loadA rfl (lenIs_eq rfl) (B8.ext hX).at) rfl (by kernel_rfl) (by kernel_rfl) (by kernel_rfl) ?_;refine vh_take 1 rfl (fun _ hX=>runs_loadA rfl (lenIs_eq rfl) (B2.ext hX).at) rfl (by kernel_rfl) (by kernel_rfl) (by kernel_rfl) ?_;have f1:=((((f1.ext (i9.trans i10)).wo i11 fun i h1 h2 h3=>by omega).ext (i12.trans i13)).wo i14 fun i h1 h2 h3=>by omega).ext (i15.trans (i16.trans i17));refine vh_one 2 (by kernel_rfl) (vho_call rfl rfl rfl (Calls.mono (cTo7 f1 ht2) ?_)) hS;rintro _ w18 ⟨d9a,d9b,d9c,d9d,d9e,rfl,i18,g9⟩;refine⟨_,rfl,?_⟩
 replace hS:=hS.trans i18
 have s18:=i18.size;have f9:=g9;have f6:=f6.ext (i15.trans (i16.trans (i17.trans i18)));refine vh_one 3 (by kernel_rfl) (vho_call rfl rfl rfl (Calls.mono (ok_call o11 (fun _=>rfl) rfl (x:=(x0,x0,())) he7 ⟨_,_,rfl,f6.arg,⟨_,_,rfl,f9.arg,⟨rfl,rfl⟩⟩⟩) ?_)) hS;rintro _ w19 ⟨v,rfl,i19,hr⟩;obtain rfl:=rr_bool hr;refine⟨_,rfl,?_⟩
 replace hS:=hS.trans i19
 have s19:=i19.size;refine vh_only 4 rfl (by kernel_rfl) (runs_pure rfl) rfl ?_;refine vh_done (by kernel_rfl) ?_ hS;refine nQ (vs_cond_false rfl ?_);refine vs_skip (nQ (vs_seq (vs_seq ?_)));refine vs_held ?_;intro w20 i20;have s20:=i20.size;have hS:=Ext.refl w20;have B9:=B9.ext (i15.trans (i16.trans (i17.trans (i18.trans (i19.trans i20)))));have B3:=(blk_wo (B3.ext (i12.trans i13)) i14 fun h=>by omega).ext (i15.trans (i16.trans (i17.trans (i18.trans (i19.trans i20)))));refine vh_take 0 rfl (fun _ hX=>runs_loadA rfl (lenIs_eq rfl) (B9.ext hX).at) rfl (by kernel_rfl) (by kernel_rfl) (by kernel_rfl) ?_;refine vh_take 1 rfl (fun _ hX=>runs_loadA rfl (lenIs_eq rfl) (B3.ext hX).at) rfl (by kernel_rfl) (by kernel_rfl) (by kernel_rfl) ?_;have f2:=((f2.ext (i12.trans i13)).wo i14 fun i h1 h2 h3=>by omega).ext (i15.trans (i16.trans (i17.trans (i18.trans (i19.trans i20)))));refine vh_one 2 (by kernel_rfl) (vho_call rfl rfl rfl (Calls.mono (cTo8 f2 ht3) ?_)) hS;rintro _ w21 ⟨d10a,d10b,d10c,d10d,d10e,d10f,d10g,d10h,d10i,d10j,rfl,i21,g10⟩;refine⟨_,rfl,?_⟩
 replace hS:=hS.trans i21
 have s21:=i21.size;have f10:=g10;have f7:=f7.ext (i15.trans (i16.trans (i17.trans (i18.trans (i19.trans (i20.trans i21))))));refine vh_one 3 (by kernel_rfl) (vho_call rfl rfl rfl (Calls.mono (ok_call o12 (fun _=>rfl) rfl (x:=(x1,x1,())) he8 ⟨_,_,rfl,f7.arg,⟨_,_,rfl,f10.arg,⟨rfl,rfl⟩⟩⟩) ?_)) hS;rintro _ w22 ⟨v,rfl,i22,hr⟩;obtain rfl:=rr_bool hr;refine⟨_,rfl,?_⟩
 replace hS:=hS.trans i22
 have s22:=i22.size;refine vh_only 4 rfl (by kernel_rfl) (runs_pure rfl) rfl ?_;refine vh_done (by kernel_rfl) ?_ hS;refine nQ (vs_cond_false rfl ?_);refine vs_skip (nQ (ra ?_));refine pu ?_;refine rb ?_;have B8:=B8.ext (i18.trans (i19.trans (i20.trans (i21.trans i22))));refine vo_loadA rfl B8 rfl rfl ?_;refine pu ?_;have f6:=f6.ext (i19.trans (i20.trans (i21.trans i22)));refine vo_call rfl rfl (Calls.mono (m13 (fun i=>w8.heap.size<=i/\i<w9.heap.size) _ _ _ _ (fun i hi=>by omega) (f6.sh rfl) (by omega) (by omega)) ?_);rintro _ w23 ⟨rfl,hM⟩;refine⟨_,rfl,?_⟩;have i23:=hM.wo;have s23:=i23.size;refine pu ?_;refine rb ?_;have B9:=blk_wo (B9.ext (i21.trans i22)) i23 fun h=>by omega
 refine vo_loadA rfl B9 rfl rfl ?_;refine pu ?_;have f7:=(f7.ext i22).wo i23 fun i h1 h2 h3=>by omega
 refine vo_call rfl rfl (Calls.mono (m14 (fun i=>w11.heap.size<=i/\i<w12.heap.size) _ _ _ _ (fun i hi=>by omega) (f7.sh rfl) (by omega) (by omega)) ?_);rintro _ w24 ⟨rfl,hM⟩;refine⟨_,rfl,?_⟩;have i24:=hM.wo;have s24:=i24.size;refine pu ?_;refine oN (nQ (vs_seq (ra ?_)));refine pu ?_;refine pu ?_;refine vo_isF (decide_eq_false (by omega)) ?_;refine pu ?_;refine vo_guard_take rfl rfl ?_;refine pu ?_;refine vo_guard_take rfl rfl ?_;refine pu ?_;refine vo_guard_take rfl rfl ?_;have f8:=((f8.ext (i16.trans (i17.trans (i18.trans (i19.trans (i20.trans (i21.trans i22))))))).wo i23 fun i h1 h2 h3=>by omega).wo i24 fun i h1 h2 h3=>by omega
 have f5:=((f5.ext (i16.trans (i17.trans (i18.trans (i19.trans (i20.trans (i21.trans i22))))))).wo i23 fun i h1 h2 h3=>by omega).wo i24 fun i h1 h2 h3=>by omega
 refine cb o10 (x:=(l,l,())) he6 ⟨_,_,rfl,f8.arg,⟨_,_,rfl,f5.arg,⟨rfl,rfl⟩⟩⟩ fun w25 i25=>?_;have s25:=i25.size;refine vo_guard_take rfl rfl ?_;refine pu ?_;refine pu ?_;refine pu ?_;refine vo_guard_take rfl rfl ?_;refine pu ?_;refine vo_guard_take rfl rfl ?_;refine pu ?_;refine vo_guard_take rfl rfl ?_;refine pu ?_;refine vo_isF (bne_self_eq_false _) ?_;refine pu ?_;refine oN (nQ (vs_cond_false rfl ?_));refine vs_skip (nQ (ra ?_));refine pu ?_;refine rb ?_;refine pu ?_;refine pu ?_;have f8:=f8.ext i25;refine vo_call rfl rfl (Calls.mono (Fa.mkE x15 f8 (by omega) (by omega)) ?_);rintro _ w26 ⟨rfl,i26,g25⟩;refine⟨_,rfl,?_⟩;have s26:=i26.size;have f8:=g25;refine pu ?_;refine rb ?_;refine pu ?_;refine rb ?_;refine pu ?_;refine pu ?_;refine ci o16 (x:=((mkI 1 l.length),(1:Int),())) hh12 ⟨_,_,rfl,f8.arg,⟨_,_,rfl,⟨rfl,by show lo .i64<=(1:Int); decide,by show(1:Int)<=hi .i64; decide⟩,⟨rfl,rfl⟩⟩⟩ fun w27 i27=>?_;have s27:=i27.size;refine pu ?_;refine oN (nQ (vs_seq (ra ?_)));refine pu ?_;refine pu ?_;refine vo_isF (decide_eq_false (by omega)) ?_;refine oN (nQ (vs_cond_false rfl ?_));refine vs_skip (nQ (vs_seq (ra ?_)));refine pu ?_;refine pu ?_;refine pu ?_;refine vo_isF (bne_self_eq_false _) ?_;refine oN (nQ (vs_cond_false rfl ?_));refine vs_skip (nQ (vs_seq ?_));refine vs_held ?_;intro w28 i28;have s28:=i28.size;have hS:=Ext.refl w28;have B2:=(blk_wo ((blk_wo (blk_wo (B2.ext (i18.trans (i19.trans (i20.trans (i21.trans i22))))) i23 fun h=>by omega) i24 fun h=>by omega).ext i25) i26 fun h=>by omega).ext (i27.trans i28);have B3:=(blk_wo ((blk_wo (blk_wo (B3.ext (i21.trans i22)) i23 fun h=>by omega) i24 fun h=>by omega).ext i25) i26 fun h=>by omega).ext (i27.trans i28);refine vh_take 0 rfl (fun _ hX=>runs_loadA rfl (lenIs_eq rfl) (B2.ext hX).at) rfl (by kernel_rfl) (by kernel_rfl) (by kernel_rfl) ?_;refine vh_take 2 rfl (fun _ hX=>runs_loadA rfl (lenIs_eq rfl) (B3.ext hX).at) rfl (by kernel_rfl) (by kernel_rfl) (by kernel_rfl) ?_;have f1:=(((((f1.ext (i18.trans (i19.trans (i20.trans (i21.trans i22))))).wo i23 fun i h1 h2 h3=>by omega).wo i24 fun i h1 h2 h3=>by omega).ext i25).wo i26 fun i h1 h2 h3=>by omega).ext (i27.trans i28);refine vh_one 1 (by kernel_rfl) (vho_call rfl rfl rfl (Calls.mono (cTo7 f1 ht2) ?_)) hS;rintro _ w29 ⟨d11a,d11b,d11c,d11d,d11e,rfl,i29,g11⟩;refine⟨_,rfl,?_⟩
 replace hS:=hS.trans i29
 have s29:=i29.size;have f11:=g11;have f2:=(((((f2.ext (i21.trans i22)).wo i23 fun i h1 h2 h3=>by omega).wo i24 fun i h1 h2 h3=>by omega).ext i25).wo i26 fun i h1 h2 h3=>by omega).ext (i27.trans (i28.trans i29));refine vh_one 3 (by kernel_rfl) (vho_call rfl rfl rfl (Calls.mono (cTo8 f2 ht3) ?_)) hS;rintro _ w30 ⟨d12a,d12b,d12c,d12d,d12e,d12f,d12g,d12h,d12i,d12j,rfl,i30,g12⟩;refine⟨_,rfl,?_⟩
 replace hS:=hS.trans i30
 have s30:=i30.size;have f12:=g12;have f11:=f11.ext i30;refine vh_one 4 (by kernel_rfl) (vho_call rfl rfl rfl (Calls.mono (ok_call o9 (fun _=>rfl) rfl (x:=(x0,x1,())) hs5 ⟨_,_,rfl,f11.arg,⟨_,_,rfl,f12.arg,⟨rfl,rfl⟩⟩⟩) ?_)) hS;rintro _ w31 ⟨v,rfl,i31,hr⟩;refine⟨_,rfl,?_⟩
 replace hS:=hS.trans i31
 have s31:=i31.size;obtain⟨u13,v13,rfl,hr1,hr2⟩:=rr_two hr;obtain rfl:=rr_int hr2;have hq:=rr_dat (t:=(.sl (.int .i64))) (x:=l) (fr:=true) hr1;have f13:Fa True w30.heap.size w31.heap.size w31 (.sl (.int .i64)) [u13] l:=RT.up hq (fun _ h=>h rfl);refine vh_take 5 rfl (fun _ hX=>runs_pure rfl) rfl (by kernel_rfl) (by kernel_rfl) (by kernel_rfl) ?_;refine vh_take 6 rfl (fun _ hX=>runs_pure rfl) rfl (by kernel_rfl) (by kernel_rfl) (by kernel_rfl) ?_;refine vh_take 7 rfl (fun _ hX=>runs_pure rfl) rfl (by kernel_rfl) (by kernel_rfl) (by kernel_rfl) ?_;refine vh_take 8 rfl (fun _ hX=>runs_pure rfl) rfl (by kernel_rfl) (by kernel_rfl) (by kernel_rfl) ?_;refine vh_take 9 rfl (fun _ hX=>runs_pure rfl) rfl (by kernel_rfl) (by kernel_rfl) (by kernel_rfl) ?_;refine vh_done (by kernel_rfl) ?_ hS;refine nQ (vs_seq (ra ?_));refine pu ?_;refine pu ?_;have f5:=((f5.ext i25).wo i26 fun i h1 h2 h3=>by omega).ext (i27.trans (i28.trans (i29.trans (i30.trans i31))));refine cb o10 (x:=(l,l,())) he6 ⟨_,_,rfl,f13.arg,⟨_,_,rfl,f5.arg,⟨rfl,rfl⟩⟩⟩ fun w32 i32=>?_;have s32:=i32.size;refine pu ?_;refine pu ?_;refine vo_guard_take rfl rfl ?_;refine pu ?_;refine vo_guard_take rfl rfl ?_;refine pu ?_;refine vo_guard_take rfl rfl ?_;refine pu ?_;refine vo_isF (bne_self_eq_false _) ?_;refine pu ?_;refine oN (nQ (vs_cond_false rfl ?_));refine vs_skip (nQ (ra ?_));refine pu ?_;refine rb ?_;refine pu ?_;refine pu ?_;have f8:=f8.ext (i27.trans (i28.trans (i29.trans (i30.trans (i31.trans i32)))));refine ci o16 (x:=((mkI 1 l.length),(1:Int),())) hh12 ⟨_,_,rfl,f8.arg,⟨_,_,rfl,⟨rfl,by show lo .i64<=(1:Int); decide,by show(1:Int)<=hi .i64; decide⟩,⟨rfl,rfl⟩⟩⟩ fun w33 i33=>?_;have s33:=i33.size;refine pu ?_;refine oN (nQ (vs_seq (ra ?_)));refine pu ?_;refine pu ?_;refine vo_isF (decide_eq_false (by omega)) ?_;refine oN (nQ (vs_cond_false rfl ?_));refine vs_skip (nQ (vs_seq (ra ?_)));refine pu ?_;refine pu ?_;refine pu ?_;refine vo_isF (bne_self_eq_false _) ?_;refine oN (nQ (vs_cond_false rfl ?_));refine vs_skip (nQ (ra ?_));refine pu ?_;refine oN (nQ (vs_ret ?_))
 (repeat refine fin_seq_ret ?_)
 refine fin_ret1 Tryz.results3 rfl ?_;have hb:=(((((((i26.ext ((i24.ext (i23.ext (((((((((i14.ext (((i11.ext ((((((((((hb.trans i1).trans i2).trans i3).trans i4).trans i5).trans i6).trans i7).trans i8).trans i9).trans i10) fun i h=>by omega).trans i12).trans i13) fun i h=>by omega).trans i15).trans i16).trans i17).trans i18).trans i19).trans i20).trans i21).trans i22) fun i h=>by omega) fun i h=>by omega).trans i25) fun i h=>by omega).trans i27).trans i28).trans i29).trans i30).trans i31).trans i32).trans i33;exact⟨rfl,hb⟩
end Go.Proofs.YtggbjmljfdpllaaGreatDoor
end
section
namespace Go.Proofs.Xd
open Go Go.Proofs.Xv Go.Proofs.Xl
abbrev DTbl:=List Int×List Int×List Int
abbrev DArc:=Int×Int×Int×Int×List DTbl×List DTbl
abbrev DPin:=ByteArray×Int×Int×Bool
abbrev DInst:=ByteArray×Int×List Int
abbrev DPort:=ByteArray×Int×Int
abbrev DWire:=List Int×List Int×List Int×List Int
def inB(x l h:Int):Bool:=decide (l<=x)&&decide (x<=h)
theorem inB_iff{x l h:Int}:inB x l h=true↔l<=x/\x<=h:=by simp[inB]
def incB(xs:List Int):Bool:=!(List.range xs.length).any fun i=>decide (0<i)&&decide (xs.getD i 0<=xs.getD (i-1) 0)
def isAxis(xs:List Int):Bool:=decide (1<=xs.length)&&decide (xs.length<=4)&&xs.all (inB · 0 100000)&&incB xs
def isTable(t:DTbl):Bool:=isAxis t.1&&isAxis t.2.1&&decide (t.2.2.length=t.1.length*t.2.1.length)&&t.2.2.all (inB · (-1000000) 1000000)
theorem axis_len{xs:List Int}(h:isAxis xs=true):1<=xs.length/\xs.length<=4:=by
 simp only[isAxis,ba,dq] at h;exact⟨h.1.1.1,h.1.1.2⟩
theorem table_len{t:DTbl}(h:isTable t=true):1<=t.1.length/\t.1.length<=4/\1<=t.2.1.length/\t.2.1.length<=4/\t.2.2.length=t.1.length*t.2.1.length/\1<=t.2.2.length/\t.2.2.length<=16:=by
 simp only[isTable,ba,dq] at h;obtain⟨⟨⟨h1,h2⟩,h3⟩,_⟩:=h;obtain⟨a1,a2⟩:=axis_len h1;obtain⟨b1,b2⟩:=axis_len h2;have c1:1*1<=t.1.length*t.2.1.length:=Nat.mul_le_mul a1 b1;have c2:t.1.length*t.2.1.length<=4*4:=Nat.mul_le_mul a2 b2;exact⟨a1,a2,b1,b2,h3,by omega,by omega⟩
def minN(xs:List Int):Int:=fN (fun i m=>min m (xs.getD (i+1) 0)) (xs.length-1) (xs.getD 0 0)
def areTables(l:List DTbl)(p:Bool):Bool:=decide (l.length=2)&&l.all fun t=>isTable t&&!(p&&decide (minN t.2.2<0))
theorem all_any{α:Type}(l:List α)(p:α->Bool):(!l.any fun x=>!p x)=l.all p:=by
 induction l with
 | nil=>rfl
 | cons a r ih=>simp only[List.any_cons,List.all_cons,Bool.not_or,Bool.not_not,ih]
end Go.Proofs.Xd
end
section
namespace Go.Proofs.Xd
open Go Go.Proofs.Sv Go.Proofs.Xv Go.Proofs.Xl
theorem nmTo_any(s:ByteArray):∀n,nmTo s n=!(List.range n).any fun i=>!chB (byteAt s i) i
 | 0=>rfl
 | n+1=>by
   rw[nmTo,nmTo_any s n,List.range_succ,List.any_append,Bool.not_or];simp
def dupB(f:Nat->ByteArray)(i:Nat):Bool:=(List.range i).any fun k=>decide (f k=f i)
def namesB(n:Nat)(f:Nat->ByteArray):Bool:=!(List.range n).any fun i=>!nmB (f i)||dupB f i
theorem namesB_congr{n:Nat}{f g:Nat->ByteArray}(h:∀i,i<n->f i=g i):namesB n f=namesB n g:=by
 unfold namesB;congr 1;refine any_congr' fun i hi=>?_;rw[h i hi];congr 1;unfold dupB;refine any_congr' fun k hk=>?_;rw[h i hi,h k (by omega)]
theorem take_any(l:List ByteArray)(d:ByteArray)(i:Nat)(h:i<l.length):((l.take i).any fun y=>decide (l.getD i d=y))=dupB (fun k=>l.getD k d) i:=by
 have hl:(l.take i).length=i:=by rw[List.length_take]; omega
 rw[<- any_getD (l.take i) d (fun y=>decide (l.getD i d=y)),hl];unfold dupB;refine any_congr' fun k hk=>?_;have:(l.take i).getD k d=l.getD k d:=by
  rw[gq,gq,List.getElem?_take_of_lt hk]
 rw[this,decide_eq_decide];exact eq_comm
theorem getD_map'{α β:Type}(f:α->β)(l:List α)(i:Nat)(d:α)(e:β)(h:i<l.length):(l.map f).getD i e=f (l.getD i d):=by
 rw[gq,gq,List.getElem?_map,List.getElem?_eq_getElem h]; rfl
theorem range_map{α β:Type}(l:List α)(d:α)(f:α->β):(List.range l.length).map (fun i=>f (l.getD i d))=l.map f:=by
 apply List.ext_getElem?;intro i;rw[List.getElem?_map,List.getElem?_map];by_cases h:i<l.length
 ·rw[List.getElem?_range h,List.getElem?_eq_getElem h];show some (f (l.getD i d))=some (f l[i]);rw[gq,List.getElem?_eq_getElem h]; rfl
 ·rw[List.getElem?_eq_none (by simpa using h),List.getElem?_eq_none (by omega)]; rfl
def pinB(n:Nat)(q:DPin)(i:Nat):Bool:=inB q.2.2.1 0 500&&(if i+1=n then q.2.1==2&&q.2.2.1==0&&!q.2.2.2 else q.2.1==1)
def pinsOk(n:Nat)(p:Nat->DPin):Bool:=decide (2<=n)&&decide (n<=5)&&namesB n (fun i=>(p i).1)&&!(List.range n).any fun i=>!pinB n (p i) i
def clkN(n:Nat)(p:Nat->DPin):Int:=fN (fun i s=>if(p i).2.2.2=true then s+1 else s) n 0
def clkI(n:Nat)(p:Nat->DPin):Int:=match(List.range n).find? (fun i=>(p i).2.2.2) with | some i=>(i:Int) | none => -1
def dupA(a:Nat->DArc)(i:Nat):Bool:=(List.range i).any fun k=>(a k).1==(a i).1&&(a k).2.1==(a i).2.1&&(a k).2.2.1==(a i).2.2.1
def isArcS(n:Nat)(p:Nat->DPin)(a:DArc):Bool :=
 inB a.2.1 0 ((n:Int)-1-1)&&inB a.2.2.1 0 ((n:Int)-1) &&
 if a.1=1 then !(p a.2.1.toNat).2.2.2&&a.2.2.1==(n:Int)-1&&inB a.2.2.2.1 1 3&&areTables a.2.2.2.2.1 true&&areTables a.2.2.2.2.2 true
 else if a.1=2∨a.1=3 then(p a.2.1.toNat).2.2.2&&a.2.2.1==(n:Int)-1&&a.2.2.2.1==0&&areTables a.2.2.2.2.1 true&&areTables a.2.2.2.2.2 true
 else if a.1=4∨a.1=5 then(p a.2.1.toNat).2.2.2&&decide (a.2.2.1 < (n:Int)-1)&&!(p a.2.2.1.toNat).2.2.2&&a.2.2.2.1==0&&areTables a.2.2.2.2.1 false&&(a.2.2.2.2.2.length:Int)==0
 else false
def isArcI(n:Nat)(p:Nat->DPin)(a:DArc):Bool :=
 if a.1=4∨a.1=5 then a.2.2.2.1==0&&(a.2.2.2.2.2.length:Int)==0&&areTables a.2.2.2.2.1 false&&a.2.1==clkI n p&&decide (0<=a.2.1)&&inB a.2.2.1 0 ((n:Int)-1-1)&&a.2.2.1 != a.2.1
 else areTables a.2.2.2.2.1 true&&areTables a.2.2.2.2.2 true&&a.2.2.1==(n:Int)-1&&inB a.2.1 0 ((n:Int)-1-1) &&
  if a.1=1 then !(p a.2.1.toNat).2.2.2&&inB a.2.2.2.1 1 3
  else if a.1=2∨a.1=3 then(p a.2.1.toNat).2.2.2&&a.2.2.2.1==0
  else false
theorem clkN_le(p:Nat->DPin):∀n,0<=clkN n p/\clkN n p<=n
 | 0=>⟨Int.le_refl _,Int.le_refl _⟩
 | n+1=>by
   have:=clkN_le p n
   grind[clkN,fN]
theorem clkN_one{p:Nat->DPin}:∀{n i:Nat},i<n->(p i).2.2.2=true->1<=clkN n p
 | n+1,i,hi,h=>by
   have h0:=(clkN_le p n).1;have ih:i<n->1<=clkN n p:=fun h'=>clkN_one h' h;unfold clkN at *
   rw[fN]
   grind
theorem clkN_two{p:Nat->DPin}:∀{n i j:Nat},i<j->j<n->(p i).2.2.2=true->(p j).2.2.2=true->2<=clkN n p
 | n+1,i,j,hij,hj,h,k=>by
   have ih:j<n->2<=clkN n p:=fun h'=>clkN_two hij h' h k;have h1:i<n->1<=clkN n p:=fun h'=>clkN_one h' h;unfold clkN at *
   rw[fN]
   grind
theorem clkI_eq{p:Nat->DPin}{n i:Nat}(hn:clkN n p<=1)(hi:i<n):(p i).2.2.2=decide (clkI n p=(i:Int)):=by
 unfold clkI;cases h:(List.range n).find? (fun i=>(p i).2.2.2) with
 | none =>
   grind
 | some j =>
   have h1:=List.find?_some h;have h2:=List.mem_range.1 (List.mem_of_find?_eq_some h);show _=decide ((j:Int)=(i:Int));by_cases e:j=i
   ·grind
   ·rw[decide_eq_false (by omega),<- Bool.not_eq_true];intro hc;rcases Nat.lt_or_gt_of_ne e with h' | h'
    ·have:=clkN_two (p:=p) h' hi h1 hc; omega
    simp_all
theorem clkI_lt{p:Nat->DPin}{n:Nat}:clkI n p<n:=by
 grind[clkI,List.range,List.mem_of_find?_eq_some]
theorem pins_last{p:Nat->DPin}{n:Nat}(h:pinsOk n p=true):2<=n/\n<=5/\(p (n-1)).2.2.2=false:=by
 grind[pinsOk,pinB]
theorem arc_eq{p:Nat->DPin}{n:Nat}(h:pinsOk n p=true)(hc:clkN n p<=1)(a:DArc):isArcI n p a=isArcS n p a:=by
 obtain⟨h2,h5,hl⟩:=pins_last h;obtain⟨kd,fr,to,se,de,sl⟩:=a;rw[Bool.eq_iff_iff];unfold isArcI isArcS;dsimp only;have hcl:∀x:Int,0<=x->x<=(n:Int)-1->(p x.toNat).2.2.2=decide (clkI n p=x):=fun x h0 h1=>by
  rw[clkI_eq hc (by omega)];rw[decide_eq_decide]; omega
 have hlast:clkI n p≠(n:Int)-1:=fun e=>by
  have:=hcl ((n:Int)-1) (by omega) (by omega);have e2:((n:Int)-1).toNat=n-1:=by omega
  rw[e2,hl,decide_eq_true e] at this;cases this
 have hlt:=clkI_lt (p:=p) (n:=n);by_cases k45:kd=4∨kd=5
 ·rw[if_pos k45,if_neg (by omega),if_neg (by omega),if_pos k45];simp only[ba,inB_iff,dq,beq_iff_eq,bne_iff_ne,Bool.not_eq_true']
  grind
 ·rw[if_neg k45];by_cases k1:kd=1
  ·rw[if_pos k1,if_pos k1];simp only[ba,inB_iff,beq_iff_eq]
   grind
  ·rw[if_neg k1,if_neg k1];by_cases k23:kd=2∨kd=3
   ·rw[if_pos k23,if_pos k23];simp only[ba,inB_iff,beq_iff_eq]
    grind
   grind
def hasB(m:Nat)(a:Nat->DArc)(k:Int):Bool:=(List.range m).any fun i=>(a i).1==k
def kindB(k:Int)(n:Nat)(p:Nat->DPin)(m:Nat)(a:Nat->DArc)(tr:List Int):Bool :=
 if k=1 then clkN n p==0&&(tr.length:Int)==1*2 ^ (n-1)&&tr.all (inB · 0 1)
 else if k=2 then clkN n p==1&&(tr.length:Int)==0&&!hasB m a 1&&!(hasB m a 2==hasB m a 3)
 else if k=3 then clkN n p==1&&(tr.length:Int)==0&&hasB m a 1&&hasB m a 2&&!hasB m a 3
 else false
theorem kind_clk{k:Int}{n:Nat}{p:Nat->DPin}{m:Nat}{a:Nat->DArc}{tr:List Int}(h:kindB k n p m a tr=true):clkN n p<=1:=by
 grind[kindB]
def arcsB(q:DArc->Bool)(m:Nat)(a:Nat->DArc):Bool:=decide (m<=8)&&!(List.range m).any fun i=>!q (a i)||dupA a i
def cellB(q:Nat->(Nat->DPin)->DArc->Bool)(nm:ByteArray)(k:Int)(n:Nat)(p:Nat->DPin)(m:Nat)(a:Nat->DArc)(tr:List Int)(lk en:Int):Bool :=
 nmB nm&&pinsOk n p&&arcsB (q n p) m a&&inB lk 0 100000&&inB en 0 100000&&kindB k n p m a tr
theorem cell_eq(nm:ByteArray)(k:Int)(n:Nat)(p:Nat->DPin)(m:Nat)(a:Nat->DArc)(tr:List Int)(lk en:Int):cellB isArcI nm k n p m a tr lk en=cellB isArcS nm k n p m a tr lk en:=by
 unfold cellB;cases hp:pinsOk n p with
 | false=>simp
 | true =>
   cases hk:kindB k n p m a tr with
   | false=>simp
   | true =>
     have:isArcI n p=isArcS n p:=funext fun x=>arc_eq hp (kind_clk hk) x;rw[this]
theorem take_anyG{α:Type}(l:List α)(d:α)(q:α->Bool)(i:Nat)(h:i<=l.length):(l.take i).any q=(List.range i).any fun k=>q (l.getD k d):=by
 have hl:(l.take i).length=i:=by rw[List.length_take]; omega
 rw[<- any_getD (l.take i) d q,hl];refine any_congr' fun k hk=>?_;rw[gq,gq,List.getElem?_take_of_lt hk]
theorem arcS_kind{n:Nat}{p:Nat->DPin}{a:DArc}(h:isArcS n p a=true):1<=a.1/\a.1<=5:=by
 grind[isArcS]
theorem pow_in{n:Nat}(h:n<=5) : -9223372036854775808<=(1:Int)*2 ^ (n-1)/\(1:Int)*2 ^ (n-1)<=9223372036854775807:=by
 have:∀k:Fin 6,-9223372036854775808<=(1:Int)*2 ^ (k.val-1)/\(1:Int)*2 ^ (k.val-1)<=9223372036854775807:=by decide
 exact this ⟨n,by omega⟩
def cntK(a:Nat->DArc)(k:Int)(m:Nat):Int:=fN (fun i s=>if(a i).1=k then s+1 else s) m 0
theorem cntK_le(a:Nat->DArc)(k:Int):∀m,0<=cntK a k m/\cntK a k m<=m
 | 0=>⟨Int.le_refl _,Int.le_refl _⟩
 | m+1=>by
   have:=cntK_le a k m
   grind[cntK,fN]
theorem cntK_has(a:Nat->DArc)(k:Int):∀m,hasB m a k=decide (0<cntK a k m)
 | 0=>rfl
 | m+1=>by
   have ih:=cntK_has a k m;have h0:=(cntK_le a k m).1
   grind[hasB,cntK,fN]
def kindsF(a:Nat->DArc)(i:Nat)(v:List Int):List Int:=v.set (a i).1.toNat (v.getD (a i).1.toNat 0+1)
theorem kinds_fold(a:Nat->DArc):∀m,(∀i,i<m->1<=(a i).1/\(a i).1<=5)->(fN (kindsF a) m (List.replicate 6 0)).length=6/\∀k:Nat,k<6->(fN (kindsF a) m (List.replicate 6 0)).getD k 0=cntK a k m
 | 0,_=>⟨by simp[fN],fun k hk=>by
   have:∀k:Fin 6,(List.replicate 6 (0:Int)).getD k.val 0=0:=by decide
   exact this ⟨k,hk⟩⟩
 | m+1,h=>by
   obtain⟨h1,h2⟩:=kinds_fold a m (fun i hi=>h i (by omega))
   grind[fN,kindsF,cntK]
def incAt(v:List Int)(x:Int):List Int:=v.set x.toNat (v.getD x.toNat 0+1)
def lowAt(v:List Int)(n b:Nat):Prop:=v.length=n/\∀k:Nat,0<=v.getD k 0/\v.getD k 0<=(b:Int)
theorem lowAt_rep(n b:Nat):lowAt (List.replicate n 0) n b:=by
 refine⟨List.length_replicate,fun k=>?_⟩;rw[gq,List.getElem?_replicate];split <;> (show(0:Int)<=0/\(0:Int)<=b; omega)
theorem lowAt_inc{v:List Int}{n b:Nat}(h:lowAt v n b)(x:Int):lowAt (incAt v x) n (b+1):=by
 refine⟨by unfold incAt; rw[List.length_set]; exact h.1,fun k=>?_⟩;have hx:=h.2 x.toNat;have hk:=h.2 k;unfold incAt;rw[gq,List.getElem?_set];by_cases e:x.toNat=k
 ·rw[if_pos e];split
  ·rw[Option.getD_some]; omega
  ·show(0:Int)<=0/\(0:Int)<=_; omega
 ·rw[if_neg e,<- gq]; omega
theorem lowAt_up{v:List Int}{n b b':Nat}(h:lowAt v n b)(hb:b<=b'):lowAt v n b':=⟨h.1,fun k=>by have:=h.2 k; omega⟩
theorem lowAt_ix{v:List Int}{n b:Nat}(h:lowAt v n b){x:Int}(hx:inB x 0 ((n:Int)-1)=true):ix x v.length/\x.toNat<v.length:=by
 rw[inB_iff] at hx;rw[ix,h.1];omega
def libB(n:Nat)(ok:Nat->Bool)(nm:Nat->ByteArray):Bool:=!((List.range n).any fun i=>!ok i||dupB nm i)&&decide (n<=8)
theorem lib_eq{n:Nat}{ok:Nat->Bool}{nm:Nat->ByteArray}(h:∀i,i<n->ok i=true->nmB (nm i)=true):(if((List.range n).any fun i=>!ok i)=true then false else decide (n<=8)&&namesB n nm)=libB n ok nm:=by
 unfold libB namesB;have e:((List.range n).any fun i=>!ok i||dupB nm i)=(((List.range n).any fun i=>!ok i)||(List.range n).any fun i=>dupB nm i):=any_or _ _;rw[e];cases ha:(List.range n).any fun i=>!ok i with
 | true=>rfl
 | false =>
   have hall:=(not_any (n:=n) (c:=fun i=>!ok i)).1 (by rw[ha]; rfl);have:((List.range n).any fun i=>!nmB (nm i)||dupB nm i)=(List.range n).any fun i=>dupB nm i:=any_congr' fun i hi=>by
    have:=hall i hi;rw[Bool.not_eq_false'] at this;rw[h i hi this]; rfl
   rw[this,if_neg (by simp),Bool.false_or,Bool.and_comm]
def instB(nc:Nat)(pins:Int->Nat)(nn:Nat)(x:DInst):Bool:=inB x.2.1 0 ((nc:Int)-1)&&(x.2.2.length:Int)==(pins x.2.1:Int)&&x.2.2.all fun y=>inB y 0 ((nn:Int)-1)
def portB(nn:Nat)(x:DPort):Bool:=inB x.2.1 1 2&&inB x.2.2 0 ((nn:Int)-1)
def instF(x:Nat->DInst)(i:Nat)(v:List Int):List Int:=incAt v ((x i).2.2.getD ((x i).2.2.length-1) 0)
def portF(x:Nat->DPort)(i:Nat)(v:List Int):List Int:=if(x i).2.1=1 then incAt v (x i).2.2 else v
def driveN(ni np nn:Nat)(x:Nat->DInst)(y:Nat->DPort):List Int:=fN (portF y) np (fN (instF x) ni (List.replicate nn 0))
theorem instF_low(x:Nat->DInst)(nn:Nat):∀i,lowAt (fN (instF x) i (List.replicate nn 0)) nn i
 | 0=>lowAt_rep nn 0
 | i+1=>lowAt_inc (instF_low x nn i) _
def designB(lib:Bool)(nc:Nat)(pins:Int->Nat)(ni np nn:Nat)(x:Nat->DInst)(y:Nat->DPort)(nets:Nat->ByteArray):Bool :=
 lib&&decide (ni<=14)&&decide (nn<=30)&&decide (np<=8)&&namesB ni (fun i=>(x i).1)&&namesB nn nets&&namesB np (fun i=>(y i).1) &&
  !((List.range ni).any fun i=>!instB nc pins nn (x i))&&!((List.range np).any fun i=>!portB nn (y i))&&(driveN ni np nn x y).all (·==1)
def wireB(w:DWire)(n:Int):Bool :=
 decide (1<=w.1.length)&&decide (w.1.length<=8)&&decide (w.2.1.length=w.1.length)&&decide (w.2.2.1.length=w.1.length)&&(w.2.2.2.length:Int)==n &&
  w.2.1.all (inB · 0 1000)&&w.2.2.1.all (inB · 0 500)&&w.2.2.2.all (inB · 0 ((w.1.length:Int)-1)) &&
  !(List.range w.1.length).any fun i=>(i==0&&(w.1.getD i 0 != -1||w.2.1.getD 0 0 != 0))||(decide (0<i)&&!inB (w.1.getD i 0) 0 ((i:Int)-1))
abbrev DPlace:=Int×Int×Int×Bool
def instP(x:DInst)(i:Int)(k:Nat)(s:List DPlace):List DPlace:=s++[(i,(k:Int),x.2.2.getD k 0,(k:Int)==(x.2.2.length:Int)-1)]
def portP(y:Nat->DPort)(i:Nat)(s:List DPlace):List DPlace:=s++[(-1,(i:Int),(y i).2.2,(y i).2.1==1)]
def placesF(x:Nat->DInst)(i:Nat)(s:List DPlace):List DPlace:=fN (instP (x i) i) (x i).2.2.length s
def placesN(ni np:Nat)(x:Nat->DInst)(y:Nat->DPort):List DPlace:=fN (portP y) np (fN (placesF x) ni [])
theorem instP_len(x:DInst)(i:Int)(s:List DPlace):∀k,(fN (instP x i) k s).length=s.length+k
 | 0=>rfl
 | k+1=>by
   rw[fN,instP,List.length_append,instP_len x i s k]; rfl
theorem portP_len(y:Nat->DPort)(s:List DPlace):∀k,(fN (portP y) k s).length=s.length+k
 | 0=>rfl
 | k+1=>by
   rw[fN,portP,List.length_append,portP_len y s k]; rfl
def sinkF(pl:Nat->DPlace)(i:Nat)(v:List Int):List Int:=if(pl i).2.2.2=false then incAt v (pl i).2.2.1 else v
def cntP(pl:Nat->DPlace)(t:Int)(m:Nat):Int:=fN (fun i s=>if((pl i).2.2.1==t&&!(pl i).2.2.2)=true then s+1 else s) m 0
theorem cntP_le(pl:Nat->DPlace)(t:Int):∀m,0<=cntP pl t m/\cntP pl t m<=m
 | 0=>⟨Int.le_refl _,Int.le_refl _⟩
 | m+1=>by
   have:=cntP_le pl t m;unfold cntP at *
   rw[fN];split <;> omega
theorem sink_fold(pl:Nat->DPlace)(n:Nat):∀m,(∀i,i<m->inB (pl i).2.2.1 0 ((n:Int)-1)=true)->(fN (sinkF pl) m (List.replicate n 0)).length=n/\∀k:Nat,k<n->(fN (sinkF pl) m (List.replicate n 0)).getD k 0=cntP pl k m
 | 0,_=>⟨by simp[fN],fun k hk=>by
   show(List.replicate n (0:Int)).getD k 0=0;rw[gq,List.getElem?_replicate,if_pos hk]; rfl⟩
 | m+1,h=>by
   obtain⟨h1,h2⟩:=sink_fold pl n m (fun i hi=>h i (by omega));have h3:=inB_iff.1 (h m (by omega));rw[fN];generalize fN (sinkF pl) m (List.replicate n 0)=v at *
   unfold sinkF;have e:∀k:Nat,cntP pl k (m+1)=if((pl m).2.2.1==(k:Int)&&!(pl m).2.2.2)=true then cntP pl k m+1 else cntP pl k m:=fun k=>by unfold cntP; rw[fN]
   cases hd:(pl m).2.2.2 with
   | true =>
     refine⟨by rw[if_neg (by simp)]; exact h1,fun k hk=>?_⟩;rw[if_neg (by simp),h2 k hk,e,hd,if_neg (by simp)]
   | false =>
     rw[if_pos rfl];unfold incAt;refine⟨by rw[List.length_set]; exact h1,fun k hk=>?_⟩;rw[e,hd,gq,List.getElem?_set];by_cases hk':(pl m).2.2.1.toNat=k
     ·rw[if_pos hk',if_pos (by rw[h1]; omega),if_pos (by simp; omega),Option.getD_some,hk',h2 k hk]
     ·rw[if_neg hk',if_neg (by simp; omega),<- gq,h2 k hk]
def sinkL(pl:Nat->DPlace)(t:Int)(i:Nat)(s:List Int):List Int:=if((pl i).2.2.1==t&&!(pl i).2.2.2)=true then s++[(i:Int)] else s
theorem sinkL_len(pl:Nat->DPlace)(t:Int):∀m,((fN (sinkL pl t) m []).length:Int)=cntP pl t m
 | 0=>rfl
 | m+1=>by
   have:=sinkL_len pl t m;rw[fN];unfold cntP at *
   rw[fN];unfold sinkL at *
   split
   ·rw[List.length_append];show((_+1:Nat):Int)=_;omega
   ·exact this
def netsIn(n:Nat)(s:List DPlace):Prop:=∀p∈s,inB p.2.2.1 0 ((n:Int)-1)=true
theorem instP_in{n:Nat}{x:DInst}{i:Int}(hx:∀k,k<x.2.2.length->inB (x.2.2.getD k 0) 0 ((n:Int)-1)=true){s:List DPlace}(hs:netsIn n s):∀k,k<=x.2.2.length->netsIn n (fN (instP x i) k s)
 | 0,_=>hs
 | k+1,hk=>by
   rw[fN,instP];intro p hp;rcases List.mem_append.1 hp with h | h
   ·exact instP_in hx hs k (by omega) p h
   ·cases List.mem_singleton.1 h;exact hx k (by omega)
theorem placesF_in{n:Nat}{x:Nat->DInst}{ni:Nat}(hx:∀i,i<ni->∀k,k < (x i).2.2.length->inB ((x i).2.2.getD k 0) 0 ((n:Int)-1)=true):∀i,i<=ni->netsIn n (fN (placesF x) i [])
 | 0,_=>fun p hp=>by cases hp
 | i+1,hi=>by
   rw[fN,placesF];exact instP_in (hx i (by omega)) (placesF_in hx i (by omega)) _ (Nat.le_refl _)
theorem portP_in{n:Nat}{y:Nat->DPort}{np:Nat}(hy:∀i,i<np->inB (y i).2.2 0 ((n:Int)-1)=true){s:List DPlace}(hs:netsIn n s):∀k,k<=np->netsIn n (fN (portP y) k s)
 | 0,_=>hs
 | k+1,hk=>by
   rw[fN,portP];intro p hp;rcases List.mem_append.1 hp with h | h
   ·exact portP_in hy hs k (by omega) p h
   ·cases List.mem_singleton.1 h;exact hy k (by omega)
theorem placesF_len{x:Nat->DInst}{ni:Nat}(hx:∀i,i<ni->(x i).2.2.length<=5):∀i,i<=ni->(fN (placesF x) i []).length<=5*i
 | 0,_=>Nat.le_refl _
 | i+1,hi=>by
   rw[fN,placesF,instP_len];have:=placesF_len hx i (by omega);have:=hx i (by omega);omega
theorem getD_mem{α:Type}{l:List α}{i:Nat}{d:α}(h:i<l.length):l.getD i d∈l:=by
 rw[gq,List.getElem?_eq_getElem h];exact List.getElem_mem h
theorem all_getD{l:List Int}{p:Int->Bool}(h:l.all p=true){i:Nat}(hi:i<l.length):p (l.getD i 0)=true:=List.all_eq_true.1 h _ (getD_mem hi)
structure DesignFacts(nc:Nat)(pins:Int->Nat)(ni np nn:Nat)(x:Nat->DInst)(y:Nat->DPort):Prop where
 ni14:ni<=14
 np8:np<=8
 nn30:nn<=30
 inst:∀i,i<ni->instB nc pins nn (x i)=true
 port:∀i,i<np->portB nn (y i)=true
theorem design_facts{lib:Bool}{nc:Nat}{pins:Int->Nat}{ni np nn:Nat}{x:Nat->DInst}{y:Nat->DPort}{nets:Nat->ByteArray}(h:designB lib nc pins ni np nn x y nets=true):lib=true/\DesignFacts nc pins ni np nn x y:=by
 unfold designB at h;simp only[ba,dq] at h;obtain⟨⟨⟨⟨⟨⟨⟨⟨⟨c1,c2⟩,c3⟩,c4⟩,_⟩,_⟩,_⟩,c5⟩,c6⟩,_⟩:=h;refine⟨c1,c2,c4,c3,fun i hi=>?_,fun i hi=>?_⟩
 ·have:=not_any.1 c5 i hi
  rwa [Bool.not_eq_false'] at this
 ·have:=not_any.1 c6 i hi
  rwa [Bool.not_eq_false'] at this
theorem DesignFacts.net{nc:Nat}{pins:Int->Nat}{ni np nn:Nat}{x:Nat->DInst}{y:Nat->DPort}(h:DesignFacts nc pins ni np nn x y):(∀i,i<ni->∀k,k < (x i).2.2.length->inB ((x i).2.2.getD k 0) 0 ((nn:Int)-1)=true)/\∀i,i<np->inB (y i).2.2 0 ((nn:Int)-1)=true:=by
 refine⟨fun i hi k hk=>?_,fun i hi=>?_⟩
 ·have:=h.inst i hi;unfold instB at this;rw[ba] at this;exact all_getD (p:=fun y=>inB y 0 ((nn:Int)-1)) this.2 hk
 ·have:=h.port i hi;unfold portB at this;rw[ba] at this;exact this.2
end Go.Proofs.Xd
end
section
namespace Go.Proofs.Xd
open Go Go.Proofs Go.Proofs.Xl
def addAt(v:List Int)(i:Nat)(x:Int):List Int:=v.set i (v.getD i 0+x)
theorem addAt_len{v:List Int}{i:Nat}{x:Int}:(addAt v i x).length=v.length:=by grind[addAt]
theorem addAt_get{v:List Int}{i j:Nat}{x:Int}(hi:i<v.length):(addAt v i x).getD j 0=if j=i then v.getD i 0+x else v.getD j 0:=by
 grind[addAt]
def sumTo(v:List Int)(k:Nat):Int:=fN (fun i s=>s+v.getD i 0) k 0
theorem sumTo_succ(v:List Int)(k:Nat):sumTo v (k+1)=sumTo v k+v.getD k 0:=rfl
theorem sumTo_addAt{v:List Int}{i:Nat}{x:Int}(hi:i<v.length):∀k,sumTo (addAt v i x) k=sumTo v k+if i<k then x else 0
 | 0=>by simp[sumTo,fN]
 | k+1=>by
   rw[sumTo_succ,sumTo_succ,sumTo_addAt hi k,addAt_get hi];by_cases h:k=i
   ·subst h; simp; omega
   ·rw[if_neg h];by_cases h2:i<k
    ·rw[if_pos h2,if_pos (by omega)]; omega
    ·rw[if_neg h2,if_neg (by omega)]; omega
theorem sumTo_pos{v:List Int}(hp:∀j,0<=v.getD j 0):∀k,0<=sumTo v k
 | 0=>by simp[sumTo,fN]
 | k+1=>by have:=sumTo_pos hp k; grind[sumTo_succ]
theorem le_sumTo{v:List Int}(hp:∀j,0<=v.getD j 0):∀{k j:Nat},j<k->v.getD j 0<=sumTo v k
 | k+1,j,h=>by
   rw[sumTo_succ];have h1:=sumTo_pos hp k;have h2:=hp k;by_cases e:j=k
   ·grind
   ·have:=le_sumTo hp (k:=k) (j:=j) (by omega); omega
structure Low(v:List Int)(n:Nat)(S:Int):Prop where
 len:v.length=n
 pos:∀j,0<=v.getD j 0
 sum:sumTo v n<=S
theorem sumTo_bd{v:List Int}{c:Int}(hp:∀j,v.getD j 0<=c):∀k:Nat,sumTo v k<=c*(k:Int)
 | 0=>by simp[sumTo,fN]
 | k+1=>by
   have:=sumTo_bd hp k
   grind[sumTo_succ,Int.natCast_add,Int.mul_add]
theorem low_all{v:List Int}{n:Nat}(hn:v.length=n)(h:v.all (inB · 0 500)=true):Low v n (500*(n:Int)):=by
 have hj:∀j,0<=v.getD j 0/\v.getD j 0<=500:=fun j=>by
  grind[Nat.lt_or_ge,inB_iff,all_getD,inB,List.getElem?_eq_none]
 exact⟨hn,fun j=>(hj j).1,sumTo_bd (fun j=>(hj j).2) n⟩
theorem Low.bd{v:List Int}{n:Nat}{S:Int}(h:Low v n S)(hS:0<=S)(j:Nat):0<=v.getD j 0/\v.getD j 0<=S:=by
 refine⟨h.pos j,?_⟩;rcases Nat.lt_or_ge j n with hj | hj
 ·exact Int.le_trans (le_sumTo h.pos hj) h.sum
 ·rw[gq,List.getElem?_eq_none (by rw[h.len]; exact hj)]; exact hS
theorem Low.add{v:List Int}{n:Nat}{S:Int}(h:Low v n S){i:Nat}(hi:i<n){x:Int}(hx:0<=x):Low (addAt v i x) n (S+x):=by
 have hi':i<v.length:=by rw[h.len]; exact hi
 refine⟨by rw[addAt_len]; exact h.len,fun j=>?_,?_⟩
 ·rw[addAt_get hi'];have:=h.pos i;have:=h.pos j;omega
 ·rw[sumTo_addAt hi',if_pos hi]; have:=h.sum; omega
def capF(s c:Nat->Int)(i:Nat)(v:List Int):List Int:=addAt v (s i).toNat (c i)
theorem capF_low{s c:Nat->Int}{v:List Int}{n:Nat}{S:Int}(h:Low v n S):∀m,(∀i,i<m->0<=s i/\(s i).toNat<n/\0<=c i/\c i<=500)->Low (fN (capF s c) m v) n (S+500*(m:Int))
 | 0,_=>⟨h.len,h.pos,by have:=h.sum; show sumTo v n<=_; omega⟩
 | m+1,hm=>by
   have ih:=capF_low h m (fun i hi=>hm i (by omega));obtain⟨h1,h2,h3,h4⟩:=hm m (by omega);have:=ih.add h2 h3;refine⟨this.len,this.pos,?_⟩;have:=this.sum;rw[Int.natCast_add,Int.mul_add];refine Int.le_trans this ?_;omega
structure Pull(v:List Int)(n k:Nat)(S:Int):Prop where
 len:v.length=n
 pos:∀j,0<=v.getD j 0
 bd:∀j,v.getD j 0<=S
 sum:sumTo v (n-k)<=S
def plcIn(ni np:Nat)(x:Nat->DInst)(p:DPlace):Prop:=(p.1 = -1/\0<=p.2.1/\p.2.1.toNat<np)∨(0<=p.1/\p.1.toNat<ni/\0<=p.2.1/\p.2.1.toNat < (x p.1.toNat).2.2.length)
theorem instP_kind{ni np:Nat}{x:Nat->DInst}{i:Nat}(hi:i<ni){s:List DPlace}(hs:∀p∈s,plcIn ni np x p):∀k,k<=(x i).2.2.length->∀p∈fN (instP (x i) i) k s,plcIn ni np x p
 | 0,_=>hs
 | k+1,hk=>fun p hp=>by
   have hp:p∈instP (x i) i k (fN (instP (x i) i) k s):=hp;unfold instP at hp;rcases List.mem_append.1 hp with hp | hp
   ·exact instP_kind hi hs k (by omega) p hp
   ·cases List.mem_singleton.1 hp;exact .inr ⟨Int.natCast_nonneg _,by omega,Int.natCast_nonneg _,by grind⟩
theorem placesF_kind{ni np:Nat}{x:Nat->DInst}:∀i,i<=ni->∀p∈fN (placesF x) i [],plcIn ni np x p
 | 0,_=>fun p hp=>by cases hp
 | i+1,hi=>instP_kind (by omega) (placesF_kind i (by omega)) _ (Nat.le_refl _)
theorem portP_kind{ni np:Nat}{x:Nat->DInst}{y:Nat->DPort}{s:List DPlace}(hs:∀p∈s,plcIn ni np x p):∀k,k<=np->∀p∈fN (portP y) k s,plcIn ni np x p
 | 0,_=>hs
 | k+1,hk=>fun p hp=>by
   have hp:p∈portP y k (fN (portP y) k s):=hp;unfold portP at hp;rcases List.mem_append.1 hp with hp | hp
   ·exact portP_kind hs k (by omega) p hp
   ·cases List.mem_singleton.1 hp;exact .inl ⟨rfl,Int.natCast_nonneg _,by grind⟩
theorem places_kind(ni np:Nat)(x:Nat->DInst)(y:Nat->DPort):∀p∈placesN ni np x y,plcIn ni np x p:=portP_kind (placesF_kind ni (Nat.le_refl _)) np (Nat.le_refl _)
theorem sinkL_in(pl:Nat->DPlace)(t:Int):∀m,∀x∈fN (sinkL pl t) m [],∃j:Nat,x=(j:Int)/\j<m/\(pl j).2.2.1=t/\(pl j).2.2.2=false
 | 0,x,h=>by cases h
 | m+1,x,h=>by
   have ih:=sinkL_in pl t m x;have h:x∈sinkL pl t m (fN (sinkL pl t) m []):=h;generalize fN (sinkL pl t) m []=s at ih h;unfold sinkL at h;split at h
   ·rename_i hc;rw[ba,beq_iff_eq,Bool.not_eq_true'] at hc;rcases List.mem_append.1 h with h | h
    ·obtain⟨j,h1,h2,h3⟩:=ih h;exact⟨j,h1,by omega,h3⟩
    ·cases List.mem_singleton.1 h;exact⟨m,rfl,by omega,hc⟩
   ·obtain⟨j,h1,h2,h3⟩:=ih h;exact⟨j,h1,by omega,h3⟩
structure WireFacts(w:DWire)(n:Int):Prop where
 n1:1<=w.1.length
 n8:w.1.length<=8
 res:w.2.1.length=w.1.length
 cap:w.2.2.1.length=w.1.length
 snk:(w.2.2.2.length:Int)=n
 resIn:∀i,i<w.1.length->0<=w.2.1.getD i 0/\w.2.1.getD i 0<=1000
 capOk:w.2.2.1.all (inB · 0 500)=true
 snkIn:∀i,i<w.2.2.2.length->0<=w.2.2.2.getD i 0/\(w.2.2.2.getD i 0).toNat<w.1.length
 par:∀i,0<i->i<w.1.length->0<=w.1.getD i 0/\(w.1.getD i 0).toNat<i
theorem wire_facts{w:DWire}{n:Int}(h:wireB w n=true):WireFacts w n:=by
 unfold wireB at h;simp only[ba,dq,beq_iff_eq] at h;obtain⟨⟨⟨⟨⟨⟨⟨⟨c1,c2⟩,c3⟩,c4⟩,c5⟩,c6⟩,c7⟩,c8⟩,c9⟩:=h;refine⟨c1,c2,c3,c4,c5,fun i hi=>?_,c7,fun i hi=>?_,fun i h0 hi=>?_⟩
 ·exact inB_iff.1 (all_getD (p:=fun x=>inB x 0 1000) c6 (by omega))
 ·have:=inB_iff.1 (all_getD (p:=fun x=>inB x 0 ((w.1.length:Int)-1)) c8 hi);omega
 ·have:=not_any.1 c9 i hi;rw[Bool.or_eq_false_iff] at this;have h2:=this.2;rw[Bool.and_eq_false_iff,decide_eq_false_iff_not,Bool.not_eq_false',inB_iff] at h2;rcases h2 with h | h
  ·omega
  ·omega
end Go.Proofs.Xd
end
section
namespace Go.Proofs.YtggbjmljfdpllaaGreatDoor
open Go Go.Proofs Go.Proofs.Xv Go.Proofs.Xl Go.Proofs.Xd
theorem r112(a b c:Int):u112 a b c=some (inB a b c):=rfl
theorem r74(a b c:Int):u74 a b c=some (inB a b c):=rfl
theorem r149(a b c:Int):u149 a b c=some (!inB a b c):=by
 unfold u149;rw[r112,gP ⟨rfl,trivial⟩,vS]
theorem r146c149(xs:List Int)(b c:Int)(h:xs.length<=9223372036854775807):u146c149 xs (b,c)=some (xs.any fun x=>!inB x b c):=by
 have h1:u175c149 xs (b,c)=_:=idx_some h (fun i=>!inB (xs.getD i 0) b c) (fun g i hi=>idx_el hi h (r149 _ _ _)) (fun g=>aE);have:=has_some h1;rw[any_getD xs 0 (fun x=>!inB x b c)] at this;exact this
theorem r114(xs:List Int)(b c:Int)(h:xs.length<=9223372036854775807):u114 xs b c=some (xs.all (inB · b c)):=by
 unfold u114;rw[r146c149 _ _ _ h,gP ⟨rfl,trivial⟩,vS,all_any]
theorem r225(xs:List Int)(h:xs.length<=9223372036854775807)(h1:1<=xs.length):u225 xs=some (incB xs):=by
 have key:=lp_allK h (fun i=>decide (xs.getD i 0<=xs.getD (i-1) 0)) (some false) (e:=some true) (F:=u225L1 xs) 1 h1 (fun g i hk hi=>by
  have e:((i:Int)-1).toNat=i-1:=by omega
  refine(all_el hi h ⟨oo,oo,oo,trivial⟩).trans ?_;rw[e]; rfl) (fun g=>aE)
 refine key.trans ?_;unfold incB
 grind
theorem r224(xs:List Int)(h:xs.length<=9223372036854775807):u224 xs=some (isAxis xs):=by
 unfold u224;have e:u111 xs=some (xs.length:Int):=rfl;have ed:∀a:Bool,(a=true->1<=xs.length)->(a=true/\True->(u225 xs).isSome=true):=fun a ha hc=>by grind[r225]
 rw[e,vS,r112,vS,r114 xs 0 100000 h,vS,gP ⟨rfl,rfl,fun _=>rfl,ed _ (fun hc=>by
  grind[inB]),trivial⟩]
 congr 1;unfold isAxis;by_cases h1:1<=xs.length
 ·rw[r225 xs h h1,vS]
  grind[inB]
 grind[decide,inB]
theorem r222(xs:List Int)(h:xs.length<=9223372036854775807):u222 xs=some (isAxis xs):=by
 have key:=lp_all (n:=xs.length) h (fun i=>!inB (xs.getD i 0) 0 100000||decide (0<i)&&decide (xs.getD i 0<=xs.getD (i-1) 0)) (some false) (e:=u222J0 xs ()) (F:=u222L1 xs) (fun g i hi=>by
  have e:((i:Int)-1).toNat=i-1:=by omega
  have e2:decide ((0:Int) < (i:Int))=decide (0<i):=by rw[decide_eq_decide]; omega
  refine(all_el hi h ⟨oo,rfl,fun hc=>oo,fun hc=>⟨by have:=hc.1; simp at this; omega,by omega⟩,fun hc=>oo,trivial⟩).trans ?_;rw[e,r74,vS,e2]; rfl) (fun g=>aE)
 refine key.trans ?_;unfold isAxis u222J0;have e3:((List.range xs.length).any fun i=>!inB (xs.getD i 0) 0 100000||decide (0<i)&&decide (xs.getD i 0<=xs.getD (i-1) 0))=!(xs.all (inB · 0 100000)&&incB xs):=by
  rw[<- all_any,<- any_getD xs 0 (fun x=>!inB x 0 100000),incB,<- Bool.not_or,Bool.not_not];rw[Bool.eq_iff_iff,Bool.or_eq_true,List.any_eq_true,List.any_eq_true,List.any_eq_true];constructor
  ·rintro⟨i,h1,h2⟩;rcases Bool.or_eq_true _ _ ▸ h2 with h3 | h3
   ·exact .inl ⟨i,h1,h3⟩
   ·exact .inr ⟨i,h1,h3⟩
  ·rintro(⟨i,h1,h2⟩ | ⟨i,h1,h2⟩)
   ·exact⟨i,h1,by rw[h2]; rfl⟩
   ·exact⟨i,h1,by rw[h2,Bool.or_true]⟩
 rw[e3];cases hA:(xs.all (inB · 0 100000)&&incB xs) with
 | false=>grind
 | true =>
   rw[if_neg (by simp),Bool.and_assoc,hA,Bool.and_true];refine congrArg some ?_
   grind
theorem r215(t:Y217)(hw:wf y217 t):u215 t=some (isTable t):=by
 obtain⟨⟨h1,_⟩,⟨h2,_⟩,h3,_⟩:=hw;unfold u215;have hb:(isAxis t.1&&isAxis t.2.1)=true/\True->in64 ((t.1.length:Int)*(t.2.1.length:Int)):=fun hc=>by
  have hc:=hc.1;rw[ba] at hc;obtain⟨a1,a2⟩:=axis_len hc.1;obtain⟨b1,b2⟩:=axis_len hc.2;have c2:t.1.length*t.2.1.length<=4*4:=Nat.mul_le_mul a2 b2;have e:(t.1.length:Int)*(t.2.1.length:Int)=((t.1.length*t.2.1.length:Nat):Int):=by simp
  rw[e];exact oo
 rw[r224 _ h1,r224 _ h2,r114 _ _ _ h3,vS,vS,vS,gP ⟨rfl,fun _=>rfl,hb,fun _=>rfl,trivial⟩];congr 1
 grind[isTable]
theorem r212(t:Y217)(hw:wf y217 t):u212 t=some (isTable t):=by
 obtain⟨⟨h1,_⟩,⟨h2,_⟩,h3,_⟩:=hw;unfold u212;have hb:(!isAxis t.1||!isAxis t.2.1)=false/\True->in64 ((t.1.length:Int)*(t.2.1.length:Int)):=fun hc=>by
  have hc:=hc.1;simp only[Bool.or_eq_false_iff,Bool.not_eq_false'] at hc;obtain⟨a1,a2⟩:=axis_len hc.1;obtain⟨b1,b2⟩:=axis_len hc.2;have c2:t.1.length*t.2.1.length<=4*4:=Nat.mul_le_mul a2 b2;have e:(t.1.length:Int)*(t.2.1.length:Int)=((t.1.length*t.2.1.length:Nat):Int):=by simp
  rw[e];exact oo
 rw[r222 _ h1,r222 _ h2,vS,vS,gP ⟨rfl,fun _=>rfl,hb,trivial⟩];have key:=lp_all (n:=t.2.2.length) h3 (fun i=>!inB (t.2.2.getD i 0) (-1000000) 1000000) (some false) (e:=some true) (F:=u212L1 t) (fun g i hi=>all_el hi h3 ⟨oo,rfl,trivial⟩) (fun g=>aE);rw[key,any_getD t.2.2 0 (fun x=>!inB x (-1000000) 1000000)];have e:((t.2.2.length:Int) != (t.1.length:Int)*(t.2.1.length:Int))=!decide (t.2.2.length=t.1.length*t.2.1.length):=by
  rw[Bool.eq_iff_iff];simp only[bne_iff_ne,Bool.not_eq_true',decide_eq_false_iff_not,ne_eq];constructor
  ·intro h k; exact h (by exact_mod_cast k)
  ·intro h k; exact h (by exact_mod_cast k)
 grind[isTable,all_any,isAxis,decide,inB]
end Go.Proofs.YtggbjmljfdpllaaGreatDoor
end
section
namespace Go.Proofs.YtggbjmljfdpllaaGreatDoor
open Go Go.Proofs Go.Proofs.Sv Go.Proofs.Xv Go.Proofs.Xl Go.Proofs.Xd
theorem r77(s:ByteArray)(h:s.size<=9223372036854775807):u77 s=some (nmB s):=by
 have key:=lp_all (n:=s.size) h (fun i=>!chB (byteAt s i) i) (some false) (e:=u77J0 s ()) (F:=u77L1 s) (fun g i hi=>by
  refine(all_el2 hi h ⟨oo,fun _=>oo,trivial⟩ ⟨oo,fun _=>oo,trivial⟩).trans ?_;have e2:decide ((0:Int) < (i:Int))=decide (0<i):=by rw[decide_eq_decide]; omega
  have e3:((i:Int)).toNat=i:=rfl;rw[e2,e3];unfold chB lowB digB;rw[Bool.not_or]) (fun g=>aE)
 refine key.trans ?_;unfold nmB u77J0;rw[nmTo_any];cases(List.range s.size).any fun i=>!chB (byteAt s i) i
 ·rfl
 ·rfl
theorem r121(s:ByteArray)(h:s.size<=9223372036854775807):u121 s=some (nmB s):=by
 unfold u121;have t1:u153 s ⟨#[97,98,99,100,101,102,103,104,105,106,107,108,109,110,111,112,113,114,115,116,117,118,119,120,121,122,48,49,50,51,52,53,54,55,56,57]⟩=some ⟨(Lib.trimS s.data.toList low36).toArray⟩:=if_pos ⟨by decide,by decide⟩;have t2:∀c,u154 ⟨#[97,98,99,100,101,102,103,104,105,106,107,108,109,110,111,112,113,114,115,116,117,118,119,120,121,122]⟩ c=some (Lib.indexByte low26 c.toNat.toUInt8):=fun _=>rfl;rw[t1,t2,r112,vS,vS,vS,gP ⟨rfl,fun _=>rfl,fun hc=>⟨by decide,by
  have:=hc.1;rw[ba,inB_iff] at this;omega⟩,fun _=>rfl,trivial⟩,lE]
 refine congrArg some ?_;show(inB (s.size:Int) 1 8&&decide ((⟨(Lib.trimS s.data.toList low36).toArray⟩:ByteArray)=⟨#[]⟩)&&decide (0<=Lib.indexByte low26 (byteAt s (Int.toNat 0)).toNat.toUInt8))=nmB s;by_cases hb:1<=s.size/\s.size<=8
 ·rw[nmB_trim s hb.1 hb.2];have e1:inB (s.size:Int) 1 8=true:=by rw[inB_iff]; omega
  have e2:decide ((⟨(Lib.trimS s.data.toList low36).toArray⟩:ByteArray)=⟨#[]⟩)=(Lib.trimS s.data.toList low36==[]):=by
   rw[Bool.eq_iff_iff,dq,beq_iff_eq];constructor
   ·intro h;injection h with h;have:=congrArg Array.toList h;simpa using this
   ·intro h; rw[h]
  rw[e1,e2,Bool.true_and];rfl
 ·have e1:inB (s.size:Int) 1 8=false:=by rw[<- Bool.not_eq_true,inB_iff]; omega
  have e2:nmB s=false:=by
   rw[<- Bool.not_eq_true];intro hc;simp only[nmB,ba,dq] at hc;omega
  rw[e1,e2]; rfl
theorem r174(xs:List ByteArray)(x:ByteArray)(h:xs.length<=9223372036854775807):u174 xs x=some (xs.any fun y=>decide (x=y)):=by
 have h1:u157 xs x=_:=idx_some h (fun i=>decide (x=xs.getD i (dflt .str))) (fun g i hi=>by
  refine(if_pos (by simpa using hi)).trans ?_;rw[gP ⟨oo,trivial⟩,gP ⟨oo,trivial⟩];rfl) (fun g=>aE)
 have:=has_some h1;rw[any_getD xs (dflt .str) (fun y=>decide (x=y))] at this;exact this
theorem r145(xs:List ByteArray)(hw:wf (.sl .str) xs):u145 xs=some (namesB xs.length fun i=>xs.getD i (dflt .str)):=by
 have h:=hw.1;have key:=lp_all (n:=xs.length) h (fun i=>!nmB (xs.getD i (dflt .str))||dupB (fun i=>xs.getD i (dflt .str)) i) (some false) (e:=some true) (F:=u145L1 xs) (fun g i hi=>by
  have hs:=wf_el (d:=dflt .str) hi hw;have hl:(xs.take i).length<=9223372036854775807:=by rw[List.length_take]; omega
  have e1:=r121 _ hs;have e2:=r174 (xs.take i) (xs.getD i (dflt .str)) hl;rw[take_any xs (dflt .str) i hi] at e2;have e3:((i:Int)).toNat=i:=rfl;refine(if_pos (by simpa using hi)).trans ?_;rw[e3,e1,e2,vS,vS,gP ⟨oo,trivial⟩,gP ⟨rfl,fun _=>⟨by omega,by omega,by omega⟩,fun _=>rfl,trivial⟩,gP ⟨oo,trivial⟩]) (fun g=>aE)
 refine key.trans ?_;unfold namesB;cases(List.range xs.length).any fun i=>!nmB (xs.getD i (dflt .str))||dupB (fun i=>xs.getD i (dflt .str)) i <;> rfl
theorem r100(xs:List ByteArray)(hw:wf (.sl .str) xs):u100 xs=some (namesB xs.length fun i=>xs.getD i (dflt .str)):=by
 have h:=hw.1;have key:=lp_all (n:=xs.length) h (fun i=>!nmB (xs.getD i (dflt .str))||dupB (fun i=>xs.getD i (dflt .str)) i) (some false) (e:=some true) (F:=u100L1 xs) (fun g i hi=>by
  have hs:=wf_el (d:=dflt .str) hi hw;have e1:=r77 _ hs;have e3:((i:Int)).toNat=i:=rfl;have inner:=lp_all (n:=i) (by omega) (fun k=>decide (xs.getD k (dflt .str)=xs.getD i (dflt .str))) (some false) (e:=g ((i:Int)+1)) (F:=u100L3 xs (i:Int) g) (fun g3 k hk=>by
   refine(all_el hk (by omega) ⟨oo,oo,trivial⟩).trans ?_;rfl) (fun g3=>by
   refine aE.trans ?_;unfold u100J2;exact gP ⟨oo,trivial⟩)
  refine(if_pos (by simpa using hi)).trans ?_;rw[e3,e1,vS,gP ⟨oo,rfl,trivial⟩,inner];unfold dupB;cases nmB (xs.getD i (dflt .str)) <;> cases(List.range i).any fun k=>decide (xs.getD k (dflt .str)=xs.getD i (dflt .str)) <;> rfl) (fun g=>aE)
 refine key.trans ?_;unfold namesB;cases(List.range xs.length).any fun i=>!nmB (xs.getD i (dflt .str))||dupB (fun i=>xs.getD i (dflt .str)) i <;> rfl
theorem r216(xs:List Int)(h:xs.length<=9223372036854775807)(h1:1<=xs.length):u216 xs=some (minN xs):=by
 unfold u216;rw[if_neg (by simp; omega)];unfold u216J0;rw[gP ⟨oo,trivial⟩];have key:=lF (n:=xs.length-1) (by omega) (fun i (m:Int)=>(m,((i+1:Nat):Int))) (fun i m=>min m (xs.getD (i+1) 0)) (fun _ _=>True) (J:=fun m=>some m) (F:=u216L2 xs) (fun g i s hi _=>by
  refine(if_pos (by simp; omega)).trans ?_;rw[gP ⟨oo,trivial⟩,gP ⟨oo,trivial⟩];rfl) (fun _ _ _ _=>trivial) (fun g s _=>by
  have e:xs.length-1+1=xs.length:=by omega
  show u216L2 xs g (s,((xs.length-1+1:Nat):Int))=some s;rw[e];exact aE) (xs.getD 0 0) trivial
 exact key
theorem r214(t:Y217)(p:Bool)(hw:wf y217 t):u214 t p=some (!isTable t||p&&decide (minN t.2.2<0)):=by
 unfold u214;have hv:p=true/\(!isTable t)=false/\True->(u216 t.2.2).isSome=true:=fun hc=>by
  have h2:isTable t=true:=by simpa using hc.2.1
  rw[r216 _ hw.2.2.1 (table_len h2).2.2.2.2.2.1]; rfl
 rw[r215 t hw,vS,gP ⟨rfl,hv,trivial⟩,lE];refine congrArg some ?_;cases hT:isTable t with
 | false=>rfl
 | true=>rw[r216 _ hw.2.2.1 (table_len hT).2.2.2.2.2.1,vS]
theorem r204(l:List Y217)(p:Bool)(hw:wf (.sl y217) l):u204 l p=some (areTables l p):=by
 have h:=hw.1;have h1:u223c214 l p=_:=idx_some h (fun i=>!isTable (l.getD i (dflt y217))||p&&decide (minN (l.getD i (dflt y217)).2.2<0)) (fun g i hi=>idx_el hi h (r214 _ _ (wf_el hi hw))) (fun g=>aE);have h2:u213c214 l p=_:=has_some h1;rw[any_getD l (dflt y217) (fun t=>!isTable t||p&&decide (minN t.2.2<0))] at h2;unfold u204;rw[h2,vS,gP ⟨fun _=>rfl,trivial⟩];refine congrArg some ?_;unfold areTables;have e:((l.length:Int)==2)=decide (l.length=2):=by
  rw[Bool.eq_iff_iff,beq_iff_eq,dq]; omega
 rw[e,<- all_any];congr 3;funext t;rw[Bool.not_and,Bool.not_not]
theorem fst_fold(xs:List Int):∀n,(fN (fun i (s:Int×Int)=>(min s.1 (xs.getD (i+1) 0),max s.2 (xs.getD (i+1) 0))) n (xs.getD 0 0,xs.getD 0 0)).1=fN (fun i m=>min m (xs.getD (i+1) 0)) n (xs.getD 0 0)
 | 0=>rfl
 | n+1=>by rw[fN,fN,fst_fold xs n]
theorem r202(t:Y217)(hw:wf y217 t):∃l,u202 t=some (if isTable t=true then((minN t.2.2,l),0) else((0,0),1)):=by
 unfold u202;rw[r212 t hw,vS,gP ⟨rfl,trivial⟩];cases hT:isTable t with
 | false=>exact⟨0,rfl⟩
 | true =>
   have h1:=(table_len hT).2.2.2.2.2.1;have h:=hw.2.2.1;have key:=lF (n:=t.2.2.length-1) (by omega) (fun i (s:Int×Int)=>(((i+1:Nat):Int),s.1,s.2)) (fun i s=>(min s.1 (t.2.2.getD (i+1) 0),max s.2 (t.2.2.getD (i+1) 0))) (fun _ _=>True) (J:=fun s=>some ((s.1,s.2),(0:Int))) (F:=u202L1 t) (fun g i s hi _=>by
    refine(if_pos (by simp; omega)).trans ?_;rw[gP ⟨oo,trivial⟩,gP ⟨oo,trivial⟩,gP ⟨oo,trivial⟩];rfl) (fun _ _ _ _=>trivial) (fun g s _=>by
    have e:t.2.2.length-1+1=t.2.2.length:=by omega
    show u202L1 t g (((t.2.2.length-1+1:Nat):Int),s.1,s.2)=_;rw[e];exact aE) (t.2.2.getD 0 0,t.2.2.getD 0 0) trivial
   rw[if_neg (by simp),gP ⟨oo,oo,trivial⟩];rw[fst_fold] at key;exact⟨_,key⟩
theorem r188(l:List Y217)(p:Bool)(hw:wf (.sl y217) l):u188 l p=some (areTables l p):=by
 unfold u188;have e:((l.length:Int) != 2)=!decide (l.length=2):=by
  rw[Bool.eq_iff_iff]; simp; omega
 rw[e];unfold areTables;by_cases h2:l.length=2
 ·have key:=lp_all (n:=2) (by decide) (fun i=>!isTable (l.getD i (dflt y217))||p&&decide (minN (l.getD i (dflt y217)).2.2<0)) (some false) (e:=some true) (F:=u188L1 p l) (fun g i hi=>by
   obtain⟨m,hm⟩:=r202 (l.getD i (dflt y217)) (wf_el (by omega) hw);have e3:((i:Int)).toNat=i:=rfl;refine(if_pos (by simp; omega)).trans ?_;rw[e3,hm,vS,gP ⟨oo,rfl,trivial⟩,lE,gP ⟨oo,trivial⟩];cases isTable (l.getD i (dflt y217)) <;> rfl) (fun g=>by
   unfold u188L1;exact if_neg (by decide))
  rw[decide_eq_true h2,if_neg (by simp)];refine key.trans ?_;have:=any_getD l (dflt y217) (fun t=>!isTable t||p&&decide (minN t.2.2<0));rw[h2] at this;rw[this,<- all_any,Bool.true_and];have e5:(fun t:Y217=>!(isTable t&&!(p&&decide (minN t.2.2<0))))=fun t=>!isTable t||p&&decide (minN t.2.2<0):=by
   funext t; rw[Bool.not_and,Bool.not_not]
  rw[e5];cases l.any fun t=>!isTable t||p&&decide (minN t.2.2<0) <;> rfl
 ·rw[decide_eq_false h2]; rfl
abbrev pinOf(c:Y134)(i:Nat):Y155:=c.2.2.1.getD i (dflt y155)
abbrev arcOf(c:Y134)(i:Nat):Y190:=c.2.2.2.1.getD i (dflt y190)
theorem r194(c:Y134)(hw:wf y134 c):u194 c=some ((c.2.2.1.length:Int)-1):=by
 have h:=hw.2.2.1.1;have e:u190 c.2.2.1=some (c.2.2.1.length:Int):=rfl;unfold u194;rw[e,vS,gP ⟨rfl,oo,trivial⟩,lE]
theorem r206(c:Y134)(hw:wf y134 c)(x:Int):u206 c x=some (inB x 0 ((c.2.2.1.length:Int)-1-1)):=by
 have h:=hw.2.2.1.1;unfold u206;rw[r194 c hw,vS,r112,vS,gP ⟨rfl,oo,rfl,trivial⟩]
theorem r205(c:Y134)(hw:wf y134 c):u205 c=some (clkI c.2.2.1.length (pinOf c)):=by
 have h:=hw.2.2.1.1;have h1:u217c218 c.2.2.1=_:=idx_some h (fun i=>(pinOf c i).2.2.2) (fun g i hi=>idx_el hi h rfl) (fun g=>aE);unfold u205;rw[h1,vS,gP ⟨rfl,trivial⟩,lE];rfl
theorem r195(c:Y134)(hw:wf y134 c)(k:Int):u195 c k=some (hasB c.2.2.2.1.length (arcOf c) k):=by
 have h:=hw.2.2.2.1.1;have h1:u207c208 c.2.2.2.1 k=_:=idx_some h (fun i=>(arcOf c i).1==k) (fun g i hi=>idx_el hi h rfl) (fun g=>aE);have h2:u192c208 c.2.2.2.1 k=_:=has_some h1;unfold u195;rw[h2,vS,gP ⟨rfl,trivial⟩];rfl
theorem r191(c:Y134)(a:Y190)(hc:wf y134 c)(ha:wf y190 a):u191 c a=some (isArcI c.2.2.1.length (pinOf c) a):=by
 obtain⟨_,_,_,_,hd,hs⟩:=ha;have ek:u203 a.1=some (a.1==4||a.1==5):=rfl;have hg:inB a.2.1 0 ((c.2.2.1.length:Int)-1-1)=true->ix a.2.1 c.2.2.1.length:=fun h=>by
  rw[inB_iff] at h; exact oo
 unfold u191;rw[ek,r204 _ _ hd,r204 _ _ hd,r204 _ _ hs,r205 c hc,r206 c hc,r206 c hc,r194 c hc]
 repeat rw[vS]
 rw[gP ⟨rfl,trivial⟩];unfold isArcI;by_cases k45:a.1=4∨a.1=5
 ·have e1:(a.1==4||a.1==5)=true:=by simpa using k45
  rw[if_pos e1,if_pos k45,gP ⟨fun _=>rfl,fun _=>rfl,fun _=>rfl,trivial⟩,lE]
 ·have e1:(a.1==4||a.1==5)=false:=by
   rw[<- Bool.not_eq_true]; simpa using k45
  rw[e1,if_neg (by simp),if_neg k45,gP ⟨rfl,fun _=>rfl,fun _=>rfl,fun _=>rfl,trivial⟩,lE];by_cases hgo:areTables a.2.2.2.2.1 true=true/\areTables a.2.2.2.2.2 true=true/\a.2.2.1=(c.2.2.1.length:Int)-1/\inB a.2.1 0 ((c.2.2.1.length:Int)-1-1)=true
  ·obtain⟨g1,g2,g3,g4⟩:=hgo;have e3:(areTables a.2.2.2.2.1 true&&areTables a.2.2.2.2.2 true&&a.2.2.1==(c.2.2.1.length:Int)-1&&inB a.2.1 0 ((c.2.2.1.length:Int)-1-1))=true:=by
    rw[g1,g2,g4,g3]; simp
   have e2:(!areTables a.2.2.2.2.1 true||!areTables a.2.2.2.2.2 true||a.2.2.1 != (c.2.2.1.length:Int)-1||!inB a.2.1 0 ((c.2.2.1.length:Int)-1-1))=false:=by
    rw[g1,g2,g4,g3]; simp
   rw[e3,Bool.true_and];refine(if_neg (by rw[e2]; simp)).trans ?_;by_cases k1:a.1=1
   ·rw[if_pos (beq_iff_eq.2 k1),if_pos k1,r112,gP ⟨hg g4,fun _=>rfl,trivial⟩];rfl
   ·rw[if_neg (by grind),if_neg k1];have j:∀b,u191J0 c a b=some (if b=true then(pinOf c a.2.1.toNat).2.2.2&&a.2.2.2.1==0 else false):=fun b=>by
     unfold u191J0;cases b with
     | false=>rfl
     | true=>rw[if_pos rfl,if_pos rfl,gP ⟨hg g4,trivial⟩]
    grind
  grind
theorem r168(c:Y134)(a:Y190)(hc:wf y134 c)(ha:wf y190 a):u168 c a=some (isArcS c.2.2.1.length (pinOf c) a):=by
 obtain⟨_,_,_,_,hd,hs⟩:=ha;have h:=hc.2.2.1.1;unfold u168;rw[gP ⟨oo,trivial⟩,r74,r74]
 repeat rw[vS]
 rw[gP ⟨oo,rfl,fun _=>rfl,trivial⟩];unfold isArcS;by_cases hgo:inB a.2.1 0 ((c.2.2.1.length:Int)-1-1)=true/\inB a.2.2.1 0 ((c.2.2.1.length:Int)-1)=true
 ·obtain⟨g1,g2⟩:=hgo;have b1:=inB_iff.1 g1;have b2:=inB_iff.1 g2;rw[g1,g2,if_neg (by simp),gP ⟨oo,trivial⟩,lE,Bool.true_and,Bool.true_and];by_cases k1:a.1=1
  ·rw[if_pos (beq_iff_eq.2 k1),if_pos k1,r74,r188 _ _ hd,r188 _ _ hs,gP ⟨fun _=>rfl,fun _=>rfl,fun _=>rfl,trivial⟩];rfl
  ·rw[if_neg (by grind),if_neg k1];have j1:∀b,u168J1 (pinOf c a.2.1.toNat) a c b=some (if b=true then(pinOf c a.2.1.toNat).2.2.2&&decide (a.2.2.1 < (c.2.2.1.length:Int)-1)&&!(pinOf c a.2.2.1.toNat).2.2.2&&a.2.2.2.1==0&&areTables a.2.2.2.2.1 false&&(a.2.2.2.2.2.length:Int)==0 else false):=fun b=>by
    unfold u168J1;cases b with
    | false=>rfl
    | true =>
      rw[if_pos rfl,if_pos rfl,r188 _ _ hd,gP ⟨fun _=>oo,fun _=>rfl,trivial⟩];rfl
   have j0:∀b,u168J0 (pinOf c a.2.1.toNat) a c b=some (if b=true then(pinOf c a.2.1.toNat).2.2.2&&a.2.2.1==(c.2.2.1.length:Int)-1&&a.2.2.2.1==0&&areTables a.2.2.2.2.1 true&&areTables a.2.2.2.2.2 true else if a.1=4∨a.1=5 then(pinOf c a.2.1.toNat).2.2.2&&decide (a.2.2.1 < (c.2.2.1.length:Int)-1)&&!(pinOf c a.2.2.1.toNat).2.2.2&&a.2.2.2.1==0&&areTables a.2.2.2.2.1 false&&(a.2.2.2.2.2.length:Int)==0 else false):=fun b=>by
    unfold u168J0;cases b with
    | true =>
      rw[if_pos rfl,if_pos rfl,r188 _ _ hd,r188 _ _ hs,gP ⟨fun _=>rfl,fun _=>rfl,trivial⟩];rfl
    | false =>
      grind
   grind
 grind
theorem wf_pins{c:Y134}(hw:wf y134 c):wf (.sl y155) c.2.2.1:=hw.2.2.1
theorem wf_arcs{c:Y134}(hw:wf y134 c):wf (.sl y190) c.2.2.2.1:=hw.2.2.2.1
theorem names_map{α:Type}(l:List α)(f:α->ByteArray)(d:α)(e:ByteArray):namesB (l.map f).length (fun i=>(l.map f).getD i e)=namesB l.length fun i=>f (l.getD i d):=by
 grind[List.length_map,namesB_congr,hi,getD_map']
theorem wf_map{α:Type}{l:List α}{f:α->ByteArray}(h:l.length<=9223372036854775807)(hf:∀x∈l,(f x).size<=9223372036854775807):wf (.sl .str) (l.map f):=by
 refine⟨by grind,fun x hx=>?_⟩;obtain⟨y,hy,rfl⟩:=List.mem_map.1 hx;exact hf y hy
def gath(f:Nat->ByteArray)(i:Nat)(s:List ByteArray):List ByteArray:=s++[f i]
theorem gath_eq(f:Nat->ByteArray):∀n,fN (gath f) n []=(List.range n).map f
 | 0=>rfl
 | n+1=>by
   rw[fN,gath_eq f n,List.range_succ,List.map_append]; rfl
theorem gath_row{α:Type}(l:List α)(d:α)(f:α->ByteArray):fN (gath fun i=>f (l.getD i d)) l.length []=l.map f:=by
 rw[gath_eq,range_map]
theorem app_ok{n i b:Nat}(h:i<n)(hn:n<=1048576)(hb:b<=4096):i+1<=9223372036854775807/\(i+1)*b<=140737488355328:=by
 have:(i+1)*b<=1048576*4096:=Nat.mul_le_mul (by omega) hb;exact oo
theorem r171(l:List Y155)(hw:wf (.sl y155) l)(hm:l.length<=1048576):u171 l=some (pinsOk l.length fun i=>l.getD i (dflt y155)):=by
 have h:=hw.1;have key:=lp_foldE (n:=l.length) h (fun i (s:List ByteArray)=>(s,(i:Int))) (gath fun i=>(l.getD i (dflt y155)).1) (fun i=>!pinB l.length (l.getD i (dflt y155)) i) (some false) (fun i s=>s.length=i) (J:=u171J0 l) (F:=u171L1 l) (fun g i s hi hI=>by
  refine(if_pos (by simpa using hi)).trans ?_;have e3:((i:Int)).toNat=i:=rfl;have hs:(s++[(l.getD i (dflt y155)).1]).length<=9223372036854775807:=by rw[List.length_append]; show s.length+1<=_; omega
  have ha:=app_ok (b:=16) hi hm (by decide);have j2:∀s',u171J2 (i:Int) g s'=g (s',((i+1:Nat):Int)):=fun s'=>gP ⟨oo,trivial⟩;rw[e3,gP ⟨oo,trivial⟩,lE,gP ⟨⟨by show s.length+1<=_; omega,by show(s.length+1)*16<=_; omega⟩,trivial⟩,gP ⟨oo,trivial⟩,j2,r112,gP ⟨fun _=>rfl,trivial⟩,vS];unfold pinB gath;dsimp only;by_cases hl:i+1=l.length
  ·have e1:((i:Int)==(l.length:Int)-1)=true:=by rw[beq_iff_eq]; omega
   rw[if_pos e1,if_pos hl];generalize l.getD i (dflt y155)=q;have n1:(q.2.1 != 2)=!(q.2.1==2):=rfl;have n2:(q.2.2.1 != 0)=!(q.2.2.1==0):=rfl
   grind[inB]
  grind) (fun i s hi hI _=>by grind[gath,List.length_append]) (fun g s _=>aE) [] rfl
 refine key.trans ?_;rw[gath_row];have hn:wf (.sl .str) (l.map fun q:Y155=>q.1):=wf_map h fun x hx=>(hw.2 x hx).1;have e5:u190 l=some (l.length:Int):=rfl;have e7:∀v:List ByteArray,wf (.sl .str) v->u171J0 l v=some (inB (l.length:Int) 2 5&&namesB v.length fun i=>v.getD i (dflt .str)):=fun v hv=>by
  rw[u171J0];rw[e5,r145 _ hv]
  repeat rw[vS]
  rw[r112,vS,gP ⟨rfl,rfl,fun _=>rfl,trivial⟩]
 rw[e7 _ hn,names_map l (fun q:Y155=>q.1) (dflt y155)];unfold pinsOk;have e6:inB (l.length:Int) 2 5=(decide (2<=l.length)&&decide (l.length<=5)):=by
  rw[Bool.eq_iff_iff,inB_iff]; simp; omega
 rw[e6];cases(List.range l.length).any fun i=>!pinB l.length (l.getD i (dflt y155)) i
 ·simp
 ·simp
theorem r167(c:Y134)(hw:wf y134 c):u167 c=some (if pinsOk c.2.2.1.length (pinOf c)=true then(clkN c.2.2.1.length (pinOf c),true) else(0,false)):=by
 have hp:=wf_pins hw;have h:=hp.1;unfold u167;by_cases hr:2<=c.2.2.1.length/\c.2.2.1.length<=5
 ·have e0:(decide ((c.2.2.1.length:Int)<2)||decide (5 < (c.2.2.1.length:Int)))=false:=by
   rw[<- Bool.not_eq_true]; simp; omega
  rw[e0,if_neg (by simp)];have key:=lp_foldE (n:=c.2.2.1.length) h (fun i (s:Int)=>(s,(i:Int))) (fun i s=>if(pinOf c i).2.2.2=true then s+1 else s) (fun i=>(!nmB (pinOf c i).1||dupB (fun i=>(pinOf c i).1) i)||!pinB c.2.2.1.length (pinOf c i) i) (some ((0:Int),false)) (fun i s=>0<=s/\s<=i) (J:=u167J0) (F:=u167L1 c) (fun g i s hi hI=>by
   refine(if_pos (by simpa using hi)).trans ?_;have e3:((i:Int)).toNat=i:=rfl;have hs:(pinOf c i).1.size<=9223372036854775807:=(wf_el (d:=dflt y155) hi hp).1;rw[e3,gP ⟨oo,trivial⟩,lE];have inner:=lp_all (n:=i) (by omega) (fun k=>decide ((pinOf c k).1=(pinOf c i).1)) (some ((0:Int),false)) (e:=u167J3 (i:Int) s (pinOf c i) c g ()) (F:=u167L4 c (pinOf c i) (i:Int) s g) (fun g3 k hk=>all_el hk (by omega) ⟨oo,trivial⟩) (fun g3=>aE);refine inner.trans ?_;have j3:u167J3 (i:Int) s (pinOf c i) c g ()=if(!nmB (pinOf c i).1||!pinB c.2.2.1.length (pinOf c i) i)=true then some ((0:Int),false) else g (if(pinOf c i).2.2.2=true then s+1 else s,((i+1:Nat):Int)):=by
    have j2:∀s',u167J2 (i:Int) g s'=g (s',((i+1:Nat):Int)):=fun s'=>gP ⟨oo,trivial⟩;show gd _ (if(!vl (u77 (pinOf c i).1)||!vl (u74 (pinOf c i).2.2.1 0 500))=true then _ else gd _ (if _=true then _ else if _=true then gd _ _ else _))=_;rw[r77 _ hs,r74,vS,vS,gP ⟨rfl,fun _=>rfl,trivial⟩,gP ⟨oo,fun _=>oo,trivial⟩,gP ⟨oo,trivial⟩,j2,j2];generalize pinOf c i=q;have hx:((i:Int)==(c.2.2.1.length:Int)-1)=decide (i+1=c.2.2.1.length):=by
     rw[Bool.eq_iff_iff,beq_iff_eq,dq]; omega
    have hy:decide ((i:Int) < (c.2.2.1.length:Int)-1)=!decide (i+1=c.2.2.1.length):=by
     rw[Bool.eq_iff_iff]; simp; omega
    rw[hx,hy];have hz:pinB c.2.2.1.length q i=(inB q.2.2.1 0 500&&(if decide (i+1=c.2.2.1.length)=true then q.2.1==2&&q.2.2.1==0&&!q.2.2.2 else q.2.1==1)):=by
     unfold pinB;by_cases hq:i+1=c.2.2.1.length
     ·grind
     ·grind
    rw[hz];have n1:(q.2.1 != 2)=!(q.2.1==2):=rfl;have n2:(q.2.2.1 != 0)=!(q.2.2.1==0):=rfl;have n3:(q.2.1 != 1)=!(q.2.1==1):=rfl;rw[n1,n2,n3];cases nmB q.1 <;> cases inB q.2.2.1 0 500 <;> cases decide (i+1=c.2.2.1.length) <;> cases q.2.1==2 <;> cases q.2.2.1==0 <;> cases q.2.1==1 <;> cases q.2.2.2 <;> rfl
   rw[j3];have hd:dupB (fun i=>(pinOf c i).1) i=(List.range i).any fun k=>decide ((pinOf c k).1=(pinOf c i).1):=rfl
   grind) (fun i s hi hI _=>by
   omega) (fun g s _=>aE) 0 oo
  refine key.trans ?_;rw[any_or];unfold pinsOk namesB;rw[decide_eq_true hr.1,decide_eq_true hr.2];cases(List.range c.2.2.1.length).any (fun i=>!nmB (pinOf c i).1||dupB (fun i=>(pinOf c i).1) i) <;> cases(List.range c.2.2.1.length).any (fun i=>!pinB c.2.2.1.length (pinOf c i) i) <;> rfl
 ·have e0:(decide ((c.2.2.1.length:Int)<2)||decide (5 < (c.2.2.1.length:Int)))=true:=by
   simp; omega
  have e1:¬pinsOk c.2.2.1.length (pinOf c)=true:=fun hc=>by
   obtain⟨h1,h2,_⟩:=pins_last hc;exact hr ⟨h1,h2⟩
  grind
theorem r172(c:Y134)(hw:wf y134 c):u172 c=some (arcsB (isArcI c.2.2.1.length (pinOf c)) c.2.2.2.1.length (arcOf c)):=by
 have ha:=wf_arcs hw;have h:=ha.1;have hA:∀(xs:List Y190) (o:Y190),xs.length<=9223372036854775807->u192c193 xs o=some (xs.any fun x=>x.1==o.1&&x.2.1==o.2.1&&x.2.2.1==o.2.2.1):=fun xs o hx=>by
  have h1:u207c193 xs o=_:=idx_some hx (fun i=>(xs.getD i (dflt y190)).1==o.1&&(xs.getD i (dflt y190)).2.1==o.2.1&&(xs.getD i (dflt y190)).2.2.1==o.2.2.1) (fun g i hi=>idx_el hi hx rfl) (fun g=>aE);have h2:u192c193 xs o=_:=has_some h1;rw[any_getD xs (dflt y190) (fun x=>x.1==o.1&&x.2.1==o.2.1&&x.2.2.1==o.2.2.1)] at h2;exact h2
 have key:=lp_all (n:=c.2.2.2.1.length) h (fun i=>!isArcI c.2.2.1.length (pinOf c) (arcOf c i)||dupA (arcOf c) i) (some false) (e:=u172J0 c ()) (F:=u172L1 c) (fun g i hi=>by
  have e3:((i:Int)).toNat=i:=rfl;have hl:(c.2.2.2.1.take i).length<=9223372036854775807:=by rw[List.length_take]; omega
  have e1:=r191 c (arcOf c i) hw (wf_el hi ha);have e2:=hA (c.2.2.2.1.take i) (arcOf c i) hl;rw[take_anyG c.2.2.2.1 (dflt y190) _ i (by omega)] at e2;refine(if_pos (by grind)).trans ?_;rw[e3,gP ⟨oo,trivial⟩,lE,e1,e2,vS,vS,gP ⟨rfl,fun _=>⟨by omega,by omega,by omega⟩,fun _=>rfl,trivial⟩,gP ⟨oo,trivial⟩];rfl) (fun g=>aE)
 refine key.trans ?_;unfold arcsB u172J0;have e:decide ((c.2.2.2.1.length:Int)<=8)=decide (c.2.2.2.1.length<=8):=by rw[decide_eq_decide]; omega
 rw[e];cases(List.range c.2.2.2.1.length).any fun i=>!isArcI c.2.2.1.length (pinOf c) (arcOf c i)||dupA (arcOf c) i
 ·simp
 ·simp
theorem toNat_pred{n:Nat}(h:1<=n):((n:Int)-1).toNat=n-1:=by omega
theorem r173(c:Y134)(hw:wf y134 c)(h2:2<=c.2.2.1.length)(h5:c.2.2.1.length<=5):u173 c=some (kindB c.2.1 c.2.2.1.length (pinOf c) c.2.2.2.1.length (arcOf c) c.2.2.2.2.1):=by
 have hp:=wf_pins hw;have h:=hp.1;have ht:=hw.2.2.2.2.1.1;have key:=lF (n:=c.2.2.1.length) h (fun i (s:Int)=>(s,(i:Int))) (fun i s=>if(pinOf c i).2.2.2=true then s+1 else s) (fun i s=>0<=s/\s<=i) (J:=u173J0 c) (F:=u173L1 c) (fun g i s hi hI=>by
  have j2:∀s',u173J2 (i:Int) g s'=g (s',((i+1:Nat):Int)):=fun s'=>gP ⟨oo,trivial⟩;have e3:((i:Int)).toNat=i:=rfl;refine(if_pos (by grind)).trans ?_;rw[e3,gP ⟨oo,trivial⟩,lE,gP ⟨oo,trivial⟩,j2,j2]
  grind) (fun i s hi hI=>by
  omega) (fun g s _=>aE) 0 oo
 refine key.trans ?_;show u173J0 c (clkN c.2.2.1.length (pinOf c))=_;have hk:∀k0:Int,u173J0 c k0=some (if c.2.1=1 then k0==0&&(c.2.2.2.2.1.length:Int)==1*2 ^ (c.2.2.1.length-1)&&c.2.2.2.2.1.all (inB · 0 1)
  else if c.2.1=2 then k0==1&&(c.2.2.2.2.1.length:Int)==0&&!hasB c.2.2.2.1.length (arcOf c) 1&&!(hasB c.2.2.2.1.length (arcOf c) 2==hasB c.2.2.2.1.length (arcOf c) 3)
  else if c.2.1=3 then k0==1&&(c.2.2.2.2.1.length:Int)==0&&hasB c.2.2.2.1.length (arcOf c) 1&&hasB c.2.2.2.1.length (arcOf c) 2&&!hasB c.2.2.2.1.length (arcOf c) 3
  else false):=fun k0=>by
  rw[u173J0,r194 c hw,r114 _ _ _ ht,r195 c hw,r195 c hw,r195 c hw]
  repeat rw[vS]
  rw[toNat_pred (by omega)];by_cases k1:c.2.1=1
  ·rw[if_pos (beq_iff_eq.2 k1),if_pos k1,gP ⟨fun _=>rfl,fun _=>⟨by omega,pow_in h5⟩,fun _=>rfl,trivial⟩,lE,toNat_pred (by omega)]
  ·rw[if_neg (by grind),if_neg k1];by_cases k2:c.2.1=2
   ·rw[if_pos (beq_iff_eq.2 k2),if_pos k2,gP ⟨fun _=>rfl,fun _=>rfl,fun _=>rfl,trivial⟩]
   ·rw[if_neg (by grind),if_neg k2];by_cases k3:c.2.1=3
    ·rw[if_pos (beq_iff_eq.2 k3),if_pos k3,gP ⟨fun _=>rfl,fun _=>rfl,fun _=>rfl,trivial⟩]
    grind
 exact hk (clkN c.2.2.1.length (pinOf c))
abbrev cellOk(q:Nat->(Nat->DPin)->DArc->Bool)(c:Y134):Bool:=cellB q c.1 c.2.1 c.2.2.1.length (pinOf c) c.2.2.2.1.length (arcOf c) c.2.2.2.2.1 c.2.2.2.2.2.1 c.2.2.2.2.2.2
theorem r144(c:Y134)(hw:wf y134 c)(hm:c.2.2.1.length<=1048576):u144 c=some (cellOk isArcS c):=by
 have hp:=wf_pins hw;show _=some (cellB isArcS _ _ _ _ _ _ _ _ _);rw[<- cell_eq];unfold u144 cellB;rw[r121 c.1 hw.1,r171 _ hp hm,r172 c hw,r112,r112]
 repeat rw[vS]
 cases hpo:pinsOk c.2.2.1.length (pinOf c) with
 | false =>
   rw[gP ⟨rfl,fun _=>rfl,fun hc=>by simp at hc,fun hc=>by simp at hc,fun hc=>by simp at hc,fun hc=>by simp at hc,trivial⟩];simp
 | true =>
   obtain⟨h2,h5,_⟩:=pins_last hpo;rw[r173 c hw h2 h5,vS,gP ⟨rfl,fun _=>rfl,fun _=>rfl,fun _=>rfl,fun _=>rfl,fun _=>rfl,trivial⟩]
theorem r169(c:Y134)(hw:wf y134 c)(h8:c.2.2.2.1.length<=8)(hk:∀i,i<c.2.2.2.1.length->1<=(arcOf c i).1/\(arcOf c i).1<=5):u169 c=some (fN (kindsF (arcOf c)) c.2.2.2.1.length (List.replicate 6 0)):=by
 have h:=(wf_arcs hw).1;unfold u169;rw[gP ⟨⟨by omega,rfl,by decide,by omega⟩,trivial⟩];have key:=lF (n:=c.2.2.2.1.length) h (fun i (v:List Int)=>((i:Int),v)) (kindsF (arcOf c)) (fun i v=>i<=c.2.2.2.1.length/\v=fN (kindsF (arcOf c)) i (List.replicate 6 0)) (J:=fun v=>some v) (F:=u169L1 c) (fun g i v hi hI=>by
  obtain⟨h1,h2⟩:=kinds_fold (arcOf c) i (fun j hj=>hk j (by omega));obtain⟨k1,k2⟩:=hk i hi;have hlen:v.length=6:=by rw[hI.2]; exact h1
  have hcnt:=h2 (arcOf c i).1.toNat (by omega);have hle:=cntK_le (arcOf c) ((arcOf c i).1.toNat:Int) i;rw[<- hI.2] at hcnt;have e3:((i:Int)).toNat=i:=rfl;refine(if_pos (by grind)).trans ?_;have hin:in64 (v.getD (arcOf c i).1.toNat 0+1):=by rw[hcnt]; exact oo
  have hix:ix (arcOf c i).1 v.length:=oo;have hlt:(arcOf c i).1.toNat<v.length:=by omega
  rw[e3,gP ⟨oo,hix,hlt,hin,hix,hlt,trivial⟩,lE,gP ⟨oo,trivial⟩];rfl) (fun i v hi hI=>⟨by omega,by rw[hI.2]; rfl⟩) (fun g s _=>aE) (List.replicate 6 0) ⟨by omega,rfl⟩
 grind
theorem r141(c:Y134)(hw:wf y134 c):u141 c=some (cellOk isArcS c):=by
 have ha:=wf_arcs hw;have h:=ha.1;show _=some (cellB isArcS _ _ _ _ _ _ _ _ _);unfold u141 cellB;rw[r167 c hw,r77 c.1 hw.1,r74,r74]
 repeat rw[vS]
 rw[gP ⟨rfl,trivial⟩,lE,gP ⟨fun _=>rfl,fun _=>rfl,fun _=>rfl,trivial⟩];cases hpo:pinsOk c.2.2.1.length (pinOf c) with
 | false =>
   grind
 | true =>
   obtain⟨h2,h5,_⟩:=pins_last hpo;have e9:(if true=true then(clkN c.2.2.1.length (pinOf c),true) else((0:Int),false))=(clkN c.2.2.1.length (pinOf c),true):=rfl;rw[e9];by_cases hgo:nmB c.1=true/\c.2.2.2.1.length<=8/\inB c.2.2.2.2.2.1 0 100000=true/\inB c.2.2.2.2.2.2 0 100000=true
   ·obtain⟨g1,g2,g3,g4⟩:=hgo;have e0:decide (8 < (c.2.2.2.1.length:Int))=false:=decide_eq_false (by omega);rw[g1,e0,g3,g4];refine(if_neg (by simp)).trans ?_;have key:=lp_all (n:=c.2.2.2.1.length) h (fun i=>!isArcS c.2.2.1.length (pinOf c) (arcOf c i)||dupA (arcOf c) i) (some false) (e:=u141J0 c (clkN c.2.2.1.length (pinOf c),true) ()) (F:=u141L1 c (clkN c.2.2.1.length (pinOf c),true)) (fun g i hi=>by
     have e3:((i:Int)).toNat=i:=rfl;have e1:=r168 c (arcOf c i) hw (wf_el hi ha);have inner:=lp_all (n:=i) (by omega) (fun k=>(arcOf c k).1==(arcOf c i).1&&(arcOf c k).2.1==(arcOf c i).2.1&&(arcOf c k).2.2.1==(arcOf c i).2.2.1) (some false) (e:=g ((i:Int)+1)) (F:=u141L3 c (arcOf c i) (i:Int) g) (fun g3 k hk=>all_el hk (by omega) ⟨oo,fun _=>oo,fun _=>oo,trivial⟩) (fun g3=>by
      refine aE.trans ?_;exact gP ⟨oo,trivial⟩)
     refine(if_pos (by grind)).trans ?_;rw[e3,gP ⟨oo,trivial⟩,lE,e1,vS,gP ⟨rfl,trivial⟩,inner];unfold dupA
     grind) (fun g=>aE)
    refine key.trans ?_;unfold arcsB;rw[decide_eq_true g2];cases hany:(List.range c.2.2.2.1.length).any fun i=>!isArcS c.2.2.1.length (pinOf c) (arcOf c i)||dupA (arcOf c) i with
    | true=>simp
    | false =>
      rw[if_neg (by simp)];have hall:∀i,i<c.2.2.2.1.length->isArcS c.2.2.1.length (pinOf c) (arcOf c i)=true:=fun i hi=>by
       grind
      have hkin:=r169 c hw g2 (fun i hi=>arcS_kind (hall i hi));obtain⟨n6,ncnt⟩:=kinds_fold (arcOf c) c.2.2.2.1.length (fun i hi=>arcS_kind (hall i hi));have c1:=ncnt 1 (by omega);have c2:=ncnt 2 (by omega);have c3:=ncnt 3 (by omega);rw[u141J0,hkin,vS,gP ⟨rfl,trivial⟩,lE];generalize fN (kindsF (arcOf c)) c.2.2.2.1.length (List.replicate 6 0)=v at *
      have q1:((v.getD 1 0)==(0:Int))=!hasB c.2.2.2.1.length (arcOf c) 1:=by
       rw[c1,cntK_has];have:=(cntK_le (arcOf c) 1 c.2.2.2.1.length).1;rw[Bool.eq_iff_iff]; simp; omega
      have q1':decide (0<v.getD 1 0)=hasB c.2.2.2.1.length (arcOf c) 1:=by rw[c1,cntK_has]; rfl
      have q2:decide (0<v.getD 2 0)=hasB c.2.2.2.1.length (arcOf c) 2:=by rw[c2,cntK_has]; rfl
      have q3:decide (0<v.getD 3 0)=hasB c.2.2.2.1.length (arcOf c) 3:=by rw[c3,cntK_has]; rfl
      have q3':((v.getD 3 0)==(0:Int))=!hasB c.2.2.2.1.length (arcOf c) 3:=by
       rw[c3,cntK_has];have:=(cntK_le (arcOf c) 3 c.2.2.2.1.length).1;rw[Bool.eq_iff_iff]; simp; omega
      have i1:ix (1:Int) v.length:=oo;have i2:ix (2:Int) v.length:=oo;have i3:ix (3:Int) v.length:=oo;have n1:Int.toNat (1:Int)<v.length:=by rw[n6]; decide
      have n2:Int.toNat (2:Int)<v.length:=by rw[n6]; decide
      have n3:Int.toNat (3:Int)<v.length:=by rw[n6]; decide
      unfold kindB;by_cases k1:c.2.1=1
      ·rw[if_pos (beq_iff_eq.2 k1),if_pos k1];have ht:=hw.2.2.2.2.1.1;have key2:=lp_all (n:=c.2.2.2.2.1.length) ht (fun i=>!inB (c.2.2.2.2.1.getD i 0) 0 1) (some false) (e:=u141J5 (clkN c.2.2.1.length (pinOf c),true) c ()) (F:=u141L6 c (clkN c.2.2.1.length (pinOf c),true)) (fun g i hi=>all_el hi ht ⟨oo,rfl,trivial⟩) (fun g=>aE);refine key2.trans ?_;rw[any_getD c.2.2.2.2.1 0 (fun x=>!inB x 0 1),<- all_any];have e5:u141J5 (clkN c.2.2.1.length (pinOf c),true) c ()=some (clkN c.2.2.1.length (pinOf c)==0&&(c.2.2.2.2.1.length:Int)==1*2 ^ (c.2.2.1.length-1)):=by
        rw[u141J5,toNat_pred (by omega),gP ⟨fun _=>oo,fun _=>oo,fun _=>⟨by omega,pow_in h5⟩,trivial⟩]
       rw[e5];cases c.2.2.2.2.1.any fun x=>!inB x 0 1 <;> simp
      ·rw[if_neg (by simpa using k1),if_neg k1];by_cases k2:c.2.1=2
       ·rw[if_pos (beq_iff_eq.2 k2),if_pos k2,gP ⟨fun _=>i1,fun _=>n1,fun _=>i2,fun _=>n2,fun _=>i3,fun _=>n3,trivial⟩];have w1:Int.toNat (1:Int)=1:=rfl;have w2:Int.toNat (2:Int)=2:=rfl;have w3:Int.toNat (3:Int)=3:=rfl;rw[w1,w2,w3,q1,q2,q3];cases clkN c.2.2.1.length (pinOf c)==1 <;> cases(c.2.2.2.2.1.length:Int)==0 <;> cases hasB c.2.2.2.1.length (arcOf c) 1 <;> cases hasB c.2.2.2.1.length (arcOf c) 2 <;> cases hasB c.2.2.2.1.length (arcOf c) 3 <;> rfl
       ·rw[if_neg (by simpa using k2),if_neg k2];by_cases k3:c.2.1=3
        ·rw[if_pos (beq_iff_eq.2 k3),if_pos k3,gP ⟨fun _=>i1,fun _=>n1,fun _=>i2,fun _=>n2,fun _=>i3,fun _=>n3,trivial⟩];have w1:Int.toNat (1:Int)=1:=rfl;have w2:Int.toNat (2:Int)=2:=rfl;have w3:Int.toNat (3:Int)=3:=rfl;rw[w1,w2,w3,q1',q2,q3'];cases clkN c.2.2.1.length (pinOf c)==1 <;> cases(c.2.2.2.2.1.length:Int)==0 <;> cases hasB c.2.2.2.1.length (arcOf c) 1 <;> cases hasB c.2.2.2.1.length (arcOf c) 2 <;> cases hasB c.2.2.2.1.length (arcOf c) 3 <;> rfl
        ·rw[if_neg (by grind),if_neg k3];rfl
   grind[nmB,decide,inB,trans,arcsB]
abbrev celOf(l:List Y134)(i:Nat):Y134:=l.getD i (dflt y134)
abbrev libOk(l:List Y134):Bool:=libB l.length (fun i=>cellOk isArcS (celOf l i)) (fun i=>(celOf l i).1)
theorem cell_name{c:Y134}(h:cellOk isArcS c=true):nmB c.1=true:=by
 grind[cellB,isArcS]
theorem r105(l:List Y134)(hw:wf (.sl y134) l)(hm:cnt (.sl y134) l<=1048576):u105 l=some (libOk l):=by
 have h:=hw.1;have hl:=cnt_len hm;have key:=lp_foldE (n:=l.length) h (fun i (s:List ByteArray)=>(s,(i:Int))) (gath fun i=>(celOf l i).1) (fun i=>!cellOk isArcS (celOf l i)) (some false) (fun i s=>s.length=i) (J:=u105J0 l) (F:=u105L1 l) (fun g i s hi hI=>by
  have e3:((i:Int)).toNat=i:=rfl;have hc:cnt y134 (celOf l i)<=1048576:=cnt_el hi hm;have hp:(celOf l i).2.2.1.length<=1048576:=cnt_len (cF (cS (cS hc)));have e1:=r144 (celOf l i) (wf_el hi hw) hp;have ha:=app_ok (b:=16) hi hl (by decide);refine(if_pos (by grind)).trans ?_;rw[e3,gP ⟨oo,trivial⟩,lE,e1,vS,gP ⟨rfl,trivial⟩,gP ⟨⟨by grind,by grind⟩,trivial⟩,gP ⟨oo,trivial⟩];rfl) (fun i s hi hI _=>by grind[gath,List.length_append]) (fun g s _=>aE) [] rfl
 refine key.trans ?_;rw[gath_row l (dflt y134) (fun c:Y134=>c.1)];have hn:wf (.sl .str) (l.map fun c:Y134=>c.1):=wf_map h fun x hx=>(hw.2 x hx).1;have e7:∀v:List ByteArray,wf (.sl .str) v->u105J0 l v=some (decide (l.length<=8)&&namesB v.length fun i=>v.getD i (dflt .str)):=fun v hv=>by
  have e8:decide ((l.length:Int)<=8)=decide (l.length<=8):=by rw[decide_eq_decide]; omega
  rw[u105J0,r145 _ hv,vS,gP ⟨fun _=>rfl,trivial⟩,e8]
 rw[e7 _ hn,names_map l (fun c:Y134=>c.1) (dflt y134)];show _=some (libB _ _ _);rw[<- lib_eq (fun i _ hc=>cell_name hc)];split <;> rfl
theorem r98(l:List Y134)(hw:wf (.sl y134) l):u98 l=some (libOk l):=by
 have h:=hw.1;have key:=lp_all (n:=l.length) h (fun i=>!cellOk isArcS (celOf l i)||dupB (fun i=>(celOf l i).1) i) (some false) (e:=u98J0 l ()) (F:=u98L1 l) (fun g i hi=>by
  have e3:((i:Int)).toNat=i:=rfl;have e1:=r141 (celOf l i) (wf_el hi hw);have inner:=lp_all (n:=i) (by omega) (fun k=>decide ((celOf l k).1=(celOf l i).1)) (some false) (e:=g ((i:Int)+1)) (F:=u98L3 l (i:Int) g) (fun g3 k hk=>all_el hk (by omega) ⟨oo,oo,trivial⟩) (fun g3=>by
   refine aE.trans ?_;exact gP ⟨oo,trivial⟩)
  refine(if_pos (by grind)).trans ?_;rw[e3,e1,vS,gP ⟨oo,rfl,trivial⟩,inner];unfold dupB
  grind) (fun g=>aE)
 refine key.trans ?_;show _=some (libB _ _ _);unfold libB u98J0;have e8:decide ((l.length:Int)<=8)=decide (l.length<=8):=by rw[decide_eq_decide]; omega
 rw[e8];cases(List.range l.length).any (fun i=>!cellOk isArcS (celOf l i)||dupB (fun i=>(celOf l i).1) i) <;> rfl
abbrev insOf(d:Y48)(i:Nat):Y94:=d.1.getD i (dflt y94)
abbrev prtOf(d:Y48)(i:Nat):Y138:=d.2.2.getD i (dflt y138)
abbrev pinsAt(l:List Y134)(x:Int):Nat:=(l.getD x.toNat (dflt y134)).2.2.1.length
abbrev designOk(l:List Y134)(d:Y48):Bool:=designB (libOk l) l.length (pinsAt l) d.1.length d.2.2.length d.2.1.length (insOf d) (prtOf d) (fun i=>d.2.1.getD i (dflt .str))
theorem r108(d:Y48)(hw:wf y48 d)(x:Int):u108 d x=some (inB x 0 ((d.2.1.length:Int)-1)):=by
 have h:=hw.2.1.1;have e:u57 d.2.1=some (d.2.1.length:Int):=rfl;unfold u108;rw[e]
 repeat rw[vS]
 rw[r112,vS,gP ⟨rfl,oo,rfl,trivial⟩]
theorem r107(d:Y48)(l:List Y134)(x:Y94)(hd:wf y48 d)(hl:wf (.sl y134) l)(hx:wf y94 x):u107 d l x=some (instB l.length (pinsAt l) d.2.1.length x):=by
 have h:=hl.1;have hn:=hx.2.2.1;have e:u118 l=some (l.length:Int):=rfl;have e1:∀y,u147 y d=some (!inB y 0 ((d.2.1.length:Int)-1)):=fun y=>by
  unfold u147;rw[r108 d hd,gP ⟨rfl,trivial⟩,vS]
 have h1:u175c147 x.2.2 d=_:=idx_some hn (fun i=>!inB (x.2.2.getD i 0) 0 ((d.2.1.length:Int)-1)) (fun g i hi=>idx_el hi hn (e1 _)) (fun g=>aE);have h2:u146c147 x.2.2 d=_:=has_some h1;rw[any_getD x.2.2 0 (fun y=>!inB y 0 ((d.2.1.length:Int)-1))] at h2;unfold u107;rw[e,h2]
 repeat rw[vS]
 rw[r112,vS,gP ⟨rfl,oo,rfl,fun hc=>by
  have:=inB_iff.1 hc.1;exact oo,fun _=>rfl,trivial⟩,all_any]
 rfl
theorem r106(d:Y48)(hw:wf y48 d)(hm:cnt y48 d<=1048576):u106 d=some (decide (d.1.length<=14)&&decide (d.2.1.length<=30)&&decide (d.2.2.length<=8)&&namesB d.1.length (fun i=>(insOf d i).1)&&namesB d.2.1.length (fun i=>d.2.1.getD i (dflt .str))&&namesB d.2.2.length (fun i=>(prtOf d i).1)):=by
 have hi0:=hw.1.1;have hp0:=hw.2.2.1;have hil:d.1.length<=1048576:=cnt_len (cF hm);have hpl:d.2.2.length<=1048576:=cnt_len (cS (cS hm));have key:=lF (n:=d.1.length) hi0 (fun i (s:List ByteArray)=>(s,(i:Int))) (gath fun i=>(insOf d i).1) (fun i s=>s.length=i) (J:=u106J0 d) (F:=u106L1 d) (fun g i s hi hI=>by
  have e3:((i:Int)).toNat=i:=rfl;have ha:=app_ok (b:=16) hi hil (by decide);refine(if_pos (by grind)).trans ?_;rw[e3,gP ⟨oo,trivial⟩,lE,gP ⟨⟨by grind,by grind⟩,trivial⟩,gP ⟨oo,trivial⟩];rfl) (fun i s hi hI=>by grind[gath,List.length_append]) (fun g s _=>aE) [] rfl
 refine key.trans ?_;rw[gath_row d.1 (dflt y94) (fun c:Y94=>c.1)];have hn1:wf (.sl .str) (d.1.map fun c:Y94=>c.1):=wf_map hi0 fun x hx=>(hw.1.2 x hx).1;have hn2:wf (.sl .str) (d.2.2.map fun c:Y138=>c.1):=wf_map hp0 fun x hx=>(hw.2.2.2 x hx).1;have e7:∀v:List ByteArray,wf (.sl .str) v->v.length=d.1.length->u106J0 d v=some (decide (d.1.length<=14)&&decide (d.2.1.length<=30)&&decide (d.2.2.length<=8)&&(namesB v.length fun i=>v.getD i (dflt .str))&&namesB d.2.1.length (fun i=>d.2.1.getD i (dflt .str))&&namesB d.2.2.length (fun i=>(prtOf d i).1)):=fun v hv hvl=>by
  rw[u106J0];have key2:=lF (n:=d.2.2.length) hp0 (fun i (s:List ByteArray)=>(s,(i:Int))) (gath fun i=>(prtOf d i).1) (fun i s=>s.length=i) (J:=u106J2 v d) (F:=u106L3 d v) (fun g i s hi hI=>by
   have e3:((i:Int)).toNat=i:=rfl;have ha:=app_ok (b:=16) hi hpl (by decide);refine(if_pos (by grind)).trans ?_;rw[e3,gP ⟨oo,trivial⟩,lE,gP ⟨⟨by grind,by grind⟩,trivial⟩,gP ⟨oo,trivial⟩];rfl) (fun i s hi hI=>by grind[gath,List.length_append]) (fun g s _=>aE) [] rfl
  refine key2.trans ?_;rw[gath_row d.2.2 (dflt y138) (fun c:Y138=>c.1)];have e9:∀z:List ByteArray,wf (.sl .str) z->z.length=d.2.2.length->u106J2 v d z=some (decide (d.1.length<=14)&&decide (d.2.1.length<=30)&&decide (d.2.2.length<=8)&&(namesB v.length fun i=>v.getD i (dflt .str))&&namesB d.2.1.length (fun i=>d.2.1.getD i (dflt .str))&&namesB z.length (fun i=>z.getD i (dflt .str))):=fun z hz hzl=>by
   have a1:decide ((v.length:Int)<=14)=decide (d.1.length<=14):=by rw[decide_eq_decide]; omega
   have a2:decide ((d.2.1.length:Int)<=30)=decide (d.2.1.length<=30):=by rw[decide_eq_decide]; omega
   have a3:decide ((z.length:Int)<=8)=decide (d.2.2.length<=8):=by rw[decide_eq_decide]; omega
   rw[u106J2,r145 _ hv,r145 _ hz,r145 _ hw.2.1,vS,vS,vS,gP ⟨fun _=>rfl,fun _=>rfl,fun _=>rfl,trivial⟩,a1,a2,a3]
  rw[e9 _ hn2 (List.length_map _),names_map d.2.2 (fun c:Y138=>c.1) (dflt y138)]
 rw[e7 _ hn1 (List.length_map _),names_map d.1 (fun c:Y94=>c.1) (dflt y94)]
theorem lib_pins{l:List Y134}(h:libOk l=true){x:Int}(hx:inB x 0 ((l.length:Int)-1)=true):2<=pinsAt l x/\pinsAt l x<=5:=by
 have h:libB _ _ _=true:=h;unfold libB at h;rw[ba] at h;rw[inB_iff] at hx;have:=not_any.1 h.1 x.toNat (by omega);rw[Bool.or_eq_false_iff,Bool.not_eq_false'] at this;have hc:cellB isArcS _ _ _ _ _ _ _ _ _=true:=this.1;unfold cellB at hc;simp only[ba] at hc;have:=pins_last hc.1.1.1.1.2
 grind
theorem inst_nets{nc nn:Nat}{pins:Int->Nat}{x:DInst}(h:instB nc pins nn x=true)(hp:∀y,inB y 0 ((nc:Int)-1)=true->2<=pins y):1<=x.2.2.length/\inB (x.2.2.getD (x.2.2.length-1) 0) 0 ((nn:Int)-1)=true:=by
 grind[instB]
theorem r99(l:List Y134)(d:Y48)(hl:wf (.sl y134) l)(hd:wf y48 d):u99 l d=some (!((List.range d.1.length).any fun i=>!instB l.length (pinsAt l) d.2.1.length (insOf d i))&&!((List.range d.2.2.length).any fun i=>!portB d.2.1.length (prtOf d i))):=by
 have h:=hl.1;have hi0:=hd.1.1;have hp0:=hd.2.2.1;have hn0:=hd.2.1.1;have kj:u99J0 d ()=some (!((List.range d.2.2.length).any fun i=>!portB d.2.1.length (prtOf d i))):=by
  have key:=lp_all (n:=d.2.2.length) hp0 (fun i=>!portB d.2.1.length (prtOf d i)) (some false) (e:=some true) (F:=u99L5 d) (fun g i hi=>by
   have e3:((i:Int)).toNat=i:=rfl;refine(if_pos (by grind)).trans ?_;rw[e3,r74,r74,vS,vS,gP ⟨oo,rfl,fun _=>oo,fun _=>oo,fun _=>rfl,trivial⟩,gP ⟨oo,trivial⟩]
   grind[portB,Bool.not_and]) (fun g=>aE)
  refine key.trans ?_;cases(List.range d.2.2.length).any fun i=>!portB d.2.1.length (prtOf d i) <;> rfl
 have key:=lp_all (n:=d.1.length) hi0 (fun i=>!instB l.length (pinsAt l) d.2.1.length (insOf d i)) (some false) (e:=u99J0 d ()) (F:=u99L1 d l) (fun g i hi=>by
  have e3:((i:Int)).toNat=i:=rfl;have hx:=wf_el (d:=dflt y94) hi hd.1;have hn:=hx.2.2.1;refine(if_pos (by grind)).trans ?_;rw[e3,gP ⟨oo,trivial⟩,lE,r74,vS,gP ⟨oo,rfl,fun hc=>by
   have:=hc.1;rw[Bool.not_eq_false'] at this;have:=inB_iff.1 this;exact oo,trivial⟩]
  have inner:=lp_all (n:=(insOf d i).2.2.length) hn (fun k=>!inB ((insOf d i).2.2.getD k 0) 0 ((d.2.1.length:Int)-1)) (some false) (e:=g ((i:Int)+1)) (F:=u99L3 (insOf d i) d (i:Int) g) (fun g3 k hk=>by
   refine(all_el hk hn ⟨oo,oo,rfl,trivial⟩).trans ?_;rfl) (fun g3=>by
   refine aE.trans ?_;exact gP ⟨oo,trivial⟩)
  rw[any_getD (insOf d i).2.2 0 (fun y=>!inB y 0 ((d.2.1.length:Int)-1))] at inner;rw[inner];unfold instB
  grind[all_any]) (fun g=>aE)
 refine key.trans ?_
 grind
theorem ones_any(v:List Int):(!v.any fun x=>x != 1)=v.all (·==1):=all_any v (fun x=>x==1)
theorem rep_ok{n b:Nat}(h:n<=1048576)(hb:b<=4096):(0<=(n:Int)/\(n:Int)=(n:Int)/\(n:Int).toNat*b<=281474976710656/\(n:Int)<=9223372036854775807)/\True:=by
 have hm:n*b<=1048576*4096:=Nat.mul_le_mul h hb;exact⟨⟨by omega,rfl,by rw[Int.toNat_natCast]; omega,by omega⟩,trivial⟩
theorem inc_ok{v:List Int}{n b:Nat}{x:Int}(h:lowAt v n b)(hb:b<=2097152)(hx:inB x 0 ((n:Int)-1)=true):ix x v.length/\x.toNat<v.length/\in64 (v.getD x.toNat 0+1)/\ix x v.length/\x.toNat<v.length/\True:=by
 obtain⟨h1,h2⟩:=lowAt_ix h hx;have:=h.2 x.toNat;exact⟨h1,h2,oo,h1,h2,trivial⟩
theorem pred_ok{n:Nat}(h1:1<=n)(h:n<=9223372036854775807):in64 ((n:Int)-1)/\ix ((n:Int)-1) n:=⟨oo,oo⟩
theorem r84(l:List Y134)(d:Y48)(hl:wf (.sl y134) l)(hd:wf y48 d)(ml:cnt (.sl y134) l<=1048576)(md:cnt y48 d<=1048576):u84 l d=some (designOk l d):=by
 have hi0:=hd.1.1;have hp0:=hd.2.2.1;have mi:d.1.length<=1048576:=cnt_len (cF md);have mn:d.2.1.length<=1048576:=cnt_len (cF (cS md));have mp:d.2.2.length<=1048576:=cnt_len (cS (cS md));show _=some (designB _ _ _ _ _ _ _ _ _);unfold u84 designB;rw[r105 l hl ml,r106 d hd md,vS,vS,gP ⟨rfl,fun _=>rfl,trivial⟩];cases hlo:libOk l with
 | false=>grind
 | true =>
   rw[Bool.true_and];cases hno:(decide (d.1.length<=14)&&decide (d.2.1.length<=30)&&decide (d.2.2.length<=8)&&namesB d.1.length (fun i=>(insOf d i).1)&&namesB d.2.1.length (fun i=>d.2.1.getD i (dflt .str))&&namesB d.2.2.length (fun i=>(prtOf d i).1)) with
   | false=>grind
   | true =>
     refine(if_neg (by simp)).trans ?_;rw[gP (rep_ok mn (by decide)),Int.toNat_natCast];have hpin:∀y,inB y 0 ((l.length:Int)-1)=true->2<=pinsAt l y:=fun y hy=>(lib_pins hlo hy).1;have key:=lp_foldE (n:=d.1.length) hi0 (fun i (v:List Int)=>((i:Int),v)) (instF (insOf d)) (fun i=>!instB l.length (pinsAt l) d.2.1.length (insOf d i)) (some false) (fun i v=>i<=d.1.length/\lowAt v d.2.1.length i) (J:=u84J0 d) (F:=u84L1 d l) (fun g i v hi hI=>by
      have e3:((i:Int)).toNat=i:=rfl;have hx:=wf_el (d:=dflt y94) hi hd.1;refine(if_pos (by grind)).trans ?_;rw[e3,gP ⟨oo,trivial⟩,lE,r107 d l _ hd hl hx,vS,gP ⟨rfl,trivial⟩];cases hin:instB l.length (pinsAt l) d.2.1.length (insOf d i) with
      | false=>rfl
      | true =>
        obtain⟨g1,g2⟩:=inst_nets hin hpin;have hlen:(insOf d i).2.2.length<=9223372036854775807:=hx.2.2.1;refine(if_neg (by simp)).trans ?_;rw[toNat_pred g1,gP ⟨(pred_ok g1 hlen).1,(pred_ok g1 hlen).2,inc_ok hI.2 (by omega) g2⟩,lE,gP ⟨oo,trivial⟩];rfl) (fun i v hi hI _=>⟨by omega,lowAt_inc hI.2 _⟩) (fun g v _=>aE) (List.replicate d.2.1.length 0) ⟨by omega,lowAt_rep _ _⟩
     refine key.trans ?_;cases hia:(List.range d.1.length).any fun i=>!instB l.length (pinsAt l) d.2.1.length (insOf d i) with
     | true=>simp
     | false =>
       refine(if_neg (by simp)).trans ?_;have hlow:=instF_low (insOf d) d.2.1.length d.1.length;unfold driveN;generalize fN (instF (insOf d)) d.1.length (List.replicate d.2.1.length 0)=v0 at *
       rw[u84J0];have key2:=lp_foldE (n:=d.2.2.length) hp0 (fun i (v:List Int)=>((i:Int),v)) (portF (prtOf d)) (fun i=>!portB d.2.1.length (prtOf d i)) (some false) (fun i v=>i<=d.2.2.length/\lowAt v d.2.1.length (d.1.length+i)) (J:=u84J2) (F:=u84L3 d) (fun g i v hi hI=>by
        have e3:((i:Int)).toNat=i:=rfl;have j4:∀v',u84J4 (i:Int) g v'=g (((i+1:Nat):Int),v'):=fun v'=>gP ⟨oo,trivial⟩;refine(if_pos (by grind)).trans ?_;rw[e3,gP ⟨oo,trivial⟩,lE,r108 d hd,vS,gP ⟨fun _=>rfl,trivial⟩,j4,j4];have e5:((prtOf d i).2.1 != 1&&(prtOf d i).2.1 != 2||!inB (prtOf d i).2.2 0 ((d.2.1.length:Int)-1))=!portB d.2.1.length (prtOf d i):=by
         unfold portB;rw[Bool.not_and];congr 1;rw[Bool.eq_iff_iff];simp only[ba,bne_iff_ne,Bool.not_eq_true',<- Bool.not_eq_true,inB_iff];omega
        show(if((prtOf d i).2.1 != 1&&(prtOf d i).2.1 != 2||!inB (prtOf d i).2.2 0 ((d.2.1.length:Int)-1))=true then some false else _)=_;rw[e5];cases hpo:portB d.2.1.length (prtOf d i) with
        | false=>rfl
        | true =>
          have hnet:inB (prtOf d i).2.2 0 ((d.2.1.length:Int)-1)=true:=by
           unfold portB at hpo;rw[ba] at hpo;exact hpo.2
          refine(if_neg (by simp)).trans ?_;show _=g (_,portF (prtOf d) i v);unfold portF;by_cases k1:(prtOf d i).2.1=1
          ·rw[if_pos (beq_iff_eq.2 k1),if_pos k1];exact gP (inc_ok hI.2 (by omega) hnet)
          grind) (fun i v hi hI _=>⟨by omega,by
          grind[portF,lowAt_inc,lowAt_up]⟩) (fun g v _=>aE) v0 ⟨by omega,hlow⟩
       refine key2.trans ?_;cases hpa:(List.range d.2.2.length).any fun i=>!portB d.2.1.length (prtOf d i) with
       | true=>simp
       | false =>
         refine(if_neg (by simp)).trans ?_;have hv:∀v:List Int,v.length<=9223372036854775807->u84J2 v=some (v.all (·==1)):=fun v hv=>by
          have h1:u148c110 v=_:=idx_some hv (fun i=>v.getD i 0 != 1) (fun g i hi=>idx_el hi hv rfl) (fun g=>aE);have h2:u109c110 v=_:=has_some h1;rw[any_getD v 0 (fun x=>x != 1)] at h2;rw[u84J2,h2,vS,gP ⟨rfl,trivial⟩,ones_any]
         have hlen:(fN (portF (prtOf d)) d.2.2.length v0).length<=9223372036854775807:=by
          have:∀n,(fN (portF (prtOf d)) n v0).length=v0.length:=by
           intro n
           induction n with
           | zero=>rfl
           | succ n ih =>
             grind[fN,portF,incAt,List.length_set]
          rw[this,hlow.1]; omega
         grind
theorem r71(l:List Y134)(d:Y48)(hl:wf (.sl y134) l)(hd:wf y48 d)(md:cnt y48 d<=1048576):u71 l d=some (designOk l d):=by
 have hi0:=hd.1.1;have hp0:=hd.2.2.1;have mi:d.1.length<=1048576:=cnt_len (cF md);have mn:d.2.1.length<=1048576:=cnt_len (cF (cS md));have mp:d.2.2.length<=1048576:=cnt_len (cS (cS md));show _=some (designB _ _ _ _ _ _ _ _ _);unfold u71;rw[r98 l hl,r99 l d hl hd,vS,vS,gP ⟨rfl,fun _=>rfl,trivial⟩];by_cases hgo:libOk l=true/\d.1.length<=14/\d.2.1.length<=30/\d.2.2.length<=8/\((List.range d.1.length).any fun i=>!instB l.length (pinsAt l) d.2.1.length (insOf d i))=false/\((List.range d.2.2.length).any fun i=>!portB d.2.1.length (prtOf d i))=false
 ·obtain⟨hlo,h14,h30,h8,hia,hpa⟩:=hgo;have a1:decide (14 < (d.1.length:Int))=false:=decide_eq_false (by omega);have a2:decide (30 < (d.2.1.length:Int))=false:=decide_eq_false (by omega);have a3:decide (8 < (d.2.2.length:Int))=false:=decide_eq_false (by omega);rw[hlo,a1,a2,a3,hia,hpa];refine(if_neg (by simp)).trans ?_;have hpin:∀y,inB y 0 ((l.length:Int)-1)=true->2<=pinsAt l y:=fun y hy=>(lib_pins hlo hy).1;have hall:∀i,i<d.1.length->instB l.length (pinsAt l) d.2.1.length (insOf d i)=true:=fun i hi=>by
   grind
  have hpall:∀i,i<d.2.2.length->portB d.2.1.length (prtOf d i)=true:=fun i hi=>by
   grind
  have k10:∀v:List Int,v.length<=9223372036854775807->u71J6 v=some (v.all (·==1)):=fun v hv=>by
   rw[u71J6];have key:=lp_all (n:=v.length) hv (fun i=>v.getD i 0 != 1) (some false) (e:=some true) (F:=u71L10 v) (fun g i hi=>by
    refine(all_el hi hv ⟨oo,by omega,trivial⟩).trans ?_;rfl) (fun g=>aE)
   refine key.trans ?_;rw[any_getD v 0 (fun x=>x != 1),<- ones_any]
   grind
  have k7:∀v:List Int,lowAt v d.2.1.length d.1.length->u71J4 d v=some ((fN (portF (prtOf d)) d.2.2.length v).all (·==1)):=fun v0 hlow=>by
   rw[u71J4];have key:=lF (n:=d.2.2.length) hp0 (fun i (v:List Int)=>((i:Int),v)) (portF (prtOf d)) (fun i v=>i<=d.2.2.length/\lowAt v d.2.1.length (d.1.length+i)) (J:=u71J6) (F:=u71L7 d) (fun g i v hi hI=>by
    have e3:((i:Int)).toNat=i:=rfl;have j8:∀v',u71J8 (i:Int) g v'=g (((i+1:Nat):Int),v'):=fun v'=>gP ⟨oo,trivial⟩;have hnet:inB (prtOf d i).2.2 0 ((d.2.1.length:Int)-1)=true:=by
     have:=hpall i hi;unfold portB at this;rw[ba] at this;exact this.2
    refine(if_pos (by grind)).trans ?_;rw[e3,gP ⟨oo,trivial⟩,j8];show(if((prtOf d i).2.1==1)=true then _ else _)=g (_,portF (prtOf d) i v);unfold portF;by_cases k1:(prtOf d i).2.1=1
    ·rw[if_pos (beq_iff_eq.2 k1),if_pos k1];refine(gP ⟨oo,inc_ok hI.2 (by omega) hnet⟩).trans ?_;rw[lE];exact j8 _
    grind) (fun i v hi hI=>⟨by omega,by
    grind[portF,lowAt_inc,lowAt_up]⟩) (fun g v _=>aE) v0 ⟨by omega,hlow⟩
   refine key.trans (k10 _ ?_);have:∀n,(fN (portF (prtOf d)) n v0).length=v0.length:=by
    intro n
    induction n with
    | zero=>rfl
    | succ n ih =>
      grind[fN,portF,incAt,List.length_set]
   rw[this,hlow.1]; omega
  have k5:lp (u71L5 d) ((0:Int),List.replicate d.2.1.length 0)=some ((driveN d.1.length d.2.2.length d.2.1.length (insOf d) (prtOf d)).all (·==1)):=by
   have key:=lF (n:=d.1.length) hi0 (fun i (v:List Int)=>((i:Int),v)) (instF (insOf d)) (fun i v=>i<=d.1.length/\lowAt v d.2.1.length i) (J:=u71J4 d) (F:=u71L5 d) (fun g i v hi hI=>by
    have e3:((i:Int)).toNat=i:=rfl;have hx:=wf_el (d:=dflt y94) hi hd.1;obtain⟨g1,g2⟩:=inst_nets (hall i hi) hpin;have hlen:(insOf d i).2.2.length<=9223372036854775807:=hx.2.2.1;refine(if_pos (by grind)).trans ?_;rw[e3,gP ⟨oo,trivial⟩,lE,toNat_pred g1,gP ⟨(pred_ok g1 hlen).1,(pred_ok g1 hlen).2,inc_ok hI.2 (by omega) g2⟩,lE,gP ⟨oo,trivial⟩];rfl) (fun i v hi hI=>⟨by omega,lowAt_inc hI.2 _⟩) (fun g v _=>aE) (List.replicate d.2.1.length 0) ⟨by omega,lowAt_rep _ _⟩
   refine key.trans (k7 _ (instF_low _ _ _))
  have hn1:wf (.sl .str) (d.1.map fun c:Y94=>c.1):=wf_map hi0 fun x hx=>(hd.1.2 x hx).1;have hn2:wf (.sl .str) (d.2.2.map fun c:Y138=>c.1):=wf_map hp0 fun x hx=>(hd.2.2.2 x hx).1;have k2:∀v z:List ByteArray,wf (.sl .str) v->wf (.sl .str) z->u71J2 d v z=some ((namesB v.length fun i=>v.getD i (dflt .str))&&(namesB z.length fun i=>z.getD i (dflt .str))&&namesB d.2.1.length (fun i=>d.2.1.getD i (dflt .str))&&(driveN d.1.length d.2.2.length d.2.1.length (insOf d) (prtOf d)).all (·==1)):=fun v z hv hz=>by
   rw[u71J2,r100 _ hv,r100 _ hz,r100 _ hd.2.1,vS,vS,vS,gP ⟨rfl,fun _=>rfl,fun _=>rfl,trivial⟩,gP (rep_ok mn (by decide)),Int.toNat_natCast,k5];cases(namesB v.length fun i=>v.getD i (dflt .str)) <;> cases(namesB z.length fun i=>z.getD i (dflt .str)) <;> cases namesB d.2.1.length (fun i=>d.2.1.getD i (dflt .str)) <;> rfl
  have k3:∀v:List ByteArray,wf (.sl .str) v->u71J0 d v=some ((namesB v.length fun i=>v.getD i (dflt .str))&&namesB d.2.2.length (fun i=>(prtOf d i).1)&&namesB d.2.1.length (fun i=>d.2.1.getD i (dflt .str))&&(driveN d.1.length d.2.2.length d.2.1.length (insOf d) (prtOf d)).all (·==1)):=fun v hv=>by
   rw[u71J0];have key:=lF (n:=d.2.2.length) hp0 (fun i (s:List ByteArray)=>((i:Int),s)) (gath fun i=>(prtOf d i).1) (fun i s=>s.length=i) (J:=u71J2 d v) (F:=u71L3 d v) (fun g i s hi hI=>by
    have e3:((i:Int)).toNat=i:=rfl;refine(if_pos (by grind)).trans ?_;rw[e3,gP ⟨oo,⟨by grind,by grind⟩,trivial⟩,gP ⟨oo,trivial⟩];rfl) (fun i s hi hI=>by grind[gath,List.length_append]) (fun g s _=>aE) [] rfl
   refine key.trans ?_;rw[gath_row d.2.2 (dflt y138) (fun c:Y138=>c.1),k2 _ _ hv hn2,names_map d.2.2 (fun c:Y138=>c.1) (dflt y138)]
  have key:=lF (n:=d.1.length) hi0 (fun i (s:List ByteArray)=>((i:Int),s)) (gath fun i=>(insOf d i).1) (fun i s=>s.length=i) (J:=u71J0 d) (F:=u71L1 d) (fun g i s hi hI=>by
   have e3:((i:Int)).toNat=i:=rfl;refine(if_pos (by grind)).trans ?_;rw[e3,gP ⟨oo,⟨by grind,by grind⟩,trivial⟩,gP ⟨oo,trivial⟩];rfl) (fun i s hi hI=>by grind[gath,List.length_append]) (fun g s _=>aE) [] rfl
  refine key.trans ?_;rw[gath_row d.1 (dflt y94) (fun c:Y94=>c.1),k3 _ hn1,names_map d.1 (fun c:Y94=>c.1) (dflt y94)];unfold designB;rw[hia,hpa,decide_eq_true h14,decide_eq_true h30,decide_eq_true h8];cases namesB d.1.length (fun i=>(insOf d i).1) <;> cases namesB d.2.1.length (fun i=>d.2.1.getD i (dflt .str)) <;> cases namesB d.2.2.length (fun i=>(prtOf d i).1) <;> rfl
 ·have e0:(!libOk l||decide (14 < (d.1.length:Int))||decide (30 < (d.2.1.length:Int))||decide (8 < (d.2.2.length:Int))||!(!((List.range d.1.length).any fun i=>!instB l.length (pinsAt l) d.2.1.length (insOf d i))&&!((List.range d.2.2.length).any fun i=>!portB d.2.1.length (prtOf d i))))=true:=by
   rw[<- Bool.not_eq_false];intro hc;simp only[Bool.or_eq_false_iff,Bool.not_eq_false',decide_eq_false_iff_not,ba,Bool.not_eq_true'] at hc;exact hgo ⟨hc.1.1.1.1,by omega,by omega,by omega,hc.2.1,hc.2.2⟩
  refine(if_pos e0).trans ?_;refine congrArg some ?_
  symm
  rw[<- Bool.not_eq_true];intro hc;unfold designB at hc;simp only[ba,dq,Bool.not_eq_true'] at hc;obtain⟨⟨⟨⟨⟨⟨⟨⟨⟨c1,c2⟩,c3⟩,c4⟩,_⟩,_⟩,_⟩,c5⟩,c6⟩,_⟩:=hc;exact hgo ⟨c1,c2,c3,c4,c5,c6⟩
abbrev treeBad(w:Y53)(i:Nat):Bool:=(i==0&&(w.1.getD i 0 != -1||w.2.1.getD 0 0 != 0))||(decide (0<i)&&!inB (w.1.getD i 0) 0 ((i:Int)-1))
theorem r113(w:Y53)(hw:wf y53 w)(hl:w.2.1.length=w.1.length):u113 w=some (!(List.range w.1.length).any (treeBad w)):=by
 have h:=hw.1.1;have key:=lp_all (n:=w.1.length) h (treeBad w) (some false) (e:=some true) (F:=u113L1 w) (fun g i hi=>by
  have e3:((i:Int)).toNat=i:=rfl;have e0:((i:Int)==0)=(i==0):=by rw[Bool.eq_iff_iff,beq_iff_eq,beq_iff_eq]; omega
  have e2:decide ((0:Int) < (i:Int))=decide (0<i):=by rw[decide_eq_decide]; omega
  refine(if_pos (by simpa using hi)).trans ?_;rw[e3,e0,e2,r112,vS,gP ⟨oo,trivial⟩,gP ⟨fun _=>oo,fun _=>oo,fun _=>rfl,trivial⟩,gP ⟨oo,trivial⟩];rfl) (fun g=>aE)
 refine key.trans ?_
 grind
theorem r85(w:Y53)(n:Int)(hw:wf y53 w):u85 w n=some (wireB w n):=by
 obtain⟨⟨h1,_⟩,⟨h2,_⟩,⟨h3,_⟩,h4,_⟩:=id hw;have e:∀xs:List Int,u111 xs=some (xs.length:Int):=fun _=>rfl;unfold u85;rw[e,e,e,e]
 repeat rw[vS]
 rw[gP ⟨rfl,trivial⟩,lE,r112,r114 _ _ _ h2,r114 _ _ _ h3,r114 _ _ _ h4]
 repeat rw[vS]
 by_cases hgo:(inB (w.1.length:Int) 1 8&&(w.2.1.length:Int)==(w.1.length:Int)&&(w.2.2.1.length:Int)==(w.1.length:Int))=true
 ·have hg:=hgo;simp only[ba,beq_iff_eq,inB_iff] at hg;rw[r113 w hw (by omega),vS,gP ⟨rfl,fun _=>rfl,fun _=>rfl,fun _=>rfl,fun _=>rfl,fun _=>rfl,fun _=>rfl,fun _=>oo,fun _=>rfl,trivial⟩,lE];refine congrArg some ?_;rw[hgo];unfold wireB;rw[decide_eq_true (show 1<=w.1.length by omega),decide_eq_true (show w.1.length<=8 by omega),decide_eq_true (show w.2.1.length=w.1.length by omega),decide_eq_true (show w.2.2.1.length=w.1.length by omega)];cases(List.range w.1.length).any (treeBad w) <;> cases w.2.1.all (inB · 0 1000) <;> cases w.2.2.1.all (inB · 0 500) <;> cases(w.2.2.2.length:Int)==n <;> cases w.2.2.2.all (inB · 0 ((w.1.length:Int)-1)) <;> rfl
 ·have hg:(inB (w.1.length:Int) 1 8&&(w.2.1.length:Int)==(w.1.length:Int)&&(w.2.2.1.length:Int)==(w.1.length:Int))=false:=by simpa using hgo
  rw[hg,gP ⟨rfl,fun _=>rfl,fun _=>rfl,fun hc=>by simp at hc,fun hc=>by simp at hc,fun hc=>by simp at hc,fun hc=>by simp at hc,fun hc=>by simp at hc,fun hc=>by simp at hc,trivial⟩,lE];refine congrArg some ?_;rw[hg];simp only[Bool.false_and]
  symm
  rw[<- Bool.not_eq_true];intro hc;unfold wireB at hc;simp only[ba,dq] at hc;refine hgo ?_;simp only[ba,beq_iff_eq,inB_iff];omega
theorem r72(w:Y53)(n:Int)(hw:wf y53 w):u72 w n=some (wireB w n):=by
 obtain⟨⟨h1,_⟩,⟨h2,_⟩,⟨h3,_⟩,h4,_⟩:=id hw;unfold u72;by_cases hgo:1<=w.1.length/\w.1.length<=8/\w.2.1.length=w.1.length/\w.2.2.1.length=w.1.length/\(w.2.2.2.length:Int)=n
 ·obtain⟨g1,g2,g3,g4,g5⟩:=hgo;have e0:(decide ((w.1.length:Int)<1)||decide (8 < (w.1.length:Int))||(w.2.1.length:Int) != (w.1.length:Int)||(w.2.2.1.length:Int) != (w.1.length:Int)||(w.2.2.2.length:Int) != n)=false:=by
   rw[<- Bool.not_eq_true]; simp; omega
  refine(if_neg (by rw[e0]; simp)).trans ?_;have k3:=lp_all (n:=w.2.2.2.length) h4 (fun i=>!inB (w.2.2.2.getD i 0) 0 ((w.1.length:Int)-1)) (some false) (e:=some true) (F:=u72L3 w) (fun g i hi=>all_el hi h4 ⟨oo,oo,rfl,trivial⟩) (fun g=>aE);rw[any_getD w.2.2.2 0 (fun x=>!inB x 0 ((w.1.length:Int)-1))] at k3;have k1:=lp_all (n:=w.1.length) h1 (fun i=>(!inB (w.2.2.1.getD i 0) 0 500||!inB (w.2.1.getD i 0) 0 1000)||treeBad w i) (some false) (e:=u72J0 w ()) (F:=u72L1 w) (fun g i hi=>by
   have e3:((i:Int)).toNat=i:=rfl;have e0:((i:Int)==0)=(i==0):=by rw[Bool.eq_iff_iff,beq_iff_eq,beq_iff_eq]; omega
   have e2:decide ((0:Int) < (i:Int))=decide (0<i):=by rw[decide_eq_decide]; omega
   refine(if_pos (by simpa using hi)).trans ?_;rw[e3,e0,e2,r74,r74,r74]
   repeat rw[vS]
   rw[gP ⟨oo,rfl,fun _=>oo,fun _=>rfl,trivial⟩,gP ⟨fun _=>oo,fun _=>oo,fun _=>oo,fun _=>oo,fun _=>rfl,trivial⟩,gP ⟨oo,trivial⟩]
   grind) (fun g=>aE)
  refine k1.trans ?_;rw[any_or,any_or];have a1:=any_getD w.2.2.1 0 (fun x=>!inB x 0 500);have a2:=any_getD w.2.1 0 (fun x=>!inB x 0 1000);rw[g4] at a1;rw[g3] at a2;rw[a1,a2];unfold u72J0;rw[k3];unfold wireB;rw[decide_eq_true g1,decide_eq_true g2,decide_eq_true g3,decide_eq_true g4,beq_iff_eq.2 g5,<- all_any,<- all_any,<- all_any];cases(List.range w.1.length).any (treeBad w) <;> cases w.2.1.any (fun x=>!inB x 0 1000) <;> cases w.2.2.1.any (fun x=>!inB x 0 500) <;> cases w.2.2.2.any (fun x=>!inB x 0 ((w.1.length:Int)-1)) <;> rfl
 grind[decide,trans,wireB]
theorem r56(d:Y48)(hd:wf y48 d)(h14:d.1.length<=14)(h8:d.2.2.length<=8)(h5:∀i,i<d.1.length->1<=(insOf d i).2.2.length/\(insOf d i).2.2.length<=5):u56 d=some (placesN d.1.length d.2.2.length (insOf d) (prtOf d)):=by
 have hi0:=hd.1.1;have hp0:=hd.2.2.1;unfold u56;have k5:∀s:List Y104,s.length<=70->u56J0 d s=some (fN (portP (prtOf d)) d.2.2.length s):=fun s0 hs=>by
  rw[u56J0];exact lF (n:=d.2.2.length) hp0 (fun i (s:List Y104)=>((i:Int),s)) (portP (prtOf d)) (fun i s=>s.length=s0.length+i) (J:=fun s=>some s) (F:=u56L5 d) (fun g i s hi hI=>by
   have e3:((i:Int)).toNat=i:=rfl;refine(if_pos (by grind)).trans ?_;rw[e3,gP ⟨oo,trivial⟩,lE,gP ⟨⟨by grind,by grind⟩,trivial⟩,gP ⟨oo,trivial⟩];rfl) (fun i s hi hI=>by grind[portP,List.length_append]) (fun g s _=>aE) s0 rfl
 have key:=lF (n:=d.1.length) hi0 (fun i (s:List Y104)=>(s,(i:Int))) (placesF (insOf d)) (fun i s=>s.length<=5*i) (J:=u56J0 d) (F:=u56L1 d) (fun g i s hi hI=>by
  have e3:((i:Int)).toNat=i:=rfl;have hx:=(h5 i hi).2;have hn:(insOf d i).2.2.length<=9223372036854775807:=by omega
  refine(if_pos (by grind)).trans ?_;rw[e3,gP ⟨oo,trivial⟩,lE];have inner:=lF (n:=(insOf d i).2.2.length) hn (fun k (s:List Y104)=>((k:Int),s)) (instP (insOf d i) i) (fun k z=>z.length=s.length+k) (J:=u56J2 (i:Int) g) (F:=u56L3 (i:Int) (insOf d i) g) (fun g3 k z hk hz=>by
   have e4:((k:Int)).toNat=k:=rfl;refine(if_pos (by grind)).trans ?_;rw[e4,gP ⟨oo,trivial⟩,gP ⟨oo,⟨by grind,by grind⟩,trivial⟩,lE];exact gP ⟨oo,trivial⟩) (fun k z hk hz=>by grind[instP,List.length_append]) (fun g3 z _=>aE) s rfl
  refine inner.trans ?_;exact gP ⟨oo,trivial⟩) (fun i s hi hI=>by
  grind[placesF,instP_len]) (fun g s _=>aE) [] (Nat.zero_le _)
 refine key.trans (k5 _ ?_);have:=placesF_len (x:=insOf d) (ni:=d.1.length) (fun i hi=>(h5 i hi).2) d.1.length (Nat.le_refl _);omega
theorem r47(d:Y48)(hd:wf y48 d)(h14:d.1.length<=14)(h8:d.2.2.length<=8)(h5:∀i,i<d.1.length->1<=(insOf d i).2.2.length/\(insOf d i).2.2.length<=5):u47 d=some (placesN d.1.length d.2.2.length (insOf d) (prtOf d)):=by
 have hi0:=hd.1.1;have hp0:=hd.2.2.1;unfold u47;have k5:∀s:List Y96,s.length<=70->u47J0 d s=some (fN (portP (prtOf d)) d.2.2.length s):=fun s0 hs=>by
  rw[u47J0];exact lF (n:=d.2.2.length) hp0 (fun i (s:List Y96)=>((i:Int),s)) (portP (prtOf d)) (fun i s=>s.length=s0.length+i) (J:=fun s=>some s) (F:=u47L5 d) (fun g i s hi hI=>by
   have e3:((i:Int)).toNat=i:=rfl;refine(if_pos (by grind)).trans ?_;rw[e3,gP ⟨oo,oo,⟨by grind,by grind⟩,trivial⟩,lE];exact gP ⟨oo,trivial⟩) (fun i s hi hI=>by grind[portP,List.length_append]) (fun g s _=>aE) s0 rfl
 have key:=lF (n:=d.1.length) hi0 (fun i (s:List Y96)=>((i:Int),s)) (placesF (insOf d)) (fun i s=>s.length<=5*i) (J:=u47J0 d) (F:=u47L1 d) (fun g i s hi hI=>by
  have e3:((i:Int)).toNat=i:=rfl;have hx:=(h5 i hi).2;have hn:(insOf d i).2.2.length<=9223372036854775807:=by omega
  refine(if_pos (by grind)).trans ?_;rw[e3,gP ⟨oo,trivial⟩,lE];have inner:=lF (n:=(insOf d i).2.2.length) hn (fun k (s:List Y96)=>((k:Int),s)) (instP (insOf d i) i) (fun k z=>z.length=s.length+k) (J:=u47J2 (i:Int) g) (F:=u47L3 (i:Int) (insOf d i) g) (fun g3 k z hk hz=>by
   have e4:((k:Int)).toNat=k:=rfl;refine(if_pos (by grind)).trans ?_;rw[e4,gP ⟨oo,oo,⟨by grind,by grind⟩,trivial⟩,lE];exact gP ⟨oo,trivial⟩) (fun k z hk hz=>by grind[instP,List.length_append]) (fun g3 z _=>aE) s rfl
  refine inner.trans ?_;exact gP ⟨oo,trivial⟩) (fun i s hi hI=>by
  grind[placesF,instP_len]) (fun g s _=>aE) [] (Nat.zero_le _)
 refine key.trans (k5 _ ?_);have:=placesF_len (x:=insOf d) (ni:=d.1.length) (fun i hi=>(h5 i hi).2) d.1.length (Nat.le_refl _);omega
abbrev plcs(d:Y48):List DPlace:=placesN d.1.length d.2.2.length (insOf d) (prtOf d)
abbrev plcOf(d:Y48)(i:Nat):DPlace:=(plcs d).getD i (dflt y104)
abbrev wirOf(b:Y51)(i:Nat):Y53:=b.2.2.getD i (dflt y53)
def blockOk(b:Y51):Bool:=designOk b.1 b.2.1&&decide (b.2.2.length=b.2.1.2.1.length)&&!(List.range b.2.2.length).any fun i=>!wireB (wirOf b i) (cntP (plcOf b.2.1) i (plcs b.2.1).length)
structure DF(l:List Y134)(d:Y48):Prop where
 lib:libOk l=true
 fac:DesignFacts l.length (pinsAt l) d.1.length d.2.2.length d.2.1.length (insOf d) (prtOf d)
 pin:∀i,i<d.1.length->1<=(insOf d i).2.2.length/\(insOf d i).2.2.length<=5
 plc:netsIn d.2.1.length (plcs d)
 len:(plcs d).length<=78
theorem df_of{l:List Y134}{d:Y48}(h:designOk l d=true):DF l d:=by
 obtain⟨h1,h2⟩:=design_facts h;have hp:∀i,i<d.1.length->1<=(insOf d i).2.2.length/\(insOf d i).2.2.length<=5:=fun i hi=>by
  have hin:=h2.inst i hi;have g1:=(inst_nets hin (fun y hy=>(lib_pins h1 hy).1)).1;unfold instB at hin;simp only[ba,beq_iff_eq] at hin
  grind[lib_pins]
 have hn:=h2.net;refine⟨h1,h2,hp,portP_in hn.2 (placesF_in hn.1 d.1.length (Nat.le_refl _)) d.2.2.length (Nat.le_refl _),?_⟩;have:=placesF_len (x:=insOf d) (ni:=d.1.length) (fun i hi=>(hp i hi).2) d.1.length (Nat.le_refl _);have h14:=h2.ni14;have h8:=h2.np8;unfold plcs placesN
 grind[portP_len]
theorem r53(b:Y51)(hw:wf y51 b)(hm:cnt y51 b<=1048576):u53 b=some (blockOk b):=by
 have hl:=hw.1;have hd:=hw.2.1;have h0:=hw.2.2.1;have mw:b.2.2.length<=1048576:=cnt_len (cS (cS hm));unfold u53 blockOk;rw[r84 b.1 b.2.1 hl hd (cF hm) (cF (cS hm)),vS,gP ⟨rfl,trivial⟩];cases hdo:designOk b.1 b.2.1 with
 | false=>grind
 | true =>
   have df:=df_of hdo;by_cases hlen:b.2.2.length=b.2.1.2.1.length
   ·have e0:((b.2.2.length:Int) != (b.2.1.2.1.length:Int))=false:=by rw[hlen]; simp
    rw[e0,decide_eq_true hlen];refine(if_neg (by simp)).trans ?_;rw[gP (rep_ok mw (by decide)),Int.toNat_natCast,r56 b.2.1 hd df.fac.ni14 df.fac.np8 df.pin,vS,gP ⟨rfl,trivial⟩,lE];have hpl:(plcs b.2.1).length<=9223372036854775807:=by have:=df.len; omega
    have hin:∀i,i < (plcs b.2.1).length->inB (plcOf b.2.1 i).2.2.1 0 ((b.2.2.length:Int)-1)=true:=fun i hi=>by
     rw[hlen]; exact df.plc _ (getD_mem hi)
    have key:=lF (n:=(plcs b.2.1).length) hpl (fun i (v:List Int)=>((i:Int),v)) (sinkF (plcOf b.2.1)) (fun i v=>i<=(plcs b.2.1).length/\lowAt v b.2.2.length i) (J:=u53J0 b) (F:=u53L1 (plcs b.2.1) b) (fun g i v hi hI=>by
     have e3:((i:Int)).toNat=i:=rfl;have j2:∀v',u53J2 (i:Int) g v'=g (((i+1:Nat):Int),v'):=fun v'=>gP ⟨oo,trivial⟩;refine(if_pos (by grind)).trans ?_;rw[e3,gP ⟨oo,hi,trivial⟩,lE,j2];show(if(!(plcOf b.2.1 i).2.2.2)=true then _ else _)=g (_,sinkF (plcOf b.2.1) i v);unfold sinkF;cases hdr:(plcOf b.2.1 i).2.2.2 with
     | true=>rfl
     | false =>
       refine(if_pos rfl).trans ?_;refine(gP (inc_ok hI.2 (by have:=df.len; omega) (hin i hi))).trans ?_;rw[lE];exact j2 _) (fun i v hi hI=>⟨by omega,by
     grind[sinkF,lowAt_inc,lowAt_up]⟩) (fun g v _=>aE) (List.replicate b.2.2.length 0) ⟨by omega,lowAt_rep _ _⟩
    refine key.trans ?_;obtain⟨s1,s2⟩:=sink_fold (plcOf b.2.1) b.2.2.length (plcs b.2.1).length hin;generalize fN (sinkF (plcOf b.2.1)) (plcs b.2.1).length (List.replicate b.2.2.length 0)=v at *
    rw[u53J0];have key2:=lp_all (n:=b.2.2.length) h0 (fun i=>!wireB (wirOf b i) (cntP (plcOf b.2.1) i (plcs b.2.1).length)) (some false) (e:=some true) (F:=u53L4 v b) (fun g i hi=>by
     have e3:((i:Int)).toNat=i:=rfl;refine(if_pos (by grind)).trans ?_;rw[e3,gP ⟨oo,trivial⟩,lE,s2 i hi,r85 _ _ (wf_el hi hw.2.2),vS,gP ⟨oo,by omega,rfl,trivial⟩,gP ⟨oo,trivial⟩]) (fun g=>aE)
    grind
   grind
theorem r73(d:Y48)(hd:wf y48 d){l:List Y134}(df:DF l d)(t:Int):u73 d t=some (fN (sinkL (plcOf d) t) (plcs d).length []):=by
 have hl:=df.len;unfold u73;rw[r47 d hd df.fac.ni14 df.fac.np8 df.pin,vS,gP ⟨rfl,trivial⟩,lE];exact lF (n:=(plcs d).length) (by omega) (fun i (s:List Int)=>((i:Int),s)) (sinkL (plcOf d) t) (fun i s=>s.length<=i) (J:=fun s=>some s) (F:=u73L1 (plcs d) t) (fun g i s hi hI=>by
  have e3:((i:Int)).toNat=i:=rfl;have j2:∀s',u73J2 (i:Int) g s'=g (((i+1:Nat):Int),s'):=fun v'=>gP ⟨oo,trivial⟩;refine(if_pos (by grind)).trans ?_;have hI':s.length<=i:=hI;rw[e3,gP ⟨oo,hi,fun _=>oo,fun _=>hi,trivial⟩,gP ⟨⟨by grind,by grind⟩,trivial⟩,j2,j2];show _=g (_,sinkL (plcOf d) t i s);unfold sinkL
  grind) (fun i s hi hI=>by
  grind[sinkL,List.length_append]) (fun g s _=>aE) [] (Nat.le_refl _)
theorem r43(b:Y51)(hw:wf y51 b)(hm:cnt y51 b<=1048576):u43 b=some (blockOk b):=by
 have hl:=hw.1;have hd:=hw.2.1;have h0:=hw.2.2.1;unfold u43 blockOk;rw[r71 b.1 b.2.1 hl hd (cF (cS hm)),vS,gP ⟨rfl,trivial⟩];cases hdo:designOk b.1 b.2.1 with
 | false=>grind
 | true =>
   have df:=df_of hdo;by_cases hlen:b.2.2.length=b.2.1.2.1.length
   ·have e0:((b.2.2.length:Int) != (b.2.1.2.1.length:Int))=false:=by rw[hlen]; simp
    rw[e0,decide_eq_true hlen];refine(if_neg (by simp)).trans ?_;have key2:=lp_all (n:=b.2.2.length) h0 (fun i=>!wireB (wirOf b i) (cntP (plcOf b.2.1) i (plcs b.2.1).length)) (some false) (e:=some true) (F:=u43L1 b) (fun g i hi=>by
     have e3:((i:Int)).toNat=i:=rfl;refine(if_pos (by grind)).trans ?_;rw[e3,r73 b.2.1 hd df,vS,sinkL_len,r72 _ _ (wf_el hi hw.2.2),gP ⟨oo,rfl,rfl,trivial⟩,lE,sinkL_len,r72 _ _ (wf_el hi hw.2.2),vS,gP ⟨oo,trivial⟩]) (fun g=>aE)
    grind
   grind
theorem block_design{b:Y51}(h:blockOk b=true):designOk b.1 b.2.1=true/\b.2.2.length=b.2.1.2.1.length/\∀i,i<b.2.2.length->wireB (wirOf b i) (cntP (plcOf b.2.1) i (plcs b.2.1).length)=true:=by
 grind[blockOk,hi]
abbrev sinksV(d:Y48)(t:Int):List Int:=fN (sinkL (plcOf d) t) (plcs d).length []
def capV(l:List Y134)(d:Y48)(p:DPlace):Int:=if p.1<0 then 0 else((l.getD (insOf d p.1.toNat).2.1.toNat (dflt y134)).2.2.1.getD p.2.1.toNat (dflt y155)).2.2.1
theorem plc_mem{d:Y48}{i:Nat}(h:i < (plcs d).length):plcOf d i∈plcs d:=getD_mem h
theorem lib_cell'{l:List Y134}(h:libOk l=true){i:Nat}(hi:i<l.length):cellOk isArcS (celOf l i)=true:=by
 have h:libB _ _ _=true:=h;unfold libB at h;rw[ba] at h;have:=not_any.1 h.1 i hi;rw[Bool.or_eq_false_iff,Bool.not_eq_false'] at this;exact this.1
theorem plc_pin{l:List Y134}{d:Y48}(df:DF l d){p:DPlace}(hp:p∈plcs d):(p.1 = -1/\0<=p.2.1/\p.2.1.toNat<d.2.2.length) ∨
  (0<=p.1/\p.1.toNat<d.1.length/\0<=(insOf d p.1.toNat).2.1/\(insOf d p.1.toNat).2.1.toNat<l.length/\0<=p.2.1/\p.2.1.toNat < (l.getD (insOf d p.1.toNat).2.1.toNat (dflt y134)).2.2.1.length):=by
 rcases places_kind d.1.length d.2.2.length (insOf d) (prtOf d) p hp with h | ⟨h1,h2,h3,h4⟩
 ·exact .inl h
 ·have hin:=df.fac.inst p.1.toNat h2;unfold instB at hin;simp only[ba,beq_iff_eq] at hin;have h5:=inB_iff.1 hin.1.1;have h6:=hin.1.2;refine .inr ⟨h1,h2,h5.1,by omega,h3,?_⟩;have h6:((insOf d p.1.toNat).2.2.length:Int)=((l.getD (insOf d p.1.toNat).2.1.toNat (dflt y134)).2.2.1.length:Int):=h6;omega
theorem pin_cap{l:List Y134}{d:Y48}(df:DF l d){p:DPlace}(hp:p∈plcs d):0<=capV l d p/\capV l d p<=500:=by
 unfold capV;split
 ·exact⟨by decide,by decide⟩
 ·rename_i hn;rcases plc_pin df hp with h | ⟨h1,h2,h3,h4,h5,h6⟩
  ·omega
  ·have hc:cellB isArcS _ _ _ _ _ _ _ _ _=true:=lib_cell' df.lib h4;unfold cellB pinsOk at hc;simp only[ba] at hc;have:=not_any.1 hc.1.1.1.1.2.2 p.2.1.toNat h6;rw[Bool.not_eq_false'] at this;unfold pinB at this;rw[ba] at this;exact inB_iff.1 this.1
theorem sinksV_at{d:Y48}{t:Int}{k:Nat}(h:k < (sinksV d t).length):0<=(sinksV d t).getD k 0/\((sinksV d t).getD k 0).toNat < (plcs d).length:=by
 obtain⟨j,h1,h2,_⟩:=sinkL_in (plcOf d) t (plcs d).length _ (getD_mem (d:=0) h);rw[h1];exact⟨Int.natCast_nonneg _,by simpa using h2⟩
structure NetOk(b:Y51)(i:Nat):Prop where
 df:DF b.1 b.2.1
 lt:i<b.2.2.length
 wf:WireFacts (wirOf b i) ((sinksV b.2.1 i).length:Int)
theorem net_ok{b:Y51}(h:blockOk b=true){i:Nat}(hi:i<b.2.2.length):NetOk b i:=by
 obtain⟨h1,h2,h3⟩:=block_design h;refine⟨df_of h1,hi,?_⟩;rw[sinkL_len];exact wire_facts (h3 i hi)
def nodeS(b:Y51)(i k:Nat):Int:=(wirOf b i).2.2.2.getD k 0
def capS(b:Y51)(i k:Nat):Int:=capV b.1 b.2.1 (plcOf b.2.1 ((sinksV b.2.1 i).getD k 0).toNat)
theorem NetOk.sn{b:Y51}{i:Nat}(h:NetOk b i):(wirOf b i).2.2.2.length=(sinksV b.2.1 i).length:=by have:=h.wf.snk; omega
theorem NetOk.capIn{b:Y51}{i:Nat}(h:NetOk b i){k:Nat}(hk:k < (sinksV b.2.1 i).length):0<=nodeS b i k/\(nodeS b i k).toNat < (wirOf b i).1.length/\0<=capS b i k/\capS b i k<=500:=by
 have h1:=h.wf.snkIn k (by rw[h.sn]; exact hk);have h2:=pin_cap h.df (plc_mem (sinksV_at hk).2);exact⟨h1.1,h1.2,h2.1,h2.2⟩
theorem NetOk.low{b:Y51}{i:Nat}(h:NetOk b i):∀m,m<=(sinksV b.2.1 i).length->Low (fN (capF (nodeS b i) (capS b i)) m (wirOf b i).2.2.1) (wirOf b i).1.length (500*((wirOf b i).1.length:Int)+500*(m:Int)):=fun m hm=>capF_low (low_all h.wf.cap h.wf.capOk) m (fun k hk=>h.capIn (by omega))
abbrev celI(b:Y51)(i:Nat):Y134:=b.1.getD (insOf b.2.1 i).2.1.toNat (dflt y134)
theorem inst_cell'{b:Y51}(df:DF b.1 b.2.1){i:Nat}(hi:i<b.2.1.1.length):ix (insOf b.2.1 i).2.1 b.1.length/\cellOk isArcS (celI b i)=true/\(insOf b.2.1 i).2.2.length=(celI b i).2.2.1.length:=by
 have:=df.fac.inst i hi;unfold instB at this;rw[ba,ba,beq_iff_eq] at this;have h1:=inB_iff.1 this.1.1;have h2:=this.1.2;have h3:((insOf b.2.1 i).2.2.length:Int)=((celI b i).2.2.1.length:Int):=h2;exact⟨⟨h1.1,by omega⟩,lib_cell' df.lib (by omega),by omega⟩
theorem cell_arcs{c:Y134}(h:cellOk isArcS c=true):2<=c.2.2.1.length/\c.2.2.1.length<=5/\c.2.2.2.1.length<=8/\∀j,j<c.2.2.2.1.length->0<=(arcOf c j).2.1/\(arcOf c j).2.1 < (c.2.2.1.length:Int)-1/\0<=(arcOf c j).2.2.1/\(arcOf c j).2.2.1 < (c.2.2.1.length:Int):=by
 have h:cellB isArcS _ _ _ _ _ _ _ _ _=true:=h;unfold cellB arcsB at h;simp only[ba,dq] at h;have hp:=pins_last h.1.1.1.1.2;refine⟨hp.1,hp.2.1,h.1.1.1.2.1,fun j hj=>?_⟩;have:=not_any.1 h.1.1.1.2.2 j hj;rw[Bool.or_eq_false_iff,Bool.not_eq_false'] at this;have ha:=this.1;unfold isArcS at ha;rw[ba,ba] at ha;have h1:=inB_iff.1 ha.1.1;have h2:=inB_iff.1 ha.1.2;omega
theorem eq_any{xs ys:List Int}(h:xs.length=ys.length):(!(List.range xs.length).any fun i=>xs.getD i 0 != ys.getD i 0)=decide (xs=ys):=by
 rw[Bool.eq_iff_iff,dq];constructor
 ·intro hn;have hn:=not_any.1 hn;exact list_eq 0 h (fun i hi=>by simpa using hn i hi)
 ·rintro rfl;exact not_any.2 (fun i _=>by simp)
theorem r176(xs ys:List Int)(h:xs.length<=9223372036854775807):u176 xs ys=some (decide (xs=ys)):=by
 unfold u176;by_cases hl:xs.length=ys.length
 ·have key:=lp_all (n:=xs.length) h (fun i=>xs.getD i 0 != ys.getD i 0) (some false) (e:=some true) (F:=u176L1 xs ys) (fun g i hi=>by
   have e3:((i:Int)).toNat=i:=rfl;refine(if_pos (by simpa using hi)).trans ?_;rw[e3,gP ⟨oo,oo,trivial⟩,gP ⟨oo,trivial⟩]) (fun g=>aE)
  refine(if_neg (by simp[hl])).trans (key.trans ?_);rw[<- eq_any hl];cases(List.range xs.length).any fun i=>xs.getD i 0 != ys.getD i 0 <;> rfl
 ·rw[decide_eq_false (fun e=>hl (by rw[e]))];exact if_pos (by simp; omega)
def sameW(w v:Y53):Bool:=decide (w.1=v.1)&&decide (w.2.1=v.2.1)&&decide (w.2.2.1=v.2.2.1)&&decide (w.2.2.2=v.2.2.2)
theorem r150(w v:Y53)(hw:wf y53 w):u150 w v=some (sameW w v):=by
 unfold u150;rw[r176 _ _ hw.1.1,r176 _ _ hw.2.1.1,r176 _ _ hw.2.2.1.1,r176 _ _ hw.2.2.2.1]
 repeat rw[vS]
 exact gP ⟨rfl,fun _=>rfl,fun _=>rfl,fun _=>rfl,trivial⟩
def sameE(e f:Y55):Bool:=e.1==f.1&&e.2.1==f.2.1&&e.2.2.1==f.2.2.1&&e.2.2.2.1==f.2.2.2.1&&e.2.2.2.2.1==f.2.2.2.2.1&&decide (e.2.2.2.2.2.1=f.2.2.2.2.2.1)&&sameW e.2.2.2.2.2.2 f.2.2.2.2.2.2
theorem r115(e f:Y55)(hw:wf y55 e):u115 e f=some (sameE e f):=by
 unfold u115;rw[r150 _ _ hw.2.2.2.2.2.2,vS,gP ⟨fun _=>rfl,trivial⟩,lE];rfl
def noW(w:Y53):Bool:=(w.1.length:Int)+(w.2.1.length:Int)+(w.2.2.1.length:Int)+(w.2.2.2.length:Int)==0
def blankV(e:Y55):Bool :=
 if(e.1==1)=true then e.2.2.2.1==0&&e.2.2.2.2.1==0&&decide (e.2.2.2.2.2.1=ByteArray.mk #[])&&noW e.2.2.2.2.2.2
 else if(e.1==2)=true then e.2.2.2.1==0&&e.2.2.2.2.1==0&&noW e.2.2.2.2.2.2
 else if(e.1==3)=true then e.2.1==0&&e.2.2.1==0&&e.2.2.2.1==0&&e.2.2.2.2.1==0&&decide (e.2.2.2.2.2.1=ByteArray.mk #[])&&noW e.2.2.2.2.2.2
 else if(e.1==4)=true then e.2.2.1==0&&decide (e.2.2.2.2.2.1=ByteArray.mk #[])&&noW e.2.2.2.2.2.2
 else if(e.1==5)=true then e.2.1==0&&e.2.2.1==0&&e.2.2.2.2.1==0&&decide (e.2.2.2.2.2.1=ByteArray.mk #[])
 else false
theorem wire_cnt{w:Y53}(h:cnt y53 w<=1048576):w.1.length<=1048576/\w.2.1.length<=1048576/\w.2.2.1.length<=1048576/\w.2.2.2.length<=1048576 :=
 ⟨cnt_len (cF h),cnt_len (cF (cS h)),cnt_len (cF (cS (cS h))),cnt_len (cS (cS (cS h)))⟩
theorem r44(e:Y55)(hm:cnt y55 e<=1048576):u44 e=some (blankV e):=by
 obtain⟨c1,c2,c3,c4⟩:=wire_cnt (cS (cS (cS (cS (cS (cS hm))))));unfold u44 blankV;rw[gP ⟨oo,oo,oo,trivial⟩];by_cases h1:(e.1==1)=true
 ·rw[if_pos h1,if_pos h1]; rfl
 rw[if_neg h1,if_neg h1];by_cases h2:(e.1==2)=true
 ·rw[if_pos h2,if_pos h2]; rfl
 rw[if_neg h2,if_neg h2];by_cases h3:(e.1==3)=true
 ·rw[if_pos h3,if_pos h3]; rfl
 rw[if_neg h3,if_neg h3];by_cases h4:(e.1==4)=true
 ·rw[if_pos h4,if_pos h4]; rfl
 rw[if_neg h4,if_neg h4];by_cases h5:(e.1==5)=true
 ·rw[if_pos h5,if_pos h5]
 rw[if_neg h5,if_neg h5]
def ownV(e:Y55):Y55 :=
 if(e.1==1)=true then(e.1,e.2.1,e.2.2.1,0,0,ByteArray.mk #[],[],[],[],[])
 else if(e.1==2)=true then(e.1,e.2.1,e.2.2.1,0,0,e.2.2.2.2.2.1,[],[],[],[])
 else if(e.1==4)=true then(e.1,e.2.1,0,e.2.2.2.1,e.2.2.2.2.1,ByteArray.mk #[],[],[],[],[])
 else if(e.1==5)=true then(e.1,0,0,e.2.2.2.1,0,ByteArray.mk #[],e.2.2.2.2.2.2)
 else(e.1,0,0,0,0,ByteArray.mk #[],[],[],[],[])
theorem r116(e:Y55):u116 e=some (ownV e):=by
 unfold u116 ownV;by_cases h1:(e.1==1)=true
 ·rw[if_pos h1,if_pos h1]
 rw[if_neg h1,if_neg h1];by_cases h2:(e.1==2)=true
 ·rw[if_pos h2,if_pos h2]
 rw[if_neg h2,if_neg h2];by_cases h4:(e.1==4)=true
 ·rw[if_pos h4,if_pos h4]
 rw[if_neg h4,if_neg h4];by_cases h5:(e.1==5)=true
 ·rw[if_pos h5,if_pos h5]
 rw[if_neg h5,if_neg h5]
theorem noW_eq(a b c d:List Int):noW (a,b,c,d)=(decide (a=[])&&decide (b=[])&&decide (c=[])&&decide (d=[])):=by
 rw[Bool.eq_iff_iff];unfold noW;simp only[beq_iff_eq,ba,dq];rw[<- List.length_eq_zero_iff,<- List.length_eq_zero_iff,<- List.length_eq_zero_iff,<- List.length_eq_zero_iff];omega
theorem blank_own(e:Y55):(inB e.1 1 5&&sameE e (ownV e))=blankV e:=by
 obtain⟨k,p,c,n,d,nm,a1,a2,a3,a4⟩:=e;unfold blankV ownV sameE sameW;rw[noW_eq];show(inB k 1 5&&_)=_;by_cases h1:k=1
 ·subst h1; simp[inB,Bool.and_assoc]
 by_cases h2:k=2
 ·subst h2; simp[inB,Bool.and_assoc]
 by_cases h3:k=3
 ·subst h3; simp[inB,Bool.and_assoc]
 by_cases h4:k=4
 ·subst h4; simp[inB,Bool.and_assoc]
 by_cases h5:k=5
 ·subst h5; simp[inB,Bool.and_assoc]
 have:inB k 1 5=false:=by
  rw[<- Bool.not_eq_true];intro h;have:=inB_iff.1 h;omega
 rw[this];simp[h1,h2,h3,h4,h5]
def alikeV(c d:Y134):Bool:=!(c.2.1 != d.2.1||(c.2.2.1.length:Int) != (d.2.2.1.length:Int))&&!(List.range c.2.2.1.length).any fun i=>!((pinOf c i).2.2.2==(pinOf d i).2.2.2)
theorem r75(c d:Y134)(h:c.2.2.1.length<=9223372036854775807):u75 c d=some (alikeV c d):=by
 unfold u75 alikeV;cases hc:(c.2.1 != d.2.1||(c.2.2.1.length:Int) != (d.2.2.1.length:Int)) with
 | true=>rfl
 | false =>
   have hl:c.2.2.1.length=d.2.2.1.length:=by
    simp only[Bool.or_eq_false_iff,bne_eq_false_iff_eq] at hc;omega
   have key:=lp_all (n:=c.2.2.1.length) h (fun i=>!((pinOf c i).2.2.2==(pinOf d i).2.2.2)) (some false) (e:=some true) (F:=u75L1 c d) (fun g i hi=>by
    have e3:((i:Int)).toNat=i:=rfl;refine(if_pos (by simpa using hi)).trans ?_;rw[e3,gP ⟨oo,oo,trivial⟩,gP ⟨oo,trivial⟩]) (fun g=>aE)
   refine(if_neg (by simp)).trans (key.trans ?_);cases(List.range c.2.2.1.length).any fun i=>!((pinOf c i).2.2.2==(pinOf d i).2.2.2) <;> rfl
theorem r119(c d:Y134)(h:c.2.2.1.length<=9223372036854775807):u119 c d=some (alikeV c d):=by
 have e:u151c152 c.2.2.1 d.2.2.1=some (!((c.2.2.1.length:Int) != (d.2.2.1.length:Int))&&!(List.range c.2.2.1.length).any fun i=>!((pinOf c i).2.2.2==(pinOf d i).2.2.2)):=by
  unfold u151c152;cases hc:((c.2.2.1.length:Int) != (d.2.2.1.length:Int)) with
  | true=>rfl
  | false =>
    have hl:c.2.2.1.length=d.2.2.1.length:=by
     simp only[bne_eq_false_iff_eq] at hc;omega
    have ef:∀p q:Y155,u152 p q=some (p.2.2.2==q.2.2.2):=fun _ _=>rfl;have key:=lp_all (n:=c.2.2.1.length) h (fun i=>!((pinOf c i).2.2.2==(pinOf d i).2.2.2)) (some false) (e:=some true) (F:=u151c152L1 d.2.2.1 c.2.2.1) (fun g i hi=>by
     have e3:((i:Int)).toNat=i:=rfl;refine(if_pos (by simpa using hi)).trans ?_;rw[e3,gP ⟨oo,trivial⟩,lE,gP ⟨oo,trivial⟩,lE,ef,gP ⟨rfl,trivial⟩,gP ⟨oo,trivial⟩];rfl) (fun g=>aE)
    refine(if_neg (by simp)).trans (key.trans ?_);cases(List.range c.2.2.1.length).any fun i=>!((pinOf c i).2.2.2==(pinOf d i).2.2.2) <;> rfl
 unfold u119 alikeV;rw[e,vS,gP ⟨fun _=>rfl,trivial⟩];unfold bne;cases(c.2.1==d.2.1) <;> cases((c.2.2.1.length:Int)==(d.2.2.1.length:Int)) <;> rfl
def bufV(c:Y134):Bool:=c.2.1==1&&(c.2.2.1.length:Int)==2
theorem r76(c:Y134):u76 c=some (bufV c):=rfl
theorem r120(c:Y134):u120 c=some (bufV c):=rfl
def fiV(n:Nat)(P:Nat->Bool):Int:=match(List.range n).find? P with | some i=>(i:Int) | none => -1
def insN(d:Y48)(s:ByteArray):Int:=fiV d.1.length (fun i=>decide ((insOf d i).1=s))
def netN(d:Y48)(s:ByteArray):Int:=fiV d.2.1.length (fun i=>decide (d.2.1.getD i (dflt .str)=s))
theorem r78(d:Y48)(s:ByteArray)(h:d.1.length<=9223372036854775807):u78 d s=some (insN d s) :=
 idx_some h (fun i=>decide ((insOf d i).1=s)) (fun g i hi=>by
  refine(if_pos (by simpa using hi)).trans ?_;rw[gP ⟨oo,trivial⟩,gP ⟨oo,trivial⟩];rfl) (fun g=>aE)
theorem r122(d:Y48)(s:ByteArray)(h:d.1.length<=9223372036854775807):u122 d s=some (insN d s):=by
 have h1:u155c156 d.1 s=some (insN d s):=idx_some h (fun i=>decide ((insOf d i).1=s)) (fun g i hi=>idx_el hi h rfl) (fun g=>aE);unfold u122;rw[h1,vS,gP ⟨rfl,trivial⟩,lE]
theorem r79(d:Y48)(s:ByteArray)(h:d.2.1.length<=9223372036854775807):u79 d s=some (netN d s):=by
 have h1:u101 d.2.1 s=some (netN d s):=idx_some h (fun i=>decide (d.2.1.getD i (dflt .str)=s)) (fun g i hi=>by
  refine(if_pos (by simpa using hi)).trans ?_;rw[gP ⟨oo,trivial⟩,gP ⟨oo,trivial⟩];rfl) (fun g=>aE)
 unfold u79;rw[h1,vS,gP ⟨rfl,trivial⟩,lE]
theorem r123(d:Y48)(s:ByteArray)(h:d.2.1.length<=9223372036854775807):u123 d s=some (netN d s):=by
 have h1:u157 d.2.1 s=some (netN d s):=idx_some h (fun i=>decide (d.2.1.getD i (dflt .str)=s)) (fun g i hi=>by
  refine(if_pos (by simpa using hi)).trans ?_;rw[gP ⟨oo,trivial⟩,gP ⟨oo,trivial⟩];have:decide (s=d.2.1.getD i (dflt .str))=decide (d.2.1.getD i (dflt .str)=s):=by rw[decide_eq_decide]; exact eq_comm
  rw[<- this];rfl) (fun g=>aE)
 unfold u123;rw[h1,vS,gP ⟨rfl,trivial⟩,lE]
def plN(b:Y51):Int:=(plcs b.2.1).length
def rangeV(b:Y51)(e:Y55):Bool :=
 if(e.1==1||e.1==2)=true then inB e.2.1 0 (plN b-1)&&inB e.2.2.1 0 ((b.1.length:Int)-1)
 else if(e.1==4)=true then inB e.2.1 0 (plN b-1)&&inB e.2.2.2.1 0 ((b.2.2.length:Int)-1)&&inB e.2.2.2.2.1 0 (((wirOf b e.2.2.2.1.toNat).1.length:Int)-1)
 else if(e.1==5)=true then inB e.2.2.2.1 0 ((b.2.2.length:Int)-1)
 else true
structure BOk(b:Y51):Prop where
 df:DF b.1 b.2.1
 nets:b.2.2.length=b.2.1.2.1.length
 n30:b.2.2.length<=30
 c8:b.1.length<=8
 p78:plN b<=78
 wire:∀i,i<b.2.2.length->NetOk b i
theorem b_ok{b:Y51}(h:blockOk b=true):BOk b:=by
 obtain⟨h1,h2,_⟩:=block_design h;have df:=df_of h1;have hl:=df.len;have h30:=df.fac.nn30;have h8:b.1.length<=8:=by
  have hl:=df.lib;have hl:libB _ _ _=true:=hl;unfold libB at hl;simp only[ba,dq] at hl;exact hl.2
 exact⟨df,h2,by omega,h8,by unfold plN; omega,fun i hi=>net_ok h hi⟩
theorem r45(b:Y51)(hw:wf y51 b)(o:BOk b)(e:Y55):u45 b e=some (rangeV b e):=by
 have hp:=o.p78;have h30:=o.n30;have h8:=o.c8;have hpn:0<=plN b:=Int.natCast_nonneg _;have key:∀v,(e.1==1)=true/\v=true∨(e.1==1)=false/\v=(e.1==2)->u45J0 e (plcs b.2.1) b v=some (rangeV b e):=fun v hv=>by
  have hv':v=(e.1==1||e.1==2):=by
   rcases hv with ⟨h1,h2⟩ | ⟨h1,h2⟩
   ·rw[h1,h2]; rfl
   ·rw[h1,h2]; rfl
  unfold rangeV;rw[<- hv',u45J0,r74,r74,r74,r74]
  repeat rw[vS]
  cases v with
  | true=>exact gP ⟨⟨by show _<=plN b-1; omega,by show plN b-1<=_; omega⟩,rfl,(fun _=>oo),(fun _=>rfl),trivial⟩
  | false =>
    refine(if_neg (by simp)).trans ?_;rw[if_neg (show ¬(false=true) by simp)];by_cases h4:(e.1==4)=true
    ·rw[if_pos h4,if_pos h4];have key2:(inB e.2.1 0 (plN b-1)&&inB e.2.2.2.1 0 ((b.2.2.length:Int)-1))=true->ix e.2.2.2.1 b.2.2.length/\in64 (((wirOf b e.2.2.2.1.toNat).1.length:Int)-1):=fun h=>by
      have h2:=inB_iff.1 (ba _ _ ▸ h).2;have hw:=(o.wire e.2.2.2.1.toNat (by omega)).wf.n8;exact⟨⟨h2.1,by omega⟩,oo⟩
     exact gP ⟨⟨by show _<=plN b-1; omega,by show plN b-1<=_; omega⟩,rfl,(fun _=>oo),(fun _=>rfl),(fun h=>(key2 h.1).1),(fun h=>(key2 h.1).2),(fun _=>rfl),trivial⟩
    ·rw[if_neg h4,if_neg h4];by_cases h5:(e.1==5)=true
     ·rw[if_pos h5,if_pos h5];exact gP ⟨oo,rfl,trivial⟩
     ·rw[if_neg h5,if_neg h5]
 unfold u45;rw[r47 b.2.1 hw.2.1 o.df.fac.ni14 o.df.fac.np8 o.df.pin,vS,gP ⟨rfl,trivial⟩,lE];cases h1:(e.1==1) with
 | true=>exact(if_pos rfl).trans (key _ (.inl ⟨h1,rfl⟩))
 | false=>exact(if_neg (by simp)).trans (key _ (.inr ⟨h1,rfl⟩))
theorem r86(b:Y51)(hw:wf y51 b)(o:BOk b)(e:Y55)(he:wf y55 e):u86 e b=some (blankV e&&rangeV b e):=by
 have hp:=o.p78;have h30:=o.n30;have h8:=o.c8;have hn:=o.nets;have hpn:0<=plN b:=Int.natCast_nonneg _;have ePl:u117 (plcs b.2.1)=some (plN b):=rfl;have eC:u118 b.1=some (b.1.length:Int):=rfl;have eI:∀xs:List Int,u111 xs=some (xs.length:Int):=fun _=>rfl;have key:∀v,(e.1==1)=true/\v=true∨(e.1==1)=false/\v=(e.1==2)->u86J0 e (plcs b.2.1) b v=some (rangeV b e):=fun v hv=>by
  have hv':v=(e.1==1||e.1==2):=by
   rcases hv with ⟨h1,h2⟩ | ⟨h1,h2⟩
   ·rw[h1,h2]; rfl
   ·rw[h1,h2]; rfl
  unfold rangeV;rw[<- hv',u86J0,ePl,vS,r112,vS,eC,vS,r112,vS,r108 _ hw.2.1,vS,eI,vS,r112,vS,<- hn];cases v with
  | true=>exact gP ⟨(fun _=>rfl),(fun _=>oo),(fun _=>rfl),trivial⟩
  | false =>
    refine(if_neg (by simp)).trans ?_;rw[if_neg (show ¬(false=true) by simp)];by_cases h4:(e.1==4)=true
    ·rw[if_pos h4,if_pos h4];have key2:(inB e.2.1 0 (plN b-1)&&inB e.2.2.2.1 0 ((b.2.2.length:Int)-1))=true->ix e.2.2.2.1 b.2.2.length/\in64 (((wirOf b e.2.2.2.1.toNat).1.length:Int)-1):=fun h=>by
      have h2:=inB_iff.1 (ba _ _ ▸ h).2;have hw:=(o.wire e.2.2.2.1.toNat (by omega)).wf.n8;exact⟨⟨h2.1,by omega⟩,oo⟩
     exact gP ⟨(fun _=>rfl),(fun h=>(key2 h.1).1),(fun _=>rfl),(fun h=>(key2 h.1).2),(fun _=>rfl),trivial⟩
    ·rw[if_neg h4,if_neg h4];by_cases h5:(e.1==5)=true
     ·rw[if_pos h5,if_pos h5];exact gP ⟨rfl,trivial⟩
     ·rw[if_neg h5,if_neg h5]
 unfold u86;rw[r112,vS,r116,vS,r115 e _ he,vS,gP ⟨rfl,(fun _=>rfl),(fun _=>rfl),trivial⟩];have hb:=blank_own e;cases hbl:blankV e with
 | false =>
   rw[hbl] at hb;refine(if_pos ?_).trans rfl;cases h1:inB e.1 1 5 with
   | false=>rfl
   | true=>rw[h1,Bool.true_and] at hb; rw[hb]; rfl
 | true =>
   rw[hbl,ba] at hb;refine(if_neg (by rw[hb.1,hb.2]; simp)).trans ?_;rw[r56 b.2.1 hw.2.1 o.df.fac.ni14 o.df.fac.np8 o.df.pin,vS,ePl,vS,r112,gP ⟨rfl,rfl,oo,rfl,trivial⟩,lE];cases h1:(e.1==1) with
   | true=>exact(if_pos rfl).trans (key _ (.inl ⟨h1,rfl⟩))
   | false=>exact(if_neg (by simp)).trans (key _ (.inr ⟨h1,rfl⟩))
def lastX(b:Y51):Y94:=insOf b.2.1 (b.2.1.1.length-1)
def lastW(b:Y51):Y53:=wirOf b (b.2.2.length-1)
def lastQ(b:Y51):Bool:=bufV (celI b (b.2.1.1.length-1))&&(lastX b).2.2.getD 1 0==(b.2.2.length:Int)-1&&decide (b.2.1.2.1.getD (b.2.2.length-1) (dflt .str)=(lastX b).1)&&!((lastX b).2.2.getD 0 0==(b.2.2.length:Int)-1)
def lastV(b:Y51):Bool:=if b.2.1.1.length=0 then false else if lastQ b=true then((lastW b).2.2.2.length:Int)==1&&((lastW b).1.length:Int)==1&&(lastW b).2.2.1.getD 0 0==0 else false
theorem last_facts{b:Y51}(o:BOk b)(h0:¬b.2.1.1.length=0):ix (lastX b).2.1 b.1.length/\(bufV (celI b (b.2.1.1.length-1))=true->(lastX b).2.2.length=2/\0<=(lastX b).2.2.getD 1 0):=by
 obtain⟨x1,x2,x3⟩:=inst_cell' o.df (i:=b.2.1.1.length-1) (by omega);refine⟨x1,fun hb=>?_⟩;have h2:(celI b (b.2.1.1.length-1)).2.2.1.length=2:=by
  unfold bufV at hb;rw[ba,beq_iff_eq,beq_iff_eq] at hb;have:=hb.2;omega
 have h3:(lastX b).2.2.length=2:=x3.trans h2;exact⟨h3,(inB_iff.1 (o.df.fac.net.1 (b.2.1.1.length-1) (by omega) 1 (by show 1 < (lastX b).2.2.length; omega))).1⟩
theorem r102(w:Y53)(h:w.2.2.1.length=w.1.length):u102 w=some ((w.1.length:Int)==1&&w.2.2.1.getD 0 0==0):=by
 unfold u102;exact gP ⟨(fun h1=>⟨by omega,by have:=beq_iff_eq.1 h1.1; omega⟩),trivial⟩
theorem bool_or4(a b c d:Bool):(!a||!b||!c||d)=!(a&&b&&c&&!d):=by cases a <;> cases b <;> cases c <;> cases d <;> rfl
theorem bool_or4'(a b c d:Bool):(!a||!b||d||!c)=!(a&&b&&c&&!d):=by cases a <;> cases b <;> cases c <;> cases d <;> rfl
theorem r80(b:Y51)(hw:wf y51 b)(o:BOk b):u80 b=some (lastV b):=by
 have h30:=o.n30;have h14:=o.df.fac.ni14;have hn:=o.nets;unfold u80 lastV;rw[gP ⟨oo,trivial⟩,gP ⟨oo,trivial⟩];by_cases h0:b.2.1.1.length=0
 ·rw[if_pos h0];exact if_pos (decide_eq_true (by omega))
 ·rw[if_neg h0];obtain⟨x1,x2⟩:=last_facts o h0;refine(if_neg (by simp; omega)).trans ?_;have e1:((b.2.1.1.length:Int)-1).toNat=b.2.1.1.length-1:=by omega
  have e2:((b.2.2.length:Int)-1).toNat=b.2.2.length-1:=by omega
  rw[gP ⟨oo,trivial⟩,lE,e1,e2];show gd (ix (lastX b).2.1 b.1.length/\(u76 (celI b (b.2.1.1.length-1))).isSome=true/\((!vl (u76 (celI b (b.2.1.1.length-1))))=false/\True->ix 1 (lastX b).2.2.length)/\((!vl (u76 (celI b (b.2.1.1.length-1)))||(lastX b).2.2.getD 1 0 != (b.2.2.length:Int)-1)=false/\True->ix ((b.2.2.length:Int)-1) b.2.1.2.1.length)/\((!vl (u76 (celI b (b.2.1.1.length-1)))||(lastX b).2.2.getD 1 0 != (b.2.2.length:Int)-1||!decide (b.2.1.2.1.getD (b.2.2.length-1) (dflt .str)=(lastX b).1))=false/\True->ix 0 (lastX b).2.2.length)/\True) (lt (!vl (u76 (celI b (b.2.1.1.length-1)))||(lastX b).2.2.getD 1 0 != (b.2.2.length:Int)-1||!decide (b.2.1.2.1.getD (b.2.2.length-1) (dflt .str)=(lastX b).1)||(lastX b).2.2.getD 0 0==(b.2.2.length:Int)-1) fun v1=>_)=_;rw[r76,vS];have k1:(!bufV (celI b (b.2.1.1.length-1)))=false->(lastX b).2.2.length=2/\0<=(lastX b).2.2.getD 1 0:=fun h=>x2 (by simpa using h);rw[gP ⟨x1,rfl,(fun h=>⟨by omega,by have:=(k1 h.1).1; omega⟩),(fun h=>by
   have h2:=(Bool.or_eq_false_iff.1 h.1);have h3:=k1 h2.1;have h4:=bne_eq_false_iff_eq.1 h2.2;exact oo),(fun h=>⟨by omega,by have:=(k1 (Bool.or_eq_false_iff.1 (Bool.or_eq_false_iff.1 h.1).1).1).1; omega⟩),trivial⟩,lE]
  unfold bne;rw[bool_or4];show(if(!lastQ b)=true then some false else _)=_;cases hq:lastQ b with
  | false=>rfl
  | true =>
    refine(if_neg (by simp)).trans ?_;rw[if_pos rfl];have hq':=hq;unfold lastQ at hq';simp only[ba,beq_iff_eq] at hq';have h3:=x2 hq'.1.1.1;have h4:=hq'.1.1.2;have no:=o.wire (b.2.2.length-1) (by omega);have hsn:=no.sn;have e5:(((b.2.2.length-1:Nat)):Int)=(b.2.2.length:Int)-1:=by omega
    rw[e5] at hsn;have es:u73 b.2.1 ((b.2.2.length:Int)-1)=some (sinksV b.2.1 ((b.2.2.length:Int)-1)):=r73 b.2.1 hw.2.1 o.df _;rw[es,vS];rw[r102 (wirOf b (b.2.2.length-1)) no.wf.cap,vS,gP ⟨rfl,(fun _=>oo),(fun _=>rfl),trivial⟩,lE,<- hsn];show some (((lastW b).2.2.2.length:Int)==1&&(((lastW b).1.length:Int)==1&&(lastW b).2.2.1.getD 0 0==0))=_;rw[Bool.and_assoc]
theorem r124(b:Y51)(o:BOk b):u124 b=some (lastV b):=by
 have h30:=o.n30;have h14:=o.df.fac.ni14;have hn:=o.nets;have eS:u57 b.2.1.2.1=some (b.2.2.length:Int):=by rw[hn]; rfl
 unfold u124 lastV;by_cases h0:b.2.1.1.length=0
 ·rw[if_pos h0];exact if_pos (by simp[h0])
 ·rw[if_neg h0];obtain⟨x1,x2⟩:=last_facts o h0;refine(if_neg (by rw[beq_iff_eq]; omega)).trans ?_;have e1:((b.2.1.1.length:Int)-1).toNat=b.2.1.1.length-1:=by omega
  have e2:((b.2.2.length:Int)-1).toNat=b.2.2.length-1:=by omega
  rw[gP ⟨oo,oo,trivial⟩,lE,e1,eS,vS,gP ⟨rfl,oo,trivial⟩,lE,e2];show gd (ix (lastX b).2.1 b.1.length/\(u120 (celI b (b.2.1.1.length-1))).isSome=true/\((!vl (u120 (celI b (b.2.1.1.length-1))))=false/\True->ix 1 (lastX b).2.2.length)/\((!vl (u120 (celI b (b.2.1.1.length-1)))||(lastX b).2.2.getD 1 0 != (b.2.2.length:Int)-1)=false/\True->ix 0 (lastX b).2.2.length)/\((!vl (u120 (celI b (b.2.1.1.length-1)))||(lastX b).2.2.getD 1 0 != (b.2.2.length:Int)-1||(lastX b).2.2.getD 0 0==(b.2.2.length:Int)-1)=false/\True->ix ((b.2.2.length:Int)-1) b.2.1.2.1.length)/\True) (if(!vl (u120 (celI b (b.2.1.1.length-1)))||(lastX b).2.2.getD 1 0 != (b.2.2.length:Int)-1||(lastX b).2.2.getD 0 0==(b.2.2.length:Int)-1||!decide (b.2.1.2.1.getD (b.2.2.length-1) (dflt .str)=(lastX b).1))=true then some false else _)=_;rw[r120,vS];have k1:(!bufV (celI b (b.2.1.1.length-1)))=false->(lastX b).2.2.length=2/\0<=(lastX b).2.2.getD 1 0:=fun h=>x2 (by simpa using h);rw[gP ⟨x1,rfl,(fun h=>⟨by omega,by have:=(k1 h.1).1; omega⟩),(fun h=>⟨by omega,by have:=(k1 (Bool.or_eq_false_iff.1 h.1).1).1; omega⟩),(fun h=>by
   have h2:=(Bool.or_eq_false_iff.1 (Bool.or_eq_false_iff.1 h.1).1);have h3:=k1 h2.1;have h4:=bne_eq_false_iff_eq.1 h2.2;exact oo),trivial⟩]
  unfold bne;rw[bool_or4'];show(if(!lastQ b)=true then some false else _)=_;cases hq:lastQ b with
  | false=>rfl
  | true =>
    refine(if_neg (by simp)).trans ?_;rw[if_pos rfl];have hq':=hq;unfold lastQ at hq';simp only[ba,beq_iff_eq] at hq';have h3:=x2 hq'.1.1.1;have h4:=hq'.1.1.2;have no:=o.wire (b.2.2.length-1) (by omega);have hc:=no.wf.cap;have hc:(lastW b).2.2.1.length=(lastW b).1.length:=hc;rw[gP ⟨oo,trivial⟩,lE];show gd (((((lastW b).2.2.2.length:Int)==1&&((lastW b).1.length:Int)==1)=true/\True->ix 0 (lastW b).2.2.1.length)/\True) (some (((lastW b).2.2.2.length:Int)==1&&((lastW b).1.length:Int)==1&&(lastW b).2.2.1.getD 0 0==0))=_;exact gP ⟨(fun h=>⟨by omega,by have:=beq_iff_eq.1 (ba _ _ ▸ h.1).2; omega⟩),trivial⟩
def plE(b:Y51)(e:Y55):DPlace:=plcOf b.2.1 e.2.1.toNat
def stateV(b:Y51)(e:Y55):Bool :=
 if(e.1==1)=true then decide (0<=(plE b e).1)&&(plE b e).2.2.2&&alikeV (b.1.getD (insOf b.2.1 (plE b e).1.toNat).2.1.toNat (dflt y134)) (b.1.getD e.2.2.1.toNat (dflt y134))
 else if(e.1==2)=true then !(plE b e).2.2.2&&bufV (b.1.getD e.2.2.1.toNat (dflt y134))&&nmB e.2.2.2.2.2.1&&decide (insN b.2.1 e.2.2.2.2.2.1<0)&&decide (netN b.2.1 e.2.2.2.2.2.1<0)
 else if(e.1==3)=true then lastV b
 else if(e.1==4)=true then !(plE b e).2.2.2&&(plE b e).2.2.1 != e.2.2.2.1
 else wireB e.2.2.2.2.2.2 ((sinksV b.2.1 e.2.2.2.1).length:Int)
theorem pl_ix{b:Y51}{e:Y55}(h:inB e.2.1 0 (plN b-1)=true):ix e.2.1 (plcs b.2.1).length/\e.2.1.toNat < (plcs b.2.1).length:=by
 have:=inB_iff.1 h;unfold plN at this;exact⟨oo,by omega⟩
theorem ce_ix{b:Y51}{x:Int}(h:inB x 0 ((b.1.length:Int)-1)=true):ix x b.1.length:=by
 have:=inB_iff.1 h;exact oo
theorem ce_pin{b:Y51}(o:BOk b){x:Int}(h:ix x b.1.length):(b.1.getD x.toNat (dflt y134)).2.2.1.length<=9223372036854775807:=by
 have h1:x.toNat<b.1.length:=by have:=h.1; have:=h.2; omega
 have:=(cell_arcs (lib_cell' o.df.lib h1)).2.1;have:(b.1.getD x.toNat (dflt y134)).2.2.1.length<=5:=this;omega
theorem pl_inst{b:Y51}(o:BOk b){e:Y55}(h:e.2.1.toNat < (plcs b.2.1).length)(h0:0<=(plE b e).1):ix (plE b e).1 b.2.1.1.length/\ix (insOf b.2.1 (plE b e).1.toNat).2.1 b.1.length:=by
 rcases plc_pin o.df (plc_mem h) with h1 | ⟨h1,h2,h3,h4,_⟩
 ·have h1:(plE b e).1 = -1:=h1.1;omega
 ·have h1:0<=(plE b e).1:=h1;have h2:(plE b e).1.toNat<b.2.1.1.length:=h2;have h3:0<=(insOf b.2.1 (plE b e).1.toNat).2.1:=h3;have h4:(insOf b.2.1 (plE b e).1.toNat).2.1.toNat<b.1.length:=h4;exact⟨⟨h1,by omega⟩,⟨h3,by omega⟩⟩
theorem range_1{b:Y51}{e:Y55}(hr:rangeV b e=true)(h:(e.1==1||e.1==2)=true):inB e.2.1 0 (plN b-1)=true/\inB e.2.2.1 0 ((b.1.length:Int)-1)=true:=by
 unfold rangeV at hr;rw[if_pos h,ba] at hr;exact hr
theorem range_4{b:Y51}{e:Y55}(hr:rangeV b e=true)(h:e.1=4):inB e.2.1 0 (plN b-1)=true:=by
 unfold rangeV at hr;rw[if_neg (by rw[h]; decide),if_pos (by rw[h]; decide),ba,ba] at hr;exact hr.1.1
theorem range_5{b:Y51}{e:Y55}(hr:rangeV b e=true)(h:e.1=5):inB e.2.2.2.1 0 ((b.2.2.length:Int)-1)=true:=by
 unfold rangeV at hr;rw[if_neg (by rw[h]; decide),if_neg (by rw[h]; decide),if_pos (by rw[h]; decide)] at hr;exact hr
theorem r46(b:Y51)(hw:wf y51 b)(o:BOk b)(e:Y55)(he:wf y55 e)(hr:rangeV b e=true)(hk:inB e.1 1 5=true):u46 b e=some (stateV b e):=by
 have hk:=inB_iff.1 hk;unfold u46 stateV;rw[r47 b.2.1 hw.2.1 o.df.fac.ni14 o.df.fac.np8 o.df.pin,vS,gP ⟨rfl,trivial⟩,lE];by_cases h1:(e.1==1)=true
 ·rw[if_pos h1,if_pos h1];obtain⟨r1,r2⟩:=range_1 hr (by rw[h1]; rfl);have p1:=pl_ix r1;have c1:=ce_ix r2;rw[gP ⟨p1.1,p1.2,trivial⟩,lE];show gd (((decide (0<=(plE b e).1)&&(plE b e).2.2.2)=true/\True->ix (plE b e).1 b.2.1.1.length)/\((decide (0<=(plE b e).1)&&(plE b e).2.2.2)=true/\True->ix (insOf b.2.1 (plE b e).1.toNat).2.1 b.1.length)/\((decide (0<=(plE b e).1)&&(plE b e).2.2.2)=true/\True->ix e.2.2.1 b.1.length)/\((decide (0<=(plE b e).1)&&(plE b e).2.2.2)=true/\True->(u75 (b.1.getD (insOf b.2.1 (plE b e).1.toNat).2.1.toNat (dflt y134)) (b.1.getD e.2.2.1.toNat (dflt y134))).isSome=true)/\True) (some (decide (0<=(plE b e).1)&&(plE b e).2.2.2&&vl (u75 (b.1.getD (insOf b.2.1 (plE b e).1.toNat).2.1.toNat (dflt y134)) (b.1.getD e.2.2.1.toNat (dflt y134)))))=_;cases hc:(decide (0<=(plE b e).1)&&(plE b e).2.2.2) with
  | false=>exact gP ⟨(fun h=>by cases h.1),(fun h=>by cases h.1),(fun h=>by cases h.1),(fun h=>by cases h.1),trivial⟩
  | true =>
    rw[ba,dq] at hc;have q:=pl_inst o p1.2 hc.1;rw[r75 _ _ (ce_pin o q.2),vS];exact gP ⟨(fun _=>q.1),(fun _=>q.2),(fun _=>c1),(fun _=>rfl),trivial⟩
 rw[if_neg h1,if_neg h1];by_cases h2:(e.1==2)=true
 ·rw[if_pos h2,if_pos h2];obtain⟨r1,r2⟩:=range_1 hr (by rw[h2]; simp);have p1:=pl_ix r1;have c1:=ce_ix r2;have h14:=o.df.fac.ni14;have h30:=o.df.fac.nn30;rw[r76,vS,r77 _ he.2.2.2.2.2.1,vS,r78 _ _ (by omega),vS,r79 _ _ (by omega),vS,gP ⟨p1.1,p1.2,(fun _=>c1),(fun _=>rfl),(fun _=>rfl),(fun _=>rfl),(fun _=>rfl),trivial⟩,lE];rfl
 rw[if_neg h2,if_neg h2];by_cases h3:(e.1==3)=true
 ·rw[if_pos h3,if_pos h3,r80 b hw o,vS];exact gP ⟨rfl,trivial⟩
 rw[if_neg h3,if_neg h3];by_cases h4:(e.1==4)=true
 ·rw[if_pos h4,if_pos h4];have p1:=pl_ix (range_4 hr (beq_iff_eq.1 h4));exact gP ⟨p1.1,p1.2,(fun _=>p1.1),(fun _=>p1.2),trivial⟩
 rw[if_neg h4,if_neg h4];have es:u73 b.2.1 e.2.2.2.1=some (sinksV b.2.1 e.2.2.2.1):=r73 b.2.1 hw.2.1 o.df _;rw[es,vS,r72 _ _ he.2.2.2.2.2.2,gP ⟨rfl,rfl,trivial⟩,lE,r72 _ _ he.2.2.2.2.2.2,vS]
theorem r87(b:Y51)(hw:wf y51 b)(o:BOk b)(e:Y55)(he:wf y55 e)(hr:rangeV b e=true)(hk:inB e.1 1 5=true):u87 e b=some (stateV b e):=by
 have hk:=inB_iff.1 hk;unfold u87 stateV;rw[r56 b.2.1 hw.2.1 o.df.fac.ni14 o.df.fac.np8 o.df.pin,vS,gP ⟨rfl,trivial⟩,lE];by_cases h1:(e.1==1)=true
 ·rw[if_pos h1,if_pos h1];obtain⟨r1,r2⟩:=range_1 hr (by rw[h1]; rfl);have p1:=pl_ix r1;have c1:=ce_ix r2;rw[gP ⟨p1.1,p1.2,trivial⟩,lE];show gd (((decide (0<=(plE b e).1)&&(plE b e).2.2.2)=true/\True->ix (plE b e).1 b.2.1.1.length)/\((decide (0<=(plE b e).1)&&(plE b e).2.2.2)=true/\True->ix (insOf b.2.1 (plE b e).1.toNat).2.1 b.1.length)/\((decide (0<=(plE b e).1)&&(plE b e).2.2.2)=true/\True->ix e.2.2.1 b.1.length)/\((decide (0<=(plE b e).1)&&(plE b e).2.2.2)=true/\True->(u119 (b.1.getD (insOf b.2.1 (plE b e).1.toNat).2.1.toNat (dflt y134)) (b.1.getD e.2.2.1.toNat (dflt y134))).isSome=true)/\True) (some (decide (0<=(plE b e).1)&&(plE b e).2.2.2&&vl (u119 (b.1.getD (insOf b.2.1 (plE b e).1.toNat).2.1.toNat (dflt y134)) (b.1.getD e.2.2.1.toNat (dflt y134)))))=_;cases hc:(decide (0<=(plE b e).1)&&(plE b e).2.2.2) with
  | false=>exact gP ⟨(fun h=>by cases h.1),(fun h=>by cases h.1),(fun h=>by cases h.1),(fun h=>by cases h.1),trivial⟩
  | true =>
    rw[ba,dq] at hc;have q:=pl_inst o p1.2 hc.1;rw[r119 _ _ (ce_pin o q.2),vS];exact gP ⟨(fun _=>q.1),(fun _=>q.2),(fun _=>c1),(fun _=>rfl),trivial⟩
 rw[if_neg h1,if_neg h1];by_cases h2:(e.1==2)=true
 ·rw[if_pos h2,if_pos h2];obtain⟨r1,r2⟩:=range_1 hr (by rw[h2]; simp);have p1:=pl_ix r1;have c1:=ce_ix r2;have h14:=o.df.fac.ni14;have h30:=o.df.fac.nn30;rw[r120,vS,r121 _ he.2.2.2.2.2.1,vS,r122 _ _ (by omega),vS,r123 _ _ (by omega),vS,gP ⟨p1.1,p1.2,(fun _=>c1),(fun _=>rfl),(fun _=>rfl),(fun _=>rfl),(fun _=>rfl),trivial⟩,lE];rfl
 rw[if_neg h2,if_neg h2];by_cases h3:(e.1==3)=true
 ·rw[if_pos h3,if_pos h3,r124 b o,vS];exact gP ⟨rfl,trivial⟩
 rw[if_neg h3,if_neg h3];by_cases h4:(e.1==4)=true
 ·rw[if_pos h4,if_pos h4];have p1:=pl_ix (range_4 hr (beq_iff_eq.1 h4));exact gP ⟨p1.1,p1.2,(fun _=>p1.1),(fun _=>p1.2),trivial⟩
 rw[if_neg h4,if_neg h4];have h5:e.1=5:=by
  simp only[beq_iff_eq] at h1 h2 h3 h4;omega
 have hn:=inB_iff.1 (range_5 hr h5);have no:=o.wire e.2.2.2.1.toNat (by omega);have hsn:=no.sn;have e6:((e.2.2.2.1.toNat:Nat):Int)=e.2.2.2.1:=by omega
 rw[e6] at hsn;have eI:u111 (wirOf b e.2.2.2.1.toNat).2.2.2=some ((sinksV b.2.1 e.2.2.2.1).length:Int):=by rw[<- hsn]; rfl
 rw[eI,vS,r85 _ _ he.2.2.2.2.2.2,vS];exact gP ⟨oo,rfl,rfl,trivial⟩
def codeV(b:Y51)(e:Y55):Int :=
 if blockOk b=true then(if(blankV e&&rangeV b e)=true then(if stateV b e=true then(if(e.1==2&&((b.2.1.1.length:Int)==14||(b.2.2.length:Int)==30))=true then 3 else 0) else 5) else 2) else 1
theorem blank_in{e:Y55}(h:blankV e=true):inB e.1 1 5=true:=by
 rw[<- blank_own,ba] at h;exact h.1
theorem r21(b:Y51)(hw:wf y51 b)(hm:cnt y51 b<=1048576)(e:Y55)(he:wf y55 e)(hme:cnt y55 e<=1048576):u21 b e=some (codeV b e):=by
 unfold u21 codeV;rw[r43 b hw hm,vS,gP ⟨rfl,trivial⟩];cases hb:blockOk b with
 | false=>rfl
 | true =>
   have o:=b_ok hb;refine(if_neg (by simp)).trans ?_;rw[if_pos rfl,r44 e hme,vS,r45 b hw o e,vS,gP ⟨rfl,(fun _=>rfl),trivial⟩];cases h1:blankV e with
   | false=>rfl
   | true =>
     cases h2:rangeV b e with
     | false=>rfl
     | true =>
       refine(if_neg (by simp)).trans ?_;rw[if_pos (show(true&&true)=true from rfl),r46 b hw o e he h2 (blank_in h1),vS,gP ⟨rfl,trivial⟩];cases h3:stateV b e with
       | false=>rfl
       | true =>
         refine(if_neg (by simp)).trans ?_;rw[if_pos rfl];split <;> rfl
theorem r28(b:Y51)(hw:wf y51 b)(hm:cnt y51 b<=1048576)(e:Y55)(he:wf y55 e):u28 b e=some (codeV b e):=by
 unfold u28 codeV;rw[r53 b hw hm,vS,gP ⟨rfl,trivial⟩];cases hb:blockOk b with
 | false=>rfl
 | true =>
   have o:=b_ok hb;have hn:=o.nets;have key:u54 e b=some (if(blankV e&&rangeV b e)=true then(if stateV b e=true then(if(e.1==2&&((b.2.1.1.length:Int)==14||(b.2.2.length:Int)==30))=true then 3 else 0) else 5) else 2):=by
    unfold u54;rw[r86 b hw o e he,vS,gP ⟨rfl,trivial⟩];cases h1:blankV e with
    | false=>rfl
    | true =>
      cases h2:rangeV b e with
      | false=>rfl
      | true =>
        refine(if_neg (by simp)).trans ?_;rw[if_pos (show(true&&true)=true from rfl),r87 b hw o e he h2 (blank_in h1),vS,gP ⟨rfl,trivial⟩];cases h3:stateV b e with
        | false=>rfl
        | true =>
          refine(if_neg (by simp)).trans ?_;rw[if_pos rfl,hn];split <;> rfl
   refine(if_neg (by simp)).trans ?_;rw[if_pos rfl,key,vS,gP ⟨rfl,trivial⟩,lE]
end Go.Proofs.YtggbjmljfdpllaaGreatDoor
end
section
namespace Go.Proofs.Xd
open Go
theorem inc_ext:∀{l m:List Int},l.Pairwise (·<·)->m.Pairwise (·<·)->(∀y,y∈l↔y∈m)->l=m
 | [],[],_,_,_=>rfl
 | [],b :: m,_,_,h=>by have:=(h b).2 List.mem_cons_self; cases this
 | a :: l,[],_,_,h=>by have:=(h a).1 List.mem_cons_self; cases this
 | a :: l,b :: m,hl,hm,h=>by
   have hl1:=List.pairwise_cons.1 hl;have hm1:=List.pairwise_cons.1 hm;have hab:a=b:=by
    rcases List.mem_cons.1 ((h a).1 List.mem_cons_self) with e | ha
    ·exact e
    ·rcases List.mem_cons.1 ((h b).2 List.mem_cons_self) with e | hb
     ·exact e.symm
     ·have:=hm1.1 a ha;have:=hl1.1 b hb;omega
   subst hab;refine congrArg (a :: ·) (inc_ext hl1.2 hm1.2 fun y=>?_);constructor
   ·intro hy;rcases List.mem_cons.1 ((h y).1 (List.mem_cons_of_mem _ hy)) with e | hy'
    ·have:=hl1.1 y hy; omega
    ·exact hy'
   ·intro hy;rcases List.mem_cons.1 ((h y).2 (List.mem_cons_of_mem _ hy)) with e | hy'
    ·have:=hm1.1 y hy; omega
    ·exact hy'
theorem get_bang{l:List Int}{i:Nat}(h:i<l.length):l.toArray[i]! =l[i]:=by
 rw[getElem!_pos l.toArray i (by simpa using h)]; simp
theorem compact_inc{l:List Int}(hs:l.Pairwise (·<=·)):(Lib.compact l).Pairwise (·<·):=by
 unfold Lib.compact Lib.compactUpTo;refine List.pairwise_map.2 ?_;refine List.Pairwise.imp_of_mem (R:=fun i j:Nat=>i<j) (fun {i j} hi hj hij=>?_) (List.pairwise_lt_range.filter _);have hi':=List.mem_filter.1 hi;have hj':=List.mem_filter.1 hj;have hil:=List.mem_range.1 hi'.1;have hjl:=List.mem_range.1 hj'.1;have hk:Lib.keeps l.toArray j=true:=hj'.2;unfold Lib.keeps at hk;rw[dq] at hk;have hne:l.toArray[j]!≠l.toArray[j-1]!:=hk.resolve_left (by omega);rw[get_bang hjl,get_bang (by omega:j-1<l.length)] at hne;show l.toArray[i]!<l.toArray[j]!;rw[get_bang hil,get_bang hjl];have h1:l[j-1]<=l[j]:=List.pairwise_iff_getElem.1 hs (j-1) j (by omega) hjl (by omega);have h2:l[i]<=l[j-1]:=by
  by_cases e:i=j-1
  ·subst e; exact Int.le_refl _
  ·exact List.pairwise_iff_getElem.1 hs i (j-1) hil (by omega) (by omega)
 omega
theorem compact_iff{l:List Int}(y:Int):y∈Lib.compact l↔y∈l:=by
 constructor
 ·exact Xv.compact_mem
 ·intro hy;have key:∀i,(hi:i<l.length)->l[i]=y->y∈Lib.compact l:=by
   intro i
   induction i with
   | zero =>
     intro hi e;unfold Lib.compact Lib.compactUpTo;exact List.mem_map.2 ⟨0,List.mem_filter.2 ⟨List.mem_range.2 hi,by simp[Lib.keeps]⟩,by show l.toArray[0]! =y; rw[get_bang hi]; exact e⟩
   | succ i ih =>
     intro hi e;by_cases h:l[i]=y
     ·exact ih (by omega) h
     ·unfold Lib.compact Lib.compactUpTo;refine List.mem_map.2 ⟨i+1,List.mem_filter.2 ⟨List.mem_range.2 hi,?_⟩,by show l.toArray[i+1]! =y; rw[get_bang hi]; exact e⟩;unfold Lib.keeps;rw[dq];refine .inr ?_;rw[get_bang hi,Nat.add_sub_cancel,get_bang (by omega:i<l.length)];intro e';exact h (e'.symm.trans e)
  obtain⟨i,hi,e⟩:=List.mem_iff_getElem.1 hy;exact key i hi e
def inRow(n:Nat)(l:List Int):List Int:=((List.range n).filter fun i:Nat=>decide ((i:Int)∈l)).map fun i:Nat=>(i:Int)
theorem sort_compact{l:List Int}{n:Nat}(h:∀y∈l,0<=y/\y < (n:Int)):Lib.compact (l.mergeSort fun x y=>decide (x<=y))=inRow n l:=by
 have hs:(l.mergeSort fun x y=>decide (x<=y)).Pairwise (·<=·):=by
  have:=List.pairwise_mergeSort (le:=fun x y:Int=>decide (x<=y)) (fun a b c h1 h2=>by simp only[dq] at *; omega) (fun a b=>by simp only[Bool.or_eq_true,dq]; omega) l;exact this.imp fun {a b} hab=>by simpa using hab
 refine inc_ext (compact_inc hs) ?_ fun y=>?_
 ·unfold inRow;refine List.pairwise_map.2 ?_;exact List.Pairwise.imp (R:=fun i j:Nat=>i<j) (fun {i j} hij=>by omega) (List.pairwise_lt_range.filter _)
 ·rw[compact_iff,List.mem_mergeSort];unfold inRow;constructor
  ·intro hy;have:=h y hy;exact List.mem_map.2 ⟨y.toNat,List.mem_filter.2 ⟨List.mem_range.2 (by omega),by rw[dq,Int.toNat_of_nonneg this.1]; exact hy⟩,Int.toNat_of_nonneg this.1⟩
  ·intro hy;obtain⟨i,hi,rfl⟩:=List.mem_map.1 hy;simpa using (List.mem_filter.1 hi).2
end Go.Proofs.Xd
end
section
namespace Go.Proofs.YtggbjmljfdpllaaGreatDoor
open Go Go.Proofs Go.Proofs.Sv Go.Proofs.Xv Go.Proofs.Xl Go.Proofs.Xd
structure EOk(b:Y51)(e:Y55):Prop where
 hb:blockOk b=true
 bl:blankV e=true
 rg:rangeV b e=true
 st:stateV b e=true
theorem e_ok{b:Y51}{e:Y55}(h:codeV b e=0):EOk b e:=by
 unfold codeV at h;split at h
 ·rename_i hb;split at h
  ·rename_i h1;rw[ba] at h1;split at h
   ·rename_i h2;exact⟨hb,h1.1,h1.2,h2⟩
   ·cases h
  ·cases h
 ·cases h
section
variable {b:Y51} {e:Y55}
theorem EOk.place(h:EOk b e)(hk:e.1=1∨e.1=2∨e.1=4):ix e.2.1 (plcs b.2.1).length/\e.2.1.toNat < (plcs b.2.1).length/\plE b e∈plcs b.2.1:=by
 have hp:inB e.2.1 0 (plN b-1)=true:=by
  rcases hk with h1 | h1 | h1
  ·exact(range_1 h.rg (by rw[h1]; rfl)).1
  ·exact(range_1 h.rg (by rw[h1]; rfl)).1
  ·exact range_4 h.rg h1
 obtain⟨h1,h2⟩:=pl_ix hp;exact⟨h1,h2,plc_mem h2⟩
theorem EOk.net(h:EOk b e)(hk:e.1=4∨e.1=5):inB e.2.2.2.1 0 ((b.2.2.length:Int)-1)=true:=by
 rcases hk with h1 | h1
 ·have hr:=h.rg;unfold rangeV at hr;rw[if_neg (by rw[h1]; decide),if_pos (by rw[h1]; decide),ba,ba] at hr;exact hr.1.2
 ·exact range_5 h.rg h1
theorem EOk.kind(h:EOk b e):1<=e.1/\e.1<=5:=inB_iff.1 (blank_in h.bl)
def tnL(b:Y51)(e:Y55):List Int :=
 if(e.1==1)=true then(insOf b.2.1 (plE b e).1.toNat).2.2
 else if(e.1==2)=true then [(plE b e).2.2.1,(b.2.2.length:Int)]
 else if(e.1==3)=true then [(lastX b).2.2.getD 0 0]
 else if(e.1==4)=true then [(plE b e).2.2.1,e.2.2.2.1]
 else [e.2.2.2.1]
theorem EOk.inst(h:EOk b e)(hk:e.1=1):ix (plE b e).1 b.2.1.1.length/\(plE b e).1.toNat<b.2.1.1.length:=by
 have hs:=h.st;unfold stateV at hs;rw[if_pos (by rw[hk]; rfl)] at hs;simp only[ba,dq] at hs;obtain⟨h1,h2,h3⟩:=h.place (.inl hk);have h4:=(pl_inst (b_ok h.hb) h2 hs.1.1).1;exact⟨h4,by have:=h4.1; have:=h4.2; omega⟩
theorem EOk.last(h:EOk b e)(hk:e.1=3):¬b.2.1.1.length=0/\(lastX b).2.2.length=2:=by
 have hs:=h.st;unfold stateV at hs;rw[if_neg (by rw[hk]; decide),if_neg (by rw[hk]; decide),if_pos (by rw[hk]; decide)] at hs;unfold lastV at hs;split at hs
 ·cases hs
 ·rename_i h0;split at hs
  ·rename_i hq;unfold lastQ at hq;simp only[ba] at hq;exact⟨h0,((last_facts (b_ok h.hb) h0).2 hq.1.1.1).1⟩
  ·cases hs
theorem tn_in(h:EOk b e):∀y∈tnL b e,0<=y/\y < ((b.2.2.length+1:Nat):Int):=by
 have o:=b_ok h.hb;have on:=o.nets;have hk:=h.kind;have pl:e.1=1∨e.1=2∨e.1=4->inB (plE b e).2.2.1 0 ((b.2.1.2.1.length:Int)-1)=true:=fun hk=>o.df.plc _ (h.place hk).2.2;have key:∀y:Int,inB y 0 ((b.2.1.2.1.length:Int)-1)=true->0<=y/\y < ((b.2.2.length+1:Nat):Int):=fun y hy=>by
  have:=inB_iff.1 hy;omega
 have key2:∀y:Int,inB y 0 ((b.2.2.length:Int)-1)=true->0<=y/\y < ((b.2.2.length+1:Nat):Int):=fun y hy=>by
  have:=inB_iff.1 hy;omega
 intro y hy;unfold tnL at hy;split at hy
 ·rename_i h1;have h1:=beq_iff_eq.1 h1;obtain⟨k,hkk,e1⟩:=List.mem_iff_getElem.1 hy;have h2:=o.df.fac.net.1 _ (h.inst h1).2 k hkk;have e2:(insOf b.2.1 (plE b e).1.toNat).2.2.getD k 0=y:=by rw[gq,List.getElem?_eq_getElem hkk]; exact e1
  rw[e2] at h2;exact key _ h2
 split at hy
 ·rename_i h1;rcases List.mem_cons.1 hy with rfl | hy
  ·exact key _ (pl (.inr (.inl (beq_iff_eq.1 h1))))
  ·rcases List.mem_cons.1 hy with rfl | hy
   ·omega
   ·cases hy
 split at hy
 ·rename_i h1;rcases List.mem_cons.1 hy with rfl | hy
  ·obtain⟨h0,h2⟩:=h.last (beq_iff_eq.1 h1);exact key _ (o.df.fac.net.1 (b.2.1.1.length-1) (by omega) 0 (by show 0 < (lastX b).2.2.length; omega))
  ·cases hy
 split at hy
 ·rename_i h1;have h1:=beq_iff_eq.1 h1;rcases List.mem_cons.1 hy with rfl | hy
  ·exact key _ (pl (.inr (.inr h1)))
  ·rcases List.mem_cons.1 hy with rfl | hy
   ·exact key2 _ (h.net (.inl h1))
   ·cases hy
 ·rename_i h1 h2 h3 h4;rcases List.mem_cons.1 hy with rfl | hy
  ·refine key2 _ (h.net (.inr ?_));simp only[beq_iff_eq] at h1 h2 h3 h4;omega
  ·cases hy
end
def touV(b:Y51)(e:Y55):List Int:=if codeV b e=0 then inRow (b.2.2.length+1) (tnL b e) else []
end Go.Proofs.YtggbjmljfdpllaaGreatDoor
end

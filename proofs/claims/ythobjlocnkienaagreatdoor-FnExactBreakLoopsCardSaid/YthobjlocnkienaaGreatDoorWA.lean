/- Plain words on names: no program in sight. -/
import Derived.Test.YthobjlocnkienaaGreatDoorXA
import Derived.Lib.SlTrimSet
import Derived.Lib.Bytealg
import Derived.Test.YthobjlocnkienaaGreatDoorProg
import Derived.KernelRfl
import Derived.Test.YthobjlocnkienaaGreatDoorXK
import Derived.Test.YthobjlocnkienaaGreatDoorXB
import Derived.Test.YthobjlocnkienaaGreatDoorTY
section
namespace Go.Proofs.Sv
open Go
def lowB(c:Int):Bool:=decide (c≥97)&&decide (c<=122)
def digB(c:Int):Bool:=decide (c≥48)&&decide (c<=57)
def chB(c:Int)(i:Nat):Bool:=lowB c||(digB c&&decide (0<i))
def nmTo(s:ByteArray):Nat->Bool
 | 0=>true
 | k+1=>nmTo s k&&chB (byteAt s k) k
def nmB(s:ByteArray):Bool:=nmTo s s.size&&decide ((s.size:Int)≥1)&&decide ((s.size:Int)<=8)
theorem nmTo_mono(s:ByteArray)(k:Nat):∀j,k<=j->nmTo s j=true->nmTo s k=true:=by
 intro j hj h
 induction j with
 | zero=>have:k=0:=by omega
         subst this; rfl
 | succ j ih =>
   by_cases hk:k=j+1
   ·subst hk; exact h
   ·simp only[nmTo,ba] at h;exact ih (by omega) h.1
def low26:List UInt8:=[97,98,99,100,101,102,103,104,105,106,107,108,109,110,111,112,113,114,115,116,117,118,119,120,121,122]
def low36:List UInt8:=[97,98,99,100,101,102,103,104,105,106,107,108,109,110,111,112,113,114,115,116,117,118,119,120,121,122,48,49,50,51,52,53,54,55,56,57]
theorem low26_fin:∀n:Fin 256,low26.contains (UInt8.ofNat n.val)=lowB (n.val:Int):=by decide +kernel
theorem low36_fin:∀n:Fin 256,low36.contains (UInt8.ofNat n.val)=(lowB (n.val:Int)||digB (n.val:Int)):=by decide +kernel
theorem low26_mem(b:UInt8):low26.contains b=lowB (b.toNat:Int):=by
 have:=low26_fin ⟨b.toNat,b.toNat_lt⟩;simpa using this
theorem low36_mem(b:UInt8):low36.contains b=(lowB (b.toNat:Int)||digB (b.toNat:Int)):=by
 have:=low36_fin ⟨b.toNat,b.toNat_lt⟩;simpa using this
theorem indexByte_mem(c:UInt8):∀l:List UInt8,decide (0<=Lib.indexByte l c)=l.contains c
 | []=>by simp[Lib.indexByte]
 | b :: l=>by
   have ih:=indexByte_mem c l;have hg:=Lib.indexByte_ge l c;unfold Lib.indexByte;by_cases hb:b=c
   ·subst hb; simp
   ·have hb':¬c=b:=fun h=>hb h.symm;have e1:(b==c)=false:=by simpa using hb
    rw[e1,List.contains_cons,show(c==b)=false by simpa using hb',<- ih];by_cases h1:Lib.indexByte l c = -1
    ·simp[h1]
    ·have:(Lib.indexByte l c == -1)=false:=by simpa using h1
     rw[this];simp only[Bool.false_eq_true,if_false,Bool.false_or];rw[Bool.eq_iff_iff]; simp only[dq]; omega
theorem dropWhile_nil{α:Type}(p:α->Bool):∀l:List α,l.dropWhile p=[]↔∀x∈l,p x=true
 | []=>by simp
 | x :: r=>by
   rw[List.dropWhile_cons];by_cases h:p x=true
   ·simp[h,dropWhile_nil p r]
   ·simp[h]
theorem mem_takeWhile{α:Type}(p:α->Bool)(x:α):∀l:List α,x∈l.takeWhile p->p x=true
 | [],h=>by cases h
 | y :: r,h=>by
   rw[List.takeWhile_cons] at h;by_cases hy:p y=true
   ·rw[if_pos hy] at h;rcases List.mem_cons.1 h with rfl | h
    ·exact hy
    ·exact mem_takeWhile p x r h
   ·rw[if_neg hy] at h; cases h
theorem trimS_nil(l cs:List UInt8):Lib.trimS l cs=[]↔∀b∈l,cs.contains b=true:=by
 unfold Lib.trimS Lib.trimLeftS Lib.trimRightS;rw[dropWhile_nil];constructor
 ·intro h b hb;have e:l=(l.reverse.dropWhile (cs.contains ·)).reverse++(l.reverse.takeWhile (cs.contains ·)).reverse:=by
   rw[<- List.reverse_append,List.takeWhile_append_dropWhile,List.reverse_reverse]
  rw[e] at hb;rcases List.mem_append.1 hb with hb | hb
  ·exact h b hb
  ·have:=List.mem_reverse.1 hb;exact mem_takeWhile (cs.contains ·) b _ this
 ·intro h b hb;exact h b (by have:=(List.dropWhile_sublist _).mem (List.mem_reverse.1 hb); exact List.mem_reverse.1 this)
theorem nmTo_all(s:ByteArray)(h0:lowB (byteAt s 0)=true):∀k,k<=s.size->(nmTo s k=true↔∀i,i<k->(lowB (byteAt s i)||digB (byteAt s i))=true)
 | 0,_=>by simp[nmTo]
 | k+1,hk=>by
   have ih:=nmTo_all s h0 k (by omega);simp only[nmTo,ba,ih];constructor
   ·rintro⟨h1,h2⟩ i hi;by_cases hik:i=k
    ·subst hik;unfold chB at h2;cases hl:lowB (byteAt s i) with
     | true=>simp
     | false=>rw[hl] at h2; simp only[Bool.false_or,ba] at h2; simp[h2.1]
    ·exact h1 i (by omega)
   ·intro h;refine⟨fun i hi=>h i (by omega),?_⟩;have:=h k (by omega);unfold chB;by_cases hk0:k=0
    ·subst hk0; simp[h0]
    ·have hp:decide (0<k)=true:=by simp; omega
     rw[hp]; simpa using this
theorem trim_all(s:ByteArray):Lib.trimS s.data.toList low36=[]↔∀i,i<s.size->(lowB (byteAt s i)||digB (byteAt s i))=true:=by
 rw[trimS_nil];have hl:s.data.toList.length=s.size:=by simp
 constructor
 ·intro h i hi;have hi':i<s.data.toList.length:=by rw[hl]; exact hi
  have:=h s.data.toList[i] (List.getElem_mem hi');rw[low36_mem] at this;unfold byteAt;rw[gq,List.getElem?_eq_getElem hi'];exact this
 ·intro h b hb;obtain⟨i,hi,rfl⟩:=List.getElem_of_mem hb;have:=h i (by rw[<- hl]; exact hi);unfold byteAt at this;rw[gq,List.getElem?_eq_getElem hi] at this;rw[low36_mem]; exact this
theorem nmB_trim(s:ByteArray)(h1:1<=s.size)(h8:s.size<=8):nmB s=((Lib.trimS s.data.toList low36==[])&&decide (0<=Lib.indexByte low26 (byteAt s 0).toNat.toUInt8)):=by
 have e0:(byteAt s 0).toNat.toUInt8=s.data.toList.getD 0 0:=by unfold byteAt; simp
 rw[e0,indexByte_mem,low26_mem];show nmB s=(_&&lowB (byteAt s 0));have g1:decide ((s.size:Int)≥1)=true:=by simp; omega
 have g2:decide ((s.size:Int)<=8)=true:=by simp; omega
 unfold nmB;rw[g1,g2,Bool.and_true,Bool.and_true];cases h0:lowB (byteAt s 0) with
 | false =>
   rw[Bool.and_false];cases hn:nmTo s s.size with
   | false=>rfl
   | true =>
     have:=nmTo_mono s 1 s.size h1 hn;simp[nmTo,chB,h0] at this
 | true =>
   rw[Bool.and_true,Bool.eq_iff_iff,nmTo_all s h0 s.size (Nat.le_refl _),beq_iff_eq,trim_all]
end Go.Proofs.Sv
end
section
namespace Go.Proofs.YthobjlocnkienaaGreatDoor
open Go Go.Proofs Go.Proofs.Sv
instance:NotAgg Tryz.prog 2:=⟨by kernel_rfl⟩
instance:Info Tryz.prog 2 1 8 (.int .i64 0):=⟨by kernel_rfl⟩
instance:NotAgg Tryz.prog 3:=⟨by kernel_rfl⟩
instance:Info Tryz.prog 3 1 8 (.int .i64 0):=⟨by kernel_rfl⟩
instance:NotAgg Tryz.prog 4:=⟨by kernel_rfl⟩
instance:BoolT Tryz.prog 4:=⟨by kernel_rfl⟩
instance:Info Tryz.prog 4 1 1 (.bool false):=⟨by kernel_rfl⟩
instance:NotAgg Tryz.prog 5:=⟨by kernel_rfl⟩
instance:Info Tryz.prog 5 1 1 (.int .u8 0):=⟨by kernel_rfl⟩
instance:NotAgg Tryz.prog 9:=⟨by kernel_rfl⟩
instance:StringT Tryz.prog 9:=⟨by kernel_rfl⟩
instance:Info Tryz.prog 9 1 16 (.string ⟨#[]⟩):=⟨by kernel_rfl⟩
instance:NotAgg Tryz.prog 26:=⟨by kernel_rfl⟩
instance:SliceOf Tryz.prog 26 9:=⟨by kernel_rfl⟩
instance:Info Tryz.prog 26 1 24 (.slice none 0 0):=⟨by kernel_rfl⟩
instance:AggT Tryz.prog 32:=⟨by kernel_rfl⟩
instance:FieldAt Tryz.prog 32 0 0:=⟨by kernel_rfl⟩
instance:FieldAt Tryz.prog 32 1 1:=⟨by kernel_rfl⟩
instance:FieldAt Tryz.prog 32 2 4:=⟨by kernel_rfl⟩
instance:Info Tryz.prog 32 5 120 (.agg #[.slice none 0 0,.slice none 0 0,.slice none 0 0,.slice none 0 0,.slice none 0 0]):=⟨by kernel_rfl⟩
instance:NotAgg Tryz.prog 33:=⟨by kernel_rfl⟩
instance:SliceOf Tryz.prog 33 2:=⟨by kernel_rfl⟩
instance:Info Tryz.prog 33 1 24 (.slice none 0 0):=⟨by kernel_rfl⟩
instance:NotAgg Tryz.prog 37:=⟨by kernel_rfl⟩
instance:SliceOf Tryz.prog 37 148:=⟨by kernel_rfl⟩
instance:Info Tryz.prog 37 1 24 (.slice none 0 0):=⟨by kernel_rfl⟩
instance:AggT Tryz.prog 39:=⟨by kernel_rfl⟩
instance:FieldAt Tryz.prog 39 0 0:=⟨by kernel_rfl⟩
instance:Info Tryz.prog 39 1 24 (.agg #[.slice none 0 0]):=⟨by kernel_rfl⟩
instance:NotAgg Tryz.prog 40:=⟨by kernel_rfl⟩
instance:SliceOf Tryz.prog 40 150:=⟨by kernel_rfl⟩
instance:Info Tryz.prog 40 1 24 (.slice none 0 0):=⟨by kernel_rfl⟩
instance:NotAgg Tryz.prog 41:=⟨by kernel_rfl⟩
instance:SliceOf Tryz.prog 41 190:=⟨by kernel_rfl⟩
instance:Info Tryz.prog 41 1 24 (.slice none 0 0):=⟨by kernel_rfl⟩
instance:AggT Tryz.prog 43:=⟨by kernel_rfl⟩
instance:FieldAt Tryz.prog 43 0 0:=⟨by kernel_rfl⟩
instance:FieldAt Tryz.prog 43 1 1:=⟨by kernel_rfl⟩
instance:FieldAt Tryz.prog 43 2 2:=⟨by kernel_rfl⟩
instance:Info Tryz.prog 43 3 72 (.agg #[.slice none 0 0,.slice none 0 0,.slice none 0 0]):=⟨by kernel_rfl⟩
instance:NotAgg Tryz.prog 44:=⟨by kernel_rfl⟩
instance:SliceOf Tryz.prog 44 126:=⟨by kernel_rfl⟩
instance:Info Tryz.prog 44 1 24 (.slice none 0 0):=⟨by kernel_rfl⟩
instance:AggT Tryz.prog 46:=⟨by kernel_rfl⟩
instance:FieldAt Tryz.prog 46 0 0:=⟨by kernel_rfl⟩
instance:FieldAt Tryz.prog 46 1 1:=⟨by kernel_rfl⟩
instance:FieldAt Tryz.prog 46 2 4:=⟨by kernel_rfl⟩
instance:Info Tryz.prog 46 5 120 (.agg #[.slice none 0 0,.slice none 0 0,.slice none 0 0,.slice none 0 0,.slice none 0 0]):=⟨by kernel_rfl⟩
instance:AggT Tryz.prog 126:=⟨by kernel_rfl⟩
instance:FieldAt Tryz.prog 126 0 0:=⟨by kernel_rfl⟩
instance:FieldAt Tryz.prog 126 1 1:=⟨by kernel_rfl⟩
instance:FieldAt Tryz.prog 126 2 2:=⟨by kernel_rfl⟩
instance:FieldAt Tryz.prog 126 3 3:=⟨by kernel_rfl⟩
instance:Info Tryz.prog 126 4 96 (.agg #[.slice none 0 0,.slice none 0 0,.slice none 0 0,.slice none 0 0]):=⟨by kernel_rfl⟩
instance:NotAgg Tryz.prog 145:=⟨by kernel_rfl⟩
instance:SliceOf Tryz.prog 145 222:=⟨by kernel_rfl⟩
instance:Info Tryz.prog 145 1 24 (.slice none 0 0):=⟨by kernel_rfl⟩
instance:NotAgg Tryz.prog 146:=⟨by kernel_rfl⟩
instance:SliceOf Tryz.prog 146 153:=⟨by kernel_rfl⟩
instance:Info Tryz.prog 146 1 24 (.slice none 0 0):=⟨by kernel_rfl⟩
instance:AggT Tryz.prog 148:=⟨by kernel_rfl⟩
instance:FieldAt Tryz.prog 148 0 0:=⟨by kernel_rfl⟩
instance:FieldAt Tryz.prog 148 1 1:=⟨by kernel_rfl⟩
instance:FieldAt Tryz.prog 148 2 2:=⟨by kernel_rfl⟩
instance:FieldAt Tryz.prog 148 3 3:=⟨by kernel_rfl⟩
instance:FieldAt Tryz.prog 148 4 4:=⟨by kernel_rfl⟩
instance:FieldAt Tryz.prog 148 5 5:=⟨by kernel_rfl⟩
instance:FieldAt Tryz.prog 148 6 6:=⟨by kernel_rfl⟩
instance:Info Tryz.prog 148 7 112 (.agg #[.string ⟨#[]⟩,.int .i64 0,.slice none 0 0,.slice none 0 0,.slice none 0 0,.int .i64 0,.int .i64 0]):=⟨by kernel_rfl⟩
instance:AggT Tryz.prog 150:=⟨by kernel_rfl⟩
instance:FieldAt Tryz.prog 150 0 0:=⟨by kernel_rfl⟩
instance:FieldAt Tryz.prog 150 1 1:=⟨by kernel_rfl⟩
instance:FieldAt Tryz.prog 150 2 2:=⟨by kernel_rfl⟩
instance:Info Tryz.prog 150 3 48 (.agg #[.string ⟨#[]⟩,.int .i64 0,.slice none 0 0]):=⟨by kernel_rfl⟩
instance:NotAgg Tryz.prog 151:=⟨by kernel_rfl⟩
instance:SliceOf Tryz.prog 151 261:=⟨by kernel_rfl⟩
instance:Info Tryz.prog 151 1 24 (.slice none 0 0):=⟨by kernel_rfl⟩
instance:AggT Tryz.prog 153:=⟨by kernel_rfl⟩
instance:FieldAt Tryz.prog 153 0 0:=⟨by kernel_rfl⟩
instance:FieldAt Tryz.prog 153 1 1:=⟨by kernel_rfl⟩
instance:FieldAt Tryz.prog 153 2 2:=⟨by kernel_rfl⟩
instance:FieldAt Tryz.prog 153 3 3:=⟨by kernel_rfl⟩
instance:FieldAt Tryz.prog 153 4 4:=⟨by kernel_rfl⟩
instance:FieldAt Tryz.prog 153 5 5:=⟨by kernel_rfl⟩
instance:Info Tryz.prog 153 6 80 (.agg #[.int .i64 0,.int .i64 0,.int .i64 0,.int .i64 0,.slice none 0 0,.slice none 0 0]):=⟨by kernel_rfl⟩
instance:AggT Tryz.prog 190:=⟨by kernel_rfl⟩
instance:FieldAt Tryz.prog 190 0 0:=⟨by kernel_rfl⟩
instance:FieldAt Tryz.prog 190 1 1:=⟨by kernel_rfl⟩
instance:FieldAt Tryz.prog 190 2 2:=⟨by kernel_rfl⟩
instance:Info Tryz.prog 190 3 32 (.agg #[.string ⟨#[]⟩,.int .i64 0,.int .i64 0]):=⟨by kernel_rfl⟩
instance:AggT Tryz.prog 222:=⟨by kernel_rfl⟩
instance:FieldAt Tryz.prog 222 0 0:=⟨by kernel_rfl⟩
instance:FieldAt Tryz.prog 222 1 1:=⟨by kernel_rfl⟩
instance:FieldAt Tryz.prog 222 2 2:=⟨by kernel_rfl⟩
instance:FieldAt Tryz.prog 222 3 3:=⟨by kernel_rfl⟩
instance:Info Tryz.prog 222 4 40 (.agg #[.string ⟨#[]⟩,.int .i64 0,.int .i64 0,.bool false]):=⟨by kernel_rfl⟩
instance:NotAgg Tryz.prog 229:=⟨by kernel_rfl⟩
instance:SliceOf Tryz.prog 229 5:=⟨by kernel_rfl⟩
instance:Info Tryz.prog 229 1 24 (.slice none 0 0):=⟨by kernel_rfl⟩
instance:AggT Tryz.prog 261:=⟨by kernel_rfl⟩
instance:FieldAt Tryz.prog 261 0 0:=⟨by kernel_rfl⟩
instance:FieldAt Tryz.prog 261 1 1:=⟨by kernel_rfl⟩
instance:FieldAt Tryz.prog 261 2 2:=⟨by kernel_rfl⟩
instance:Info Tryz.prog 261 3 72 (.agg #[.slice none 0 0,.slice none 0 0,.slice none 0 0]):=⟨by kernel_rfl⟩
instance:HasBody Tryz.prog 10:=⟨by kernel_rfl⟩
instance:HasBody Tryz.prog 11:=⟨by kernel_rfl⟩
instance:HasBody Tryz.prog 12:=⟨by kernel_rfl⟩
instance:HasBody Tryz.prog 13:=⟨by kernel_rfl⟩
instance:HasBody Tryz.prog 14:=⟨by kernel_rfl⟩
instance:HasBody Tryz.prog 15:=⟨by kernel_rfl⟩
instance:HasBody Tryz.prog 16:=⟨by kernel_rfl⟩
instance:HasBody Tryz.prog 17:=⟨by kernel_rfl⟩
instance:HasBody Tryz.prog 18:=⟨by kernel_rfl⟩
instance:HasBody Tryz.prog 19:=⟨by kernel_rfl⟩
instance:HasBody Tryz.prog 20:=⟨by kernel_rfl⟩
instance:HasBody Tryz.prog 21:=⟨by kernel_rfl⟩
instance:HasBody Tryz.prog 22:=⟨by kernel_rfl⟩
instance:HasBody Tryz.prog 23:=⟨by kernel_rfl⟩
instance:HasBody Tryz.prog 24:=⟨by kernel_rfl⟩
instance:HasBody Tryz.prog 25:=⟨by kernel_rfl⟩
instance:HasBody Tryz.prog 33:=⟨by kernel_rfl⟩
instance:HasBody Tryz.prog 34:=⟨by kernel_rfl⟩
instance:HasBody Tryz.prog 49:=⟨by kernel_rfl⟩
instance:HasBody Tryz.prog 50:=⟨by kernel_rfl⟩
instance:HasBody Tryz.prog 51:=⟨by kernel_rfl⟩
instance:HasBody Tryz.prog 93:=⟨by kernel_rfl⟩
instance:HasBody Tryz.prog 94:=⟨by kernel_rfl⟩
instance:HasBody Tryz.prog 95:=⟨by kernel_rfl⟩
instance:HasBody Tryz.prog 96:=⟨by kernel_rfl⟩
instance:HasBody Tryz.prog 143:=⟨by kernel_rfl⟩
instance:HasBody Tryz.prog 144:=⟨by kernel_rfl⟩
instance:HasBody Tryz.prog 145:=⟨by kernel_rfl⟩
instance:HasBody Tryz.prog 179:=⟨by kernel_rfl⟩
end Go.Proofs.YthobjlocnkienaaGreatDoor
end
section
namespace Go.Proofs.YthobjlocnkienaaGreatDoor
open Go Go.Proofs Go.Proofs.Sv Go.Proofs.Xv Go.RowKit
attribute [local irreducible] VS VO VQ VH FinS seqQ blkQ loopQ RunsOp RunsU
attribute [local simp] spl reps Value.cells
instance:Mixed Tryz.prog:=⟨by kernel_rfl⟩
instance:ByteT Tryz.prog 5:=⟨by kernel_rfl⟩
instance:IntT Tryz.prog 3:=⟨by kernel_rfl⟩
instance:IntT Tryz.prog 2:=⟨by kernel_rfl⟩
theorem pow_step{k:Int}{n:Nat}(hk:0<k)(h:k*(10:Int) ^ n<=9223372036854775807):n<=18/\k.tdiv 10*(10:Int) ^ (n+1)<=9223372036854775807:=by
 have hp:(0:Int) < (10:Int) ^ n:=Int.pow_pos (by decide);constructor
 ·rcases Nat.lt_or_ge 18 n with hn | hn
  ·have h19:(10:Int) ^ 19<=(10:Int) ^ n:=by
    have h0:10 ^ 19<=10 ^ n:=Nat.pow_le_pow_right (n:=10) (by decide) (by omega:19<=n)
    exact_mod_cast h0
   have h1:(1:Int)*(10:Int) ^ n<=k*(10:Int) ^ n:=Int.mul_le_mul_of_nonneg_right (by omega) (by omega);have:(10:Int) ^ 19=10000000000000000000:=by decide
   omega
  ·exact hn
 ·have e:k.tdiv 10*(10:Int) ^ (n+1)=(k.tdiv 10*10)*(10:Int) ^ n:=by rw[Int.pow_succ,Int.mul_comm ((10:Int) ^ n) 10,<- Int.mul_assoc]
  have h2:k.tdiv 10*10<=k:=by
   rw[Int.tdiv_eq_ediv_of_nonneg (by omega)];omega
  rw[e];exact Int.le_trans (Int.mul_le_mul_of_nonneg_right h2 (by omega)) h
set_option maxHeartbeats 2000000 in
theorem cText{k:Int}{w:World}(hk:InI k):Calls Tryz.prog 143 #[.int .i64 k] w fun en w'=>∃s,en=.returned (.string s)/\s.size<=9223372036854775807/\Ext w w':=by
 have hb:Below w.heap.size w w:=Below.refl _ _;refine calls_vs Tryz.func143 Tryz.ntmps143 rfl rfl ?_
 (repeat (first | refine vo_pure rfl rfl ?_ | refine vs_seq ?_ | refine vs_region ?_ | refine oN ?_ | refine nQ ?_ | refine vs_skip ?_ | refine vs_block ?_ | refine vs_ret ?_ | refine fin_seq_ret ?_ | refine fin_blk ?_ | refine vs_exit ?_ | refine fin_seq_exit ?_ | refine fin_loop_exit ?_ | refine fin_blk_exit rfl ?_))
 refine vs_cond rfl (fun hc=>?_) (fun hc=>?_)
 · (repeat (first | refine vo_pure rfl rfl ?_ | refine vs_seq ?_ | refine vs_region ?_ | refine oN ?_ | refine nQ ?_ | refine vs_skip ?_ | refine vs_block ?_ | refine vs_ret ?_ | refine fin_seq_ret ?_ | refine fin_blk ?_ | refine vs_exit ?_ | refine fin_seq_exit ?_ | refine fin_loop_exit ?_ | refine fin_blk_exit rfl ?_))
   (first | refine fin_ret1 Tryz.results143 rfl ?_ | refine fin_end1 Tryz.results143 rfl ?_ | refine fin_ret2 Tryz.results143 rfl rfl ?_ | refine fin_retC1 Tryz.results143 rfl (by assumption) rfl rfl ?_ | refine fin_retC Tryz.results143 rfl (by assumption) rfl ?_)
   exact⟨_,rfl,by decide,hb⟩
 · (repeat (first | refine vo_pure rfl rfl ?_ | refine vs_seq ?_ | refine vs_region ?_ | refine oN ?_ | refine nQ ?_ | refine vs_skip ?_ | refine vs_block ?_ | refine vs_ret ?_ | refine fin_seq_ret ?_ | refine fin_blk ?_ | refine vs_exit ?_ | refine fin_seq_exit ?_ | refine fin_loop_exit ?_ | refine fin_blk_exit rfl ?_))
   have hk0:0<k:=by simp at hc; omega
   refine vs_loop (fun s:Int×ByteArray=>(3,.string s.2) :: (0,.int .i64 s.1) :: []) (fun s w'=>0<=s.1/\s.1<=9223372036854775807/\s.1*(10:Int) ^ s.2.size<=9223372036854775807/\(s.1=0->s.2.size<=19)/\Below w.heap.size w w') (fun s=>s.1.toNat) (k,⟨#[]⟩) ⟨by omega,hk.2,by show k*(10:Int) ^ 0<=_; rw[Int.pow_zero,Int.mul_one]; exact hk.2,fun _=>Nat.zero_le _,hb⟩ (by ((repeat (refine sub_cons rfl ?_)); exact sub_nil)) ?_;rintro⟨m,s⟩ w1 ⟨h1,h2,h3,h4,hb⟩;dsimp only at h1 h2 h3 h4
   (repeat (first | refine vo_pure rfl rfl ?_ | refine vs_seq ?_ | refine vs_region ?_ | refine oN ?_ | refine nQ ?_ | refine vs_skip ?_ | refine vs_block ?_ | refine vs_ret ?_ | refine fin_seq_ret ?_ | refine fin_blk ?_ | refine vs_exit ?_ | refine fin_seq_exit ?_ | refine fin_loop_exit ?_ | refine fin_blk_exit rfl ?_))
   refine vs_cond rfl (fun hc=>?_) (fun hc=>?_)
   ·have hm:0<m:=by simpa using hc
    obtain⟨q1,q2⟩:=pow_step hm h3
    (repeat (first | refine vo_pure rfl rfl ?_ | refine vs_seq ?_ | refine vs_region ?_ | refine oN ?_ | refine nQ ?_ | refine vs_skip ?_ | refine vs_block ?_ | refine vs_ret ?_ | refine fin_seq_ret ?_ | refine fin_blk ?_ | refine vs_exit ?_ | refine fin_seq_exit ?_ | refine fin_loop_exit ?_ | refine fin_blk_exit rfl ?_))
    have r1:=Int.tmod_nonneg 10 h1;have r2:=Int.tmod_lt_of_pos m (show(0:Int)<10 by decide);have d1:0<=m.tdiv 10:=Int.tdiv_nonneg h1 (by decide);have d2:m.tdiv 10<m:=by
     rw[Int.tdiv_eq_ediv_of_nonneg h1];omega
    refine vo_val _ (runs_rem (a:=m) rfl rfl (show(10:Int)≠0 by decide)) rfl ?_;refine vo_val _ (runs_add rfl rfl (by omega)) rfl ?_;refine vo_val _ (runs_toByte rfl) rfl ?_
    (refine vo_buildSlice rfl rfl rfl rfl rfl ?_; intro b1 w1 hN B1; have zz:=hN.eq; have zz:=hN.size; have hE:=hN.ext; replace hb:=hb.trans (hE.mono hb.size))
    refine vo_val _ (runs_toStr (ms:=[((48:Int)+m.tmod 10) % 256]) rfl rfl B1.at) rfl ?_;have hz:(strOfNums [((48:Int)+m.tmod 10) % 256]).size=1:=rfl;generalize strOfNums [((48:Int)+m.tmod 10) % 256]=c at hz
    (repeat (first | refine vo_pure rfl rfl ?_ | refine vs_seq ?_ | refine vs_region ?_ | refine oN ?_ | refine nQ ?_ | refine vs_skip ?_ | refine vs_block ?_ | refine vs_ret ?_ | refine fin_seq_ret ?_ | refine fin_blk ?_ | refine vs_exit ?_ | refine fin_seq_exit ?_ | refine fin_loop_exit ?_ | refine fin_blk_exit rfl ?_))
    refine vo_val _ (runs_cat rfl rfl (by show c.size+s.size<=_; omega)) rfl ?_
    (repeat (first | refine vo_pure rfl rfl ?_ | refine vs_seq ?_ | refine vs_region ?_ | refine oN ?_ | refine nQ ?_ | refine vs_skip ?_ | refine vs_block ?_ | refine vs_ret ?_ | refine fin_seq_ret ?_ | refine fin_blk ?_ | refine vs_exit ?_ | refine fin_seq_exit ?_ | refine fin_loop_exit ?_ | refine fin_blk_exit rfl ?_))
    refine vo_val _ (runs_quo rfl rfl ⟨by omega,h2⟩ (show(0:Int)<10 by decide)) rfl ?_
    (repeat (first | refine vo_pure rfl rfl ?_ | refine vs_seq ?_ | refine vs_region ?_ | refine oN ?_ | refine nQ ?_ | refine vs_skip ?_ | refine vs_block ?_ | refine vs_ret ?_ | refine fin_seq_ret ?_ | refine fin_blk ?_ | refine vs_exit ?_ | refine fin_seq_exit ?_ | refine fin_loop_exit ?_ | refine fin_blk_exit rfl ?_))
    refine fin_loop (m.tdiv 10,c++s) ⟨d1,by show m.tdiv 10<=_; omega,?_,?_,hb⟩ (by show(m.tdiv 10).toNat<m.toNat; omega) (by ((repeat (refine sub_cons rfl ?_)); exact sub_nil))
    ·show m.tdiv 10*(10:Int) ^ (c++s).size<=_;rw[ByteArray.size_append,hz,Nat.add_comm];exact q2
    ·intro _;show(c++s).size<=19;rw[ByteArray.size_append,hz];omega
   ·have hm:m=0:=by
     have:¬(0<m):=by simpa using hc
     omega
    have hs:=h4 hm
    (repeat (first | refine vo_pure rfl rfl ?_ | refine vs_seq ?_ | refine vs_region ?_ | refine oN ?_ | refine nQ ?_ | refine vs_skip ?_ | refine vs_block ?_ | refine vs_ret ?_ | refine fin_seq_ret ?_ | refine fin_blk ?_ | refine vs_exit ?_ | refine fin_seq_exit ?_ | refine fin_loop_exit ?_ | refine fin_blk_exit rfl ?_))
    refine vo_val _ (runs_cat rfl rfl (by show(ByteArray.mk #[109]).size+s.size<=_; have:(ByteArray.mk #[109]).size=1:=rfl; omega)) rfl ?_
    (repeat (first | refine vo_pure rfl rfl ?_ | refine vs_seq ?_ | refine vs_region ?_ | refine oN ?_ | refine nQ ?_ | refine vs_skip ?_ | refine vs_block ?_ | refine vs_ret ?_ | refine fin_seq_ret ?_ | refine fin_blk ?_ | refine vs_exit ?_ | refine fin_seq_exit ?_ | refine fin_loop_exit ?_ | refine fin_blk_exit rfl ?_))
    (first | refine fin_ret1 Tryz.results143 rfl ?_ | refine fin_end1 Tryz.results143 rfl ?_ | refine fin_ret2 Tryz.results143 rfl rfl ?_ | refine fin_retC1 Tryz.results143 rfl (by assumption) rfl rfl ?_ | refine fin_retC Tryz.results143 rfl (by assumption) rfl ?_)
    refine⟨_,rfl,?_,hb⟩;show(ByteArray.mk #[109]++s).size<=_;rw[ByteArray.size_append];have:(ByteArray.mk #[109]).size=1:=rfl;omega
theorem tC:TxC Tryz.prog 143:=fun _ _ h=>cText h
set_option maxHeartbeats 2000000 in
theorem m18:MkS Tryz.prog 18 (.sl (.int .i64)):=by
 intro F w u x k hF0 hS h0 hk;have hS0:=hS;obtain⟨p,cap,hu,hcap,hmax,_⟩:=hS0;simp only[List.cons.injEq,and_true] at hu;subst hu;have hall:=cntP_all (.int .i64) x;refine calls_vs Tryz.func18 Tryz.ntmps18 rfl rfl ?_;refine ra ?_;refine pu ?_;refine oN (nQ (vs_seq (ra ?_)));refine pu ?_;refine oN (nQ (vs_block ?_));refine vs_loop (fun i:Nat=>(1,.int .i64 (k+(cntP (.int .i64) x i:Int))) :: (5,.int .i64 (i:Int)) :: (0,.slice p x.length cap) :: []) (fun i w'=>i<=x.length/\WM F w w') (fun i=>x.length-i) 0 ⟨Nat.zero_le _,WM.refl F w⟩ (by rw[cntP_zero]; simp only[Int.natCast_zero,Int.add_zero]; ((repeat (refine sub_cons rfl ?_)); exact sub_nil)) ?_;rintro i w1 ⟨hi,hm⟩;have hle:=cntP_le (.int .i64) x i hi;refine vs_seq (ra ?_);refine pu ?_;refine pu ?_;refine vo_val _ (runs_lenL rfl) rfl ?_;refine pu ?_;refine oN (nQ ?_);refine vs_cond rfl (fun hc=>?_) (fun hc=>?_)
 ·have hlt:i<x.length:=by simpa using hc
  obtain⟨_,b,o,c,rfl,hF,hU,hat,hs⟩:=SH.get hS hlt;have hsu:=cntP_succ (e:=(.int .i64)) (xs:=x) hlt;have hle1:=cntP_le (.int .i64) x (i+1) (by omega);generalize x[i]=y at hs hsu;obtain⟨z0,rfl,_,_⟩:=hs;have hy:cntM (.int .i64) y=1:=rfl;refine vs_skip (nQ (vs_seq (vs_block ?_)));refine ra ?_;refine pu ?_;refine pu ?_;refine pu ?_;refine im hlt ?_;refine si hm hF hU (hat 0 _ rfl) fun w2 hm=>?_;refine rc ?_;refine pu ?_;refine ad ?_;refine pu ?_;refine rd' ?_;refine pu ?_;refine ad ?_;refine pu ?_;refine oN ?_;have he:k+((cntP (.int .i64) x (i+1):Nat):Int)=((k+(cntP (.int .i64) x i:Int))+1):=by rw[hsu,hy]; omega
  refine fin_loop (i+1) ⟨by omega,hm⟩ (by omega) (by rw[he,Int.natCast_succ]; ((repeat (refine sub_cons rfl ?_)); exact sub_nil))
 ·have hge:i=x.length:=by
   have:¬i<x.length:=by simpa using hc
   omega
  subst hge;refine vs_exit (fin_seq_exit (fin_loop_exit (fin_blk_exit rfl (nQ (ra ?_)))));refine pu ?_;refine pu ?_;refine oN (nQ (vs_ret ?_));refine fin_ret1 Tryz.results18 rfl ?_;rw[hall];exact⟨rfl,hm⟩
set_option maxHeartbeats 2000000 in
theorem m179:MkS Tryz.prog 179 (.sl y261):=by
 intro F w u x k hF0 hS h0 hk;have hS0:=hS;obtain⟨p,cap,hu,hcap,hmax,_⟩:=hS0;simp only[List.cons.injEq,and_true] at hu;subst hu;have hall:=cntP_all y261 x;refine calls_vs Tryz.func179 Tryz.ntmps179 rfl rfl ?_;refine ra ?_;refine pu ?_;refine oN (nQ (vs_seq (ra ?_)));refine pu ?_;refine oN (nQ (vs_block ?_));refine vs_loop (fun i:Nat=>(1,.int .i64 (k+(cntP y261 x i:Int))) :: (5,.int .i64 (i:Int)) :: (0,.slice p x.length cap) :: []) (fun i w'=>i<=x.length/\WM F w w') (fun i=>x.length-i) 0 ⟨Nat.zero_le _,WM.refl F w⟩ (by rw[cntP_zero]; simp only[Int.natCast_zero,Int.add_zero]; ((repeat (refine sub_cons rfl ?_)); exact sub_nil)) ?_;rintro i w1 ⟨hi,hm⟩;have hle:=cntP_le y261 x i hi;refine vs_seq (ra ?_);refine pu ?_;refine pu ?_;refine vo_val _ (runs_lenL rfl) rfl ?_;refine pu ?_;refine oN (nQ ?_);refine vs_cond rfl (fun hc=>?_) (fun hc=>?_)
 ·have hlt:i<x.length:=by simpa using hc
  obtain⟨_,b,o,c,rfl,hF,hU,hat,hs⟩:=SH.get hS hlt;have hsu:=cntP_succ (e:=y261) (xs:=x) hlt;have hle1:=cntP_le y261 x (i+1) (by omega);generalize x[i]=y at hs hsu;obtain⟨_,_,rfl,q0,⟨_,_,rfl,q1,q2⟩⟩:=hs;have r0:=q0;obtain⟨_,_,rfl,_⟩:=r0;have r1:=q1;obtain⟨_,_,rfl,_⟩:=r1;have r2:=q2;obtain⟨_,_,rfl,_⟩:=r2;have hy:cntM y261 y=(cntM (.sl (.int .i64)) y.1+(cntM (.sl (.int .i64)) y.2.1+cntM (.sl (.int .i64)) y.2.2)):=rfl;refine vs_skip (nQ (vs_seq (vs_block ?_)));refine ra ?_;refine pu ?_;refine pu ?_;refine im hlt ?_;refine fm ?_;refine lm hm hF (hat 0 _ rfl) ?_;refine pu ?_;refine mc m18 hF0 hm q0 fun w2 hm _=>?_;refine pu ?_;refine rb ?_;refine pu ?_;refine pu ?_;refine im hlt ?_;refine fm ?_;refine lm hm hF (hat 1 _ rfl) ?_;refine pu ?_;refine mc m18 hF0 hm q1 fun w2 hm _=>?_;refine pu ?_;refine rc ?_;refine pu ?_;refine pu ?_;refine im hlt ?_;refine fm ?_;refine lm hm hF (hat 2 _ rfl) ?_;refine pu ?_;refine mc m18 hF0 hm q2 fun w2 hm _=>?_;refine pu ?_;refine rd' ?_;refine pu ?_;refine ad ?_;refine pu ?_;refine oN ?_;have he:k+((cntP y261 x (i+1):Nat):Int)=((((k+(cntP y261 x i:Int))+(cntM (.sl (.int .i64)) y.1:Int))+(cntM (.sl (.int .i64)) y.2.1:Int))+(cntM (.sl (.int .i64)) y.2.2:Int)):=by rw[hsu,hy]; omega
  refine fin_loop (i+1) ⟨by omega,hm⟩ (by omega) (by rw[he,Int.natCast_succ]; ((repeat (refine sub_cons rfl ?_)); exact sub_nil))
 ·have hge:i=x.length:=by
   have:¬i<x.length:=by simpa using hc
   omega
  subst hge;refine vs_exit (fin_seq_exit (fin_loop_exit (fin_blk_exit rfl (nQ (ra ?_)))));refine pu ?_;refine pu ?_;refine oN (nQ (vs_ret ?_));refine fin_ret1 Tryz.results179 rfl ?_;rw[hall];exact⟨rfl,hm⟩
set_option maxHeartbeats 2000000 in
theorem m145:MkS Tryz.prog 145 (.sl y153):=by
 intro F w u x k hF0 hS h0 hk;have hS0:=hS;obtain⟨p,cap,hu,hcap,hmax,_⟩:=hS0;simp only[List.cons.injEq,and_true] at hu;subst hu;have hall:=cntP_all y153 x;refine calls_vs Tryz.func145 Tryz.ntmps145 rfl rfl ?_;refine ra ?_;refine pu ?_;refine oN (nQ (vs_seq (ra ?_)));refine pu ?_;refine oN (nQ (vs_block ?_));refine vs_loop (fun i:Nat=>(1,.int .i64 (k+(cntP y153 x i:Int))) :: (5,.int .i64 (i:Int)) :: (0,.slice p x.length cap) :: []) (fun i w'=>i<=x.length/\WM F w w') (fun i=>x.length-i) 0 ⟨Nat.zero_le _,WM.refl F w⟩ (by rw[cntP_zero]; simp only[Int.natCast_zero,Int.add_zero]; ((repeat (refine sub_cons rfl ?_)); exact sub_nil)) ?_;rintro i w1 ⟨hi,hm⟩;have hle:=cntP_le y153 x i hi;refine vs_seq (ra ?_);refine pu ?_;refine pu ?_;refine vo_val _ (runs_lenL rfl) rfl ?_;refine pu ?_;refine oN (nQ ?_);refine vs_cond rfl (fun hc=>?_) (fun hc=>?_)
 ·have hlt:i<x.length:=by simpa using hc
  obtain⟨_,b,o,c,rfl,hF,hU,hat,hs⟩:=SH.get hS hlt;have hsu:=cntP_succ (e:=y153) (xs:=x) hlt;have hle1:=cntP_le y153 x (i+1) (by omega);generalize x[i]=y at hs hsu;obtain⟨_,_,rfl,⟨z0,rfl,_,_⟩,⟨_,_,rfl,⟨z1,rfl,_,_⟩,⟨_,_,rfl,⟨z2,rfl,_,_⟩,⟨_,_,rfl,⟨z3,rfl,_,_⟩,⟨_,_,rfl,q4,q5⟩⟩⟩⟩⟩:=hs;have r4:=q4;obtain⟨_,_,rfl,_⟩:=r4;have r5:=q5;obtain⟨_,_,rfl,_⟩:=r5;have hy:cntM y153 y=(1+(1+(1+(1+(cntM (.sl y261) y.2.2.2.2.1+cntM (.sl y261) y.2.2.2.2.2))))):=rfl;refine vs_skip (nQ (vs_seq (vs_block ?_)));refine ra ?_;refine pu ?_;refine pu ?_;refine pu ?_;refine im hlt ?_;refine fm ?_;refine si hm hF hU (hat 0 _ rfl) fun w2 hm=>?_;refine rb ?_;refine pu ?_;refine ad ?_;refine pu ?_;refine rb ?_;refine pu ?_;refine pu ?_;refine pu ?_;refine im hlt ?_;refine fm ?_;refine si hm hF hU (hat 1 _ rfl) fun w2 hm=>?_;refine rb ?_;refine pu ?_;refine ad ?_;refine pu ?_;refine rb ?_;refine pu ?_;refine pu ?_;refine pu ?_;refine im hlt ?_;refine fm ?_;refine si hm hF hU (hat 2 _ rfl) fun w2 hm=>?_;refine rb ?_;refine pu ?_;refine ad ?_;refine pu ?_;refine rb ?_;refine pu ?_;refine pu ?_;refine pu ?_;refine im hlt ?_;refine fm ?_;refine si hm hF hU (hat 3 _ rfl) fun w2 hm=>?_;refine rb ?_;refine pu ?_;refine ad ?_;refine pu ?_;refine rb ?_;refine pu ?_;refine pu ?_;refine im hlt ?_;refine fm ?_;refine lm hm hF (hat 4 _ rfl) ?_;refine pu ?_;refine mc m179 hF0 hm q4 fun w2 hm _=>?_;refine pu ?_;refine rc ?_;refine pu ?_;refine pu ?_;refine im hlt ?_;refine fm ?_;refine lm hm hF (hat 5 _ rfl) ?_;refine pu ?_;refine mc m179 hF0 hm q5 fun w2 hm _=>?_;refine pu ?_;refine rd' ?_;refine pu ?_;refine ad ?_;refine pu ?_;refine oN ?_;have he:k+((cntP y153 x (i+1):Nat):Int)=(((((((k+(cntP y153 x i:Int))+1)+1)+1)+1)+(cntM (.sl y261) y.2.2.2.2.1:Int))+(cntM (.sl y261) y.2.2.2.2.2:Int)):=by rw[hsu,hy]; omega
  refine fin_loop (i+1) ⟨by omega,hm⟩ (by omega) (by rw[he,Int.natCast_succ]; ((repeat (refine sub_cons rfl ?_)); exact sub_nil))
 ·have hge:i=x.length:=by
   have:¬i<x.length:=by simpa using hc
   omega
  subst hge;refine vs_exit (fin_seq_exit (fin_loop_exit (fin_blk_exit rfl (nQ (ra ?_)))));refine pu ?_;refine pu ?_;refine oN (nQ (vs_ret ?_));refine fin_ret1 Tryz.results145 rfl ?_;rw[hall];exact⟨rfl,hm⟩
set_option maxHeartbeats 2000000 in
theorem m144:MkS Tryz.prog 144 (.sl y222):=by
 intro F w u x k hF0 hS h0 hk;have hS0:=hS;obtain⟨p,cap,hu,hcap,hmax,_⟩:=hS0;simp only[List.cons.injEq,and_true] at hu;subst hu;have hall:=cntP_all y222 x;refine calls_vs Tryz.func144 Tryz.ntmps144 rfl rfl ?_;refine ra ?_;refine pu ?_;refine oN (nQ (vs_seq (ra ?_)));refine pu ?_;refine oN (nQ (vs_block ?_));refine vs_loop (fun i:Nat=>(1,.int .i64 (k+(cntP y222 x i:Int))) :: (5,.int .i64 (i:Int)) :: (0,.slice p x.length cap) :: []) (fun i w'=>i<=x.length/\WM F w w') (fun i=>x.length-i) 0 ⟨Nat.zero_le _,WM.refl F w⟩ (by rw[cntP_zero]; simp only[Int.natCast_zero,Int.add_zero]; ((repeat (refine sub_cons rfl ?_)); exact sub_nil)) ?_;rintro i w1 ⟨hi,hm⟩;have hle:=cntP_le y222 x i hi;refine vs_seq (ra ?_);refine pu ?_;refine pu ?_;refine vo_val _ (runs_lenL rfl) rfl ?_;refine pu ?_;refine oN (nQ ?_);refine vs_cond rfl (fun hc=>?_) (fun hc=>?_)
 ·have hlt:i<x.length:=by simpa using hc
  obtain⟨_,b,o,c,rfl,hF,hU,hat,hs⟩:=SH.get hS hlt;have hsu:=cntP_succ (e:=y222) (xs:=x) hlt;have hle1:=cntP_le y222 x (i+1) (by omega);generalize x[i]=y at hs hsu;obtain⟨_,_,rfl,⟨z0,rfl,_⟩,⟨_,_,rfl,⟨z1,rfl,_,_⟩,⟨_,_,rfl,⟨z2,rfl,_,_⟩,⟨z3,rfl⟩⟩⟩⟩:=hs;have hy:cntM y222 y=(1+(1+(1+1))):=rfl;refine vs_skip (nQ (vs_seq (vs_block ?_)));refine ra ?_;refine pu ?_;refine pu ?_;refine pu ?_;refine tc' tC hm fun w2 s1 hs1 hm=>?_;refine im hlt ?_;refine fm ?_;refine ss hm hF hU (hat 0 _ rfl) hs1 fun w2 hm=>?_;refine rb ?_;refine pu ?_;refine ad ?_;refine pu ?_;refine rb ?_;refine pu ?_;refine pu ?_;refine pu ?_;refine im hlt ?_;refine fm ?_;refine si hm hF hU (hat 1 _ rfl) fun w2 hm=>?_;refine rb ?_;refine pu ?_;refine ad ?_;refine pu ?_;refine rb ?_;refine pu ?_;refine pu ?_;refine pu ?_;refine im hlt ?_;refine fm ?_;refine si hm hF hU (hat 2 _ rfl) fun w2 hm=>?_;refine rb ?_;refine pu ?_;refine ad ?_;refine pu ?_;refine rb ?_;refine pu ?_;refine pu ?_;refine pu ?_;refine vo_val _ (runs_rem rfl rfl (show(3:Int)≠0 by decide)) rfl ?_;refine pu ?_;refine im hlt ?_;refine fm ?_;refine sb hm hF hU (hat 3 _ rfl) fun w2 hm=>?_;refine rc ?_;refine pu ?_;refine ad ?_;refine pu ?_;refine rd' ?_;refine pu ?_;refine ad ?_;refine pu ?_;refine oN ?_;have he:k+((cntP y222 x (i+1):Nat):Int)=(((((k+(cntP y222 x i:Int))+1)+1)+1)+1):=by rw[hsu,hy]; omega
  refine fin_loop (i+1) ⟨by omega,hm⟩ (by omega) (by rw[he,Int.natCast_succ]; ((repeat (refine sub_cons rfl ?_)); exact sub_nil))
 ·have hge:i=x.length:=by
   have:¬i<x.length:=by simpa using hc
   omega
  subst hge;refine vs_exit (fin_seq_exit (fin_loop_exit (fin_blk_exit rfl (nQ (ra ?_)))));refine pu ?_;refine pu ?_;refine oN (nQ (vs_ret ?_));refine fin_ret1 Tryz.results144 rfl ?_;rw[hall];exact⟨rfl,hm⟩
set_option maxHeartbeats 2000000 in
theorem m95:MkS Tryz.prog 95 (.sl .str):=by
 intro F w u x k hF0 hS h0 hk;have hS0:=hS;obtain⟨p,cap,hu,hcap,hmax,_⟩:=hS0;simp only[List.cons.injEq,and_true] at hu;subst hu;have hall:=cntP_all .str x;refine calls_vs Tryz.func95 Tryz.ntmps95 rfl rfl ?_;refine ra ?_;refine pu ?_;refine oN (nQ (vs_seq (ra ?_)));refine pu ?_;refine oN (nQ (vs_block ?_));refine vs_loop (fun i:Nat=>(1,.int .i64 (k+(cntP .str x i:Int))) :: (5,.int .i64 (i:Int)) :: (0,.slice p x.length cap) :: []) (fun i w'=>i<=x.length/\WM F w w') (fun i=>x.length-i) 0 ⟨Nat.zero_le _,WM.refl F w⟩ (by rw[cntP_zero]; simp only[Int.natCast_zero,Int.add_zero]; ((repeat (refine sub_cons rfl ?_)); exact sub_nil)) ?_;rintro i w1 ⟨hi,hm⟩;have hle:=cntP_le .str x i hi;refine vs_seq (ra ?_);refine pu ?_;refine pu ?_;refine vo_val _ (runs_lenL rfl) rfl ?_;refine pu ?_;refine oN (nQ ?_);refine vs_cond rfl (fun hc=>?_) (fun hc=>?_)
 ·have hlt:i<x.length:=by simpa using hc
  obtain⟨_,b,o,c,rfl,hF,hU,hat,hs⟩:=SH.get hS hlt;have hsu:=cntP_succ (e:=.str) (xs:=x) hlt;have hle1:=cntP_le .str x (i+1) (by omega);generalize x[i]=y at hs hsu;obtain⟨z0,rfl,_⟩:=hs;have hy:cntM .str y=1:=rfl;refine vs_skip (nQ (vs_seq (vs_block ?_)));refine ra ?_;refine pu ?_;refine pu ?_;refine pu ?_;refine tc' tC hm fun w2 s1 hs1 hm=>?_;refine im hlt ?_;refine ss hm hF hU (hat 0 _ rfl) hs1 fun w2 hm=>?_;refine rc ?_;refine pu ?_;refine ad ?_;refine pu ?_;refine rd' ?_;refine pu ?_;refine ad ?_;refine pu ?_;refine oN ?_;have he:k+((cntP .str x (i+1):Nat):Int)=((k+(cntP .str x i:Int))+1):=by rw[hsu,hy]; omega
  refine fin_loop (i+1) ⟨by omega,hm⟩ (by omega) (by rw[he,Int.natCast_succ]; ((repeat (refine sub_cons rfl ?_)); exact sub_nil))
 ·have hge:i=x.length:=by
   have:¬i<x.length:=by simpa using hc
   omega
  subst hge;refine vs_exit (fin_seq_exit (fin_loop_exit (fin_blk_exit rfl (nQ (ra ?_)))));refine pu ?_;refine pu ?_;refine oN (nQ (vs_ret ?_));refine fin_ret1 Tryz.results95 rfl ?_;rw[hall];exact⟨rfl,hm⟩
set_option maxHeartbeats 2000000 in
theorem m96:MkS Tryz.prog 96 (.sl y190):=by
 intro F w u x k hF0 hS h0 hk;have hS0:=hS;obtain⟨p,cap,hu,hcap,hmax,_⟩:=hS0;simp only[List.cons.injEq,and_true] at hu;subst hu;have hall:=cntP_all y190 x;refine calls_vs Tryz.func96 Tryz.ntmps96 rfl rfl ?_;refine ra ?_;refine pu ?_;refine oN (nQ (vs_seq (ra ?_)));refine pu ?_;refine oN (nQ (vs_block ?_));refine vs_loop (fun i:Nat=>(1,.int .i64 (k+(cntP y190 x i:Int))) :: (5,.int .i64 (i:Int)) :: (0,.slice p x.length cap) :: []) (fun i w'=>i<=x.length/\WM F w w') (fun i=>x.length-i) 0 ⟨Nat.zero_le _,WM.refl F w⟩ (by rw[cntP_zero]; simp only[Int.natCast_zero,Int.add_zero]; ((repeat (refine sub_cons rfl ?_)); exact sub_nil)) ?_;rintro i w1 ⟨hi,hm⟩;have hle:=cntP_le y190 x i hi;refine vs_seq (ra ?_);refine pu ?_;refine pu ?_;refine vo_val _ (runs_lenL rfl) rfl ?_;refine pu ?_;refine oN (nQ ?_);refine vs_cond rfl (fun hc=>?_) (fun hc=>?_)
 ·have hlt:i<x.length:=by simpa using hc
  obtain⟨_,b,o,c,rfl,hF,hU,hat,hs⟩:=SH.get hS hlt;have hsu:=cntP_succ (e:=y190) (xs:=x) hlt;have hle1:=cntP_le y190 x (i+1) (by omega);generalize x[i]=y at hs hsu;obtain⟨_,_,rfl,⟨z0,rfl,_⟩,⟨_,_,rfl,⟨z1,rfl,_,_⟩,⟨z2,rfl,_,_⟩⟩⟩:=hs;have hy:cntM y190 y=(1+(1+1)):=rfl;refine vs_skip (nQ (vs_seq (vs_block ?_)));refine ra ?_;refine pu ?_;refine pu ?_;refine pu ?_;refine tc' tC hm fun w2 s1 hs1 hm=>?_;refine im hlt ?_;refine fm ?_;refine ss hm hF hU (hat 0 _ rfl) hs1 fun w2 hm=>?_;refine rb ?_;refine pu ?_;refine ad ?_;refine pu ?_;refine rb ?_;refine pu ?_;refine pu ?_;refine pu ?_;refine im hlt ?_;refine fm ?_;refine si hm hF hU (hat 1 _ rfl) fun w2 hm=>?_;refine rb ?_;refine pu ?_;refine ad ?_;refine pu ?_;refine rb ?_;refine pu ?_;refine pu ?_;refine pu ?_;refine im hlt ?_;refine fm ?_;refine si hm hF hU (hat 2 _ rfl) fun w2 hm=>?_;refine rc ?_;refine pu ?_;refine ad ?_;refine pu ?_;refine rd' ?_;refine pu ?_;refine ad ?_;refine pu ?_;refine oN ?_;have he:k+((cntP y190 x (i+1):Nat):Int)=((((k+(cntP y190 x i:Int))+1)+1)+1):=by rw[hsu,hy]; omega
  refine fin_loop (i+1) ⟨by omega,hm⟩ (by omega) (by rw[he,Int.natCast_succ]; ((repeat (refine sub_cons rfl ?_)); exact sub_nil))
 ·have hge:i=x.length:=by
   have:¬i<x.length:=by simpa using hc
   omega
  subst hge;refine vs_exit (fin_seq_exit (fin_loop_exit (fin_blk_exit rfl (nQ (ra ?_)))));refine pu ?_;refine pu ?_;refine oN (nQ (vs_ret ?_));refine fin_ret1 Tryz.results96 rfl ?_;rw[hall];exact⟨rfl,hm⟩
set_option maxHeartbeats 2000000 in
theorem m94:MkS Tryz.prog 94 (.sl y150):=by
 intro F w u x k hF0 hS h0 hk;have hS0:=hS;obtain⟨p,cap,hu,hcap,hmax,_⟩:=hS0;simp only[List.cons.injEq,and_true] at hu;subst hu;have hall:=cntP_all y150 x;refine calls_vs Tryz.func94 Tryz.ntmps94 rfl rfl ?_;refine ra ?_;refine pu ?_;refine oN (nQ (vs_seq (ra ?_)));refine pu ?_;refine oN (nQ (vs_block ?_));refine vs_loop (fun i:Nat=>(1,.int .i64 (k+(cntP y150 x i:Int))) :: (5,.int .i64 (i:Int)) :: (0,.slice p x.length cap) :: []) (fun i w'=>i<=x.length/\WM F w w') (fun i=>x.length-i) 0 ⟨Nat.zero_le _,WM.refl F w⟩ (by rw[cntP_zero]; simp only[Int.natCast_zero,Int.add_zero]; ((repeat (refine sub_cons rfl ?_)); exact sub_nil)) ?_;rintro i w1 ⟨hi,hm⟩;have hle:=cntP_le y150 x i hi;refine vs_seq (ra ?_);refine pu ?_;refine pu ?_;refine vo_val _ (runs_lenL rfl) rfl ?_;refine pu ?_;refine oN (nQ ?_);refine vs_cond rfl (fun hc=>?_) (fun hc=>?_)
 ·have hlt:i<x.length:=by simpa using hc
  obtain⟨_,b,o,c,rfl,hF,hU,hat,hs⟩:=SH.get hS hlt;have hsu:=cntP_succ (e:=y150) (xs:=x) hlt;have hle1:=cntP_le y150 x (i+1) (by omega);generalize x[i]=y at hs hsu;obtain⟨_,_,rfl,⟨z0,rfl,_⟩,⟨_,_,rfl,⟨z1,rfl,_,_⟩,q2⟩⟩:=hs;have r2:=q2;obtain⟨_,_,rfl,_⟩:=r2;have hy:cntM y150 y=(1+(1+cntM (.sl (.int .i64)) y.2.2)):=rfl;refine vs_skip (nQ (vs_seq (vs_block ?_)));refine ra ?_;refine pu ?_;refine pu ?_;refine pu ?_;refine tc' tC hm fun w2 s1 hs1 hm=>?_;refine im hlt ?_;refine fm ?_;refine ss hm hF hU (hat 0 _ rfl) hs1 fun w2 hm=>?_;refine rb ?_;refine pu ?_;refine ad ?_;refine pu ?_;refine rb ?_;refine pu ?_;refine pu ?_;refine pu ?_;refine im hlt ?_;refine fm ?_;refine si hm hF hU (hat 1 _ rfl) fun w2 hm=>?_;refine rb ?_;refine pu ?_;refine ad ?_;refine pu ?_;refine rc ?_;refine pu ?_;refine pu ?_;refine im hlt ?_;refine fm ?_;refine lm hm hF (hat 2 _ rfl) ?_;refine pu ?_;refine mc m18 hF0 hm q2 fun w2 hm _=>?_;refine pu ?_;refine rd' ?_;refine pu ?_;refine ad ?_;refine pu ?_;refine oN ?_;have he:k+((cntP y150 x (i+1):Nat):Int)=((((k+(cntP y150 x i:Int))+1)+1)+(cntM (.sl (.int .i64)) y.2.2:Int)):=by rw[hsu,hy]; omega
  refine fin_loop (i+1) ⟨by omega,hm⟩ (by omega) (by rw[he,Int.natCast_succ]; ((repeat (refine sub_cons rfl ?_)); exact sub_nil))
 ·have hge:i=x.length:=by
   have:¬i<x.length:=by simpa using hc
   omega
  subst hge;refine vs_exit (fin_seq_exit (fin_loop_exit (fin_blk_exit rfl (nQ (ra ?_)))));refine pu ?_;refine pu ?_;refine oN (nQ (vs_ret ?_));refine fin_ret1 Tryz.results94 rfl ?_;rw[hall];exact⟨rfl,hm⟩
set_option maxHeartbeats 2000000 in
theorem m93:MkS Tryz.prog 93 (.sl y148):=by
 intro F w u x k hF0 hS h0 hk;have hS0:=hS;obtain⟨p,cap,hu,hcap,hmax,_⟩:=hS0;simp only[List.cons.injEq,and_true] at hu;subst hu;have hall:=cntP_all y148 x;refine calls_vs Tryz.func93 Tryz.ntmps93 rfl rfl ?_;refine ra ?_;refine pu ?_;refine oN (nQ (vs_seq (ra ?_)));refine pu ?_;refine oN (nQ (vs_block ?_));refine vs_loop (fun i:Nat=>(1,.int .i64 (k+(cntP y148 x i:Int))) :: (5,.int .i64 (i:Int)) :: (0,.slice p x.length cap) :: []) (fun i w'=>i<=x.length/\WM F w w') (fun i=>x.length-i) 0 ⟨Nat.zero_le _,WM.refl F w⟩ (by rw[cntP_zero]; simp only[Int.natCast_zero,Int.add_zero]; ((repeat (refine sub_cons rfl ?_)); exact sub_nil)) ?_;rintro i w1 ⟨hi,hm⟩;have hle:=cntP_le y148 x i hi;refine vs_seq (ra ?_);refine pu ?_;refine pu ?_;refine vo_val _ (runs_lenL rfl) rfl ?_;refine pu ?_;refine oN (nQ ?_);refine vs_cond rfl (fun hc=>?_) (fun hc=>?_)
 ·have hlt:i<x.length:=by simpa using hc
  obtain⟨_,b,o,c,rfl,hF,hU,hat,hs⟩:=SH.get hS hlt;have hsu:=cntP_succ (e:=y148) (xs:=x) hlt;have hle1:=cntP_le y148 x (i+1) (by omega);generalize x[i]=y at hs hsu;obtain⟨_,_,rfl,⟨z0,rfl,_⟩,⟨_,_,rfl,⟨z1,rfl,_,_⟩,⟨_,_,rfl,q2,⟨_,_,rfl,q3,⟨_,_,rfl,q4,⟨_,_,rfl,⟨z5,rfl,_,_⟩,⟨z6,rfl,_,_⟩⟩⟩⟩⟩⟩⟩:=hs;have r2:=q2;obtain⟨_,_,rfl,_⟩:=r2;have r3:=q3;obtain⟨_,_,rfl,_⟩:=r3;have r4:=q4;obtain⟨_,_,rfl,_⟩:=r4;have hy:cntM y148 y=(1+(1+(cntM (.sl y222) y.2.2.1+(cntM (.sl y153) y.2.2.2.1+(cntM (.sl (.int .i64)) y.2.2.2.2.1+(1+1)))))):=rfl;refine vs_skip (nQ (vs_seq (vs_block ?_)));refine ra ?_;refine pu ?_;refine pu ?_;refine pu ?_;refine tc' tC hm fun w2 s1 hs1 hm=>?_;refine im hlt ?_;refine fm ?_;refine ss hm hF hU (hat 0 _ rfl) hs1 fun w2 hm=>?_;refine rb ?_;refine pu ?_;refine ad ?_;refine pu ?_;refine rb ?_;refine pu ?_;refine pu ?_;refine pu ?_;refine im hlt ?_;refine fm ?_;refine si hm hF hU (hat 1 _ rfl) fun w2 hm=>?_;refine rb ?_;refine pu ?_;refine ad ?_;refine pu ?_;refine rb ?_;refine pu ?_;refine pu ?_;refine im hlt ?_;refine fm ?_;refine lm hm hF (hat 2 _ rfl) ?_;refine pu ?_;refine mc m144 hF0 hm q2 fun w2 hm _=>?_;refine pu ?_;refine rb ?_;refine pu ?_;refine pu ?_;refine im hlt ?_;refine fm ?_;refine lm hm hF (hat 3 _ rfl) ?_;refine pu ?_;refine mc m145 hF0 hm q3 fun w2 hm _=>?_;refine pu ?_;refine rb ?_;refine pu ?_;refine pu ?_;refine im hlt ?_;refine fm ?_;refine lm hm hF (hat 4 _ rfl) ?_;refine pu ?_;refine mc m18 hF0 hm q4 fun w2 hm _=>?_;refine pu ?_;refine rb ?_;refine pu ?_;refine pu ?_;refine pu ?_;refine im hlt ?_;refine fm ?_;refine si hm hF hU (hat 5 _ rfl) fun w2 hm=>?_;refine rb ?_;refine pu ?_;refine ad ?_;refine pu ?_;refine rb ?_;refine pu ?_;refine pu ?_;refine pu ?_;refine im hlt ?_;refine fm ?_;refine si hm hF hU (hat 6 _ rfl) fun w2 hm=>?_;refine rc ?_;refine pu ?_;refine ad ?_;refine pu ?_;refine rd' ?_;refine pu ?_;refine ad ?_;refine pu ?_;refine oN ?_;have he:k+((cntP y148 x (i+1):Nat):Int)=((((((((k+(cntP y148 x i:Int))+1)+1)+(cntM (.sl y222) y.2.2.1:Int))+(cntM (.sl y153) y.2.2.2.1:Int))+(cntM (.sl (.int .i64)) y.2.2.2.2.1:Int))+1)+1):=by rw[hsu,hy]; omega
  refine fin_loop (i+1) ⟨by omega,hm⟩ (by omega) (by rw[he,Int.natCast_succ]; ((repeat (refine sub_cons rfl ?_)); exact sub_nil))
 ·have hge:i=x.length:=by
   have:¬i<x.length:=by simpa using hc
   omega
  subst hge;refine vs_exit (fin_seq_exit (fin_loop_exit (fin_blk_exit rfl (nQ (ra ?_)))));refine pu ?_;refine pu ?_;refine oN (nQ (vs_ret ?_));refine fin_ret1 Tryz.results93 rfl ?_;rw[hall];exact⟨rfl,hm⟩
set_option maxHeartbeats 2000000 in
theorem m51:MkS Tryz.prog 51 (.sl y126):=by
 intro F w u x k hF0 hS h0 hk;have hS0:=hS;obtain⟨p,cap,hu,hcap,hmax,_⟩:=hS0;simp only[List.cons.injEq,and_true] at hu;subst hu;have hall:=cntP_all y126 x;refine calls_vs Tryz.func51 Tryz.ntmps51 rfl rfl ?_;refine ra ?_;refine pu ?_;refine oN (nQ (vs_seq (ra ?_)));refine pu ?_;refine oN (nQ (vs_block ?_));refine vs_loop (fun i:Nat=>(1,.int .i64 (k+(cntP y126 x i:Int))) :: (5,.int .i64 (i:Int)) :: (0,.slice p x.length cap) :: []) (fun i w'=>i<=x.length/\WM F w w') (fun i=>x.length-i) 0 ⟨Nat.zero_le _,WM.refl F w⟩ (by rw[cntP_zero]; simp only[Int.natCast_zero,Int.add_zero]; ((repeat (refine sub_cons rfl ?_)); exact sub_nil)) ?_;rintro i w1 ⟨hi,hm⟩;have hle:=cntP_le y126 x i hi;refine vs_seq (ra ?_);refine pu ?_;refine pu ?_;refine vo_val _ (runs_lenL rfl) rfl ?_;refine pu ?_;refine oN (nQ ?_);refine vs_cond rfl (fun hc=>?_) (fun hc=>?_)
 ·have hlt:i<x.length:=by simpa using hc
  obtain⟨_,b,o,c,rfl,hF,hU,hat,hs⟩:=SH.get hS hlt;have hsu:=cntP_succ (e:=y126) (xs:=x) hlt;have hle1:=cntP_le y126 x (i+1) (by omega);generalize x[i]=y at hs hsu;obtain⟨_,_,rfl,q0,⟨_,_,rfl,q1,⟨_,_,rfl,q2,q3⟩⟩⟩:=hs;have r0:=q0;obtain⟨_,_,rfl,_⟩:=r0;have r1:=q1;obtain⟨_,_,rfl,_⟩:=r1;have r2:=q2;obtain⟨_,_,rfl,_⟩:=r2;have r3:=q3;obtain⟨_,_,rfl,_⟩:=r3;have hy:cntM y126 y=(cntM (.sl (.int .i64)) y.1+(cntM (.sl (.int .i64)) y.2.1+(cntM (.sl (.int .i64)) y.2.2.1+cntM (.sl (.int .i64)) y.2.2.2))):=rfl;refine vs_skip (nQ (vs_seq (vs_block ?_)));refine ra ?_;refine pu ?_;refine pu ?_;refine im hlt ?_;refine fm ?_;refine lm hm hF (hat 0 _ rfl) ?_;refine pu ?_;refine mc m18 hF0 hm q0 fun w2 hm _=>?_;refine pu ?_;refine rb ?_;refine pu ?_;refine pu ?_;refine im hlt ?_;refine fm ?_;refine lm hm hF (hat 1 _ rfl) ?_;refine pu ?_;refine mc m18 hF0 hm q1 fun w2 hm _=>?_;refine pu ?_;refine rb ?_;refine pu ?_;refine pu ?_;refine im hlt ?_;refine fm ?_;refine lm hm hF (hat 2 _ rfl) ?_;refine pu ?_;refine mc m18 hF0 hm q2 fun w2 hm _=>?_;refine pu ?_;refine rc ?_;refine pu ?_;refine pu ?_;refine im hlt ?_;refine fm ?_;refine lm hm hF (hat 3 _ rfl) ?_;refine pu ?_;refine mc m18 hF0 hm q3 fun w2 hm _=>?_;refine pu ?_;refine rd' ?_;refine pu ?_;refine ad ?_;refine pu ?_;refine oN ?_;have he:k+((cntP y126 x (i+1):Nat):Int)=(((((k+(cntP y126 x i:Int))+(cntM (.sl (.int .i64)) y.1:Int))+(cntM (.sl (.int .i64)) y.2.1:Int))+(cntM (.sl (.int .i64)) y.2.2.1:Int))+(cntM (.sl (.int .i64)) y.2.2.2:Int)):=by rw[hsu,hy]; omega
  refine fin_loop (i+1) ⟨by omega,hm⟩ (by omega) (by rw[he,Int.natCast_succ]; ((repeat (refine sub_cons rfl ?_)); exact sub_nil))
 ·have hge:i=x.length:=by
   have:¬i<x.length:=by simpa using hc
   omega
  subst hge;refine vs_exit (fin_seq_exit (fin_loop_exit (fin_blk_exit rfl (nQ (ra ?_)))));refine pu ?_;refine pu ?_;refine oN (nQ (vs_ret ?_));refine fin_ret1 Tryz.results51 rfl ?_;rw[hall];exact⟨rfl,hm⟩
set_option maxHeartbeats 2000000 in
theorem m49:MkA Tryz.prog 49 (.sl y148):=by
 intro F w cs x k hF0 hS h0 hk;have hc:cntM (.sl y148) x=cntM (.sl y148) x:=rfl;have q0:=hS;have r0:=q0;obtain⟨_,_,rfl,_⟩:=r0;refine calls_vs Tryz.func49 Tryz.ntmps49 rfl rfl ?_;refine vs_seq ?_;refine vs_region ?_;refine vo_box rfl rfl rfl ?_;intro b w1 hN B;have hm:WM F w w1:=WM.of_ext hN.ext;have hbF:¬F b:=by intro hb; have h1:=hF0 b hb; have h2:=hN.eq; have h3:=hN.size; omega
 refine pu ?_;refine oN ?_;refine nQ ?_;refine ra ?_;refine fm ?_;refine vo_loadB rfl B rfl rfl ?_;refine pu ?_;refine mc m93 hF0 hm q0 fun w2 hm hm2=>?_
 replace B:=blk_wm B hm2 hbF
 refine pu ?_;refine oN (nQ ?_);refine vs_seq ?_;refine vs_region ?_;refine pu ?_;refine pu ?_;refine oN ?_;refine nQ ?_;refine vs_ret ?_;refine fin_ret1 Tryz.results49 rfl ?_;refine⟨?_,hm⟩;rw[show k+(cntM (.sl y148) x:Int)=(k+(cntM (.sl y148) x:Int)) by omega]
set_option maxHeartbeats 2000000 in
theorem m50:MkA Tryz.prog 50 y43:=by
 intro F w cs x k hF0 hS h0 hk;have hc:cntM y43 x=(cntM (.sl y150) x.1+(cntM (.sl .str) x.2.1+cntM (.sl y190) x.2.2)):=rfl;obtain⟨_,_,rfl,q0,⟨_,_,rfl,q1,q2⟩⟩:=hS;have r0:=q0;obtain⟨_,_,rfl,_⟩:=r0;have r1:=q1;obtain⟨_,_,rfl,_⟩:=r1;have r2:=q2;obtain⟨_,_,rfl,_⟩:=r2;refine calls_vs Tryz.func50 Tryz.ntmps50 rfl rfl ?_;refine vs_seq ?_;refine vs_region ?_;refine vo_box rfl rfl rfl ?_;intro b w1 hN B;have hm:WM F w w1:=WM.of_ext hN.ext;have hbF:¬F b:=by intro hb; have h1:=hF0 b hb; have h2:=hN.eq; have h3:=hN.size; omega
 refine pu ?_;refine oN ?_;refine nQ ?_;refine ra ?_;refine fm ?_;refine vo_loadB rfl B rfl rfl ?_;refine pu ?_;refine mc m94 hF0 hm q0 fun w2 hm hm2=>?_
 replace B:=blk_wm B hm2 hbF
 refine pu ?_;refine oN (nQ ?_);refine ra ?_;refine fm ?_;refine vo_loadB rfl B rfl rfl ?_;refine pu ?_;refine mc m95 hF0 hm q1 fun w2 hm hm2=>?_
 replace B:=blk_wm B hm2 hbF
 refine pu ?_;refine oN (nQ ?_);refine ra ?_;refine fm ?_;refine vo_loadB rfl B rfl rfl ?_;refine pu ?_;refine mc m96 hF0 hm q2 fun w2 hm hm2=>?_
 replace B:=blk_wm B hm2 hbF
 refine pu ?_;refine oN (nQ ?_);refine vs_seq ?_;refine vs_region ?_;refine pu ?_;refine pu ?_;refine oN ?_;refine nQ ?_;refine vs_ret ?_;refine fin_ret1 Tryz.results50 rfl ?_;refine⟨?_,hm⟩;rw[show k+(cntM y43 x:Int)=(((k+(cntM (.sl y150) x.1:Int))+(cntM (.sl .str) x.2.1:Int))+(cntM (.sl y190) x.2.2:Int)) by omega]
set_option maxHeartbeats 2000000 in
theorem m17:MkA Tryz.prog 17 y46:=by
 intro F w cs x k hF0 hS h0 hk;have hc:cntM y46 x=(cntM (.sl y148) x.1+((cntM (.sl y150) x.2.1.1+(cntM (.sl .str) x.2.1.2.1+cntM (.sl y190) x.2.1.2.2))+cntM (.sl y126) x.2.2)):=rfl;obtain⟨_,_,rfl,q0,⟨_,_,rfl,⟨_,_,rfl,q1,⟨_,_,rfl,q2,q3⟩⟩,q4⟩⟩:=hS;have r0:=q0;obtain⟨_,_,rfl,_⟩:=r0;have r1:=q1;obtain⟨_,_,rfl,_⟩:=r1;have r2:=q2;obtain⟨_,_,rfl,_⟩:=r2;have r3:=q3;obtain⟨_,_,rfl,_⟩:=r3;have r4:=q4;obtain⟨_,_,rfl,_⟩:=r4;refine calls_vs Tryz.func17 Tryz.ntmps17 rfl rfl ?_;refine vs_seq ?_;refine vs_region ?_;refine vo_box rfl rfl rfl ?_;intro b w1 hN B;have hm:WM F w w1:=WM.of_ext hN.ext;have hbF:¬F b:=by intro hb; have h1:=hF0 b hb; have h2:=hN.eq; have h3:=hN.size; omega
 refine pu ?_;refine oN ?_;refine nQ ?_;refine ra ?_;refine fm ?_;refine vo_loadAt (cs:=[_]) rfl (B.at.mid (pre:=[]) (c:=[_]) (post:=[_,_,_,_])) rfl rfl ?_;refine pu ?_;have g0:SH F w (.sl y148) [_] x.1:=q0;have hn0:cntM (.sl y148) x.1=cntM (.sl y148) x.1:=rfl;refine ma m49 hF0 hm g0 fun w2 hm hm2=>?_
 replace B:=blk_wm B hm2 hbF
 refine pu ?_;refine oN (nQ ?_);refine ra ?_;refine fm ?_;refine vo_loadAt (cs:=[_,_,_]) rfl (B.at.mid (pre:=[_]) (c:=[_,_,_]) (post:=[_])) rfl rfl ?_;refine pu ?_;have g1:SH F w y43 [_,_,_] x.2.1:=⟨_,_,rfl,q1,⟨_,_,rfl,q2,q3⟩⟩;have hn1:cntM y43 x.2.1=(cntM (.sl y150) x.2.1.1+(cntM (.sl .str) x.2.1.2.1+cntM (.sl y190) x.2.1.2.2)):=rfl;refine ma m50 hF0 hm g1 fun w2 hm hm2=>?_
 replace B:=blk_wm B hm2 hbF
 refine pu ?_;refine oN (nQ ?_);refine ra ?_;refine fm ?_;refine vo_loadB rfl B rfl rfl ?_;refine pu ?_;refine mc m51 hF0 hm q4 fun w2 hm hm2=>?_
 replace B:=blk_wm B hm2 hbF
 refine pu ?_;refine oN (nQ ?_);refine vs_seq ?_;refine vs_region ?_;refine pu ?_;refine pu ?_;refine oN ?_;refine nQ ?_;refine vs_ret ?_;refine fin_ret1 Tryz.results17 rfl ?_;refine⟨?_,hm⟩;rw[show k+(cntM y46 x:Int)=(((k+(cntM (.sl y148) x.1:Int))+(cntM y43 x.2.1:Int))+(cntM (.sl y126) x.2.2:Int)) by omega]
end Go.Proofs.YthobjlocnkienaaGreatDoor
end

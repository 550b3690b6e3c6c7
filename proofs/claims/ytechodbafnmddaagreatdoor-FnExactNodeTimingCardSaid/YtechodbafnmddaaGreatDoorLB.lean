/- Contracts of the library's functions at this program. -/
import Derived.Test.YtechodbafnmddaaGreatDoorXD
import Derived.Test.YtechodbafnmddaaGreatDoorXF
import Derived.Test.YtechodbafnmddaaGreatDoorTY
import Derived.Test.YtechodbafnmddaaGreatDoorSH
import Derived.Shelf.Strings.SlTrimAscii
section
namespace Go.Proofs.YtechodbafnmddaaGreatDoor
open Go Go.Proofs Go.Proofs.Sv Go.Proofs.Xv Go.Proofs.Xl Go.RowKit
theorem RP{b:Type}(p:b->Bool):∀l:List b,(l.dropWhile p).length<=l.length
 | []=>Nat.le_refl _
 | a :: r=>by
   rw[List.dropWhile_cons];split
   ·exact Nat.le_succ_of_le (RP p r)
   ·exact Nat.le_refl _
theorem v0g(l cs:List UInt8):(Lib.trimS l cs).length<=l.length:=by
 unfold Lib.trimS Lib.trimLeftS Lib.trimRightS;refine Nat.le_trans (RP _ _) ?_;rw[List.length_reverse];refine Nat.le_trans (RP _ _) ?_;rw[List.length_reverse];exact Nat.le_refl _
theorem m0d(l:List UInt8)(c:UInt8):Lib.indexByte l c<=l.length:=by
 induction l with
 | nil=>simp[Lib.indexByte]
 | cons a r b =>
   have:=Lib.indexByte_ge r c;simp only[Lib.indexByte,List.length_cons];split <;> (try split) <;> omega
def CY(s c:ByteArray):Option ByteArray:=if c.size<1000/\c.data.toList.all (fun b=>decide (b.toNat<128))=true then some ⟨(Lib.trimS s.data.toList c.data.toList).toArray⟩ else none
def K0G:Ct:=b9 203 [.dat .str,.dat .str] (fun x=>CY x.1 x.2.1) (fun r=>S r) (fun _=>())
theorem N0e:Ok Tryz.prog K0G:=by
 unfold K0G;refine z0E (ps:=[.dat .str,.dat .str]) (t:=.str) (D:=fun r:ByteArray=>r) rfl (by kernel_rfl) ?_;rintro⟨s,c,_⟩ r w h f;have a:s.size<=9223372036854775807:=f.1;have h:CY s c=some r:=h;unfold CY at h;split at h
 ·rename_i i;cases h;refine(Any.strings_Trim_laid Tryz.lays160 (by kernel_rfl) s c w a (by omega) (fun j b g=>?_)).mono ?_
  ·have:=List.all_eq_true.1 i.2 b (List.mem_of_getElem? g);simpa using this
  ·rintro m k ⟨e,d⟩;refine⟨_,e,d,F0n ?_⟩;show(Lib.trimS s.data.toList c.data.toList).toArray.size<=_;have:=v0g s.data.toList c.data.toList;have l:s.data.toList.length=s.size:=Array.length_toList;simp only[List.size_toArray];omega
 ·cases h
def Nl(s:ByteArray)(c:Int):Option Int:=some (Lib.indexByte s.data.toList c.toNat.toUInt8)
def K0F:Ct:=b9 204 [.dat .str,.dat (.int .u8)] (fun x=>Nl x.1 x.2.1) (fun r=>I r) (fun _=>())
theorem N0d:Ok Tryz.prog K0F:=by
 unfold K0F;refine z0E (ps:=[.dat .str,.dat (.int .u8)]) (t:=.int .i64) (D:=fun r:Int=>r) rfl (by kernel_rfl) ?_;rintro⟨s,c,_⟩ r w h a;have g:s.size<=9223372036854775807:=a.1;cases h;refine(Tryz.strings_IndexByte s c w).mono ?_;rintro i b ⟨e,rfl⟩;refine⟨_,e,Ext.refl _,F0o ?_⟩;have j:=Lib.indexByte_ge s.data.toList c.toNat.toUInt8;have f:=m0d s.data.toList c.toNat.toUInt8;have d:s.data.toList.length=s.size:=Array.length_toList;simp only[lo,hi];omega
def NH(a0:List Int):Option (List Int):=gd ((0+a0.length<=9223372036854775807/\(0+a0.length)*8<=140737488355328)/\True) (some a0)
def P0q:Ct:=b9 206 [.dat i64.sl] (fun x=>NH x.1) (fun r:List Int=>.ow 2 true i64 r) (fun _=>())
theorem Zt:Ok Tryz.prog P0q:=by
 refine okl Bh [.tmp 2] Tryz.func206 Tryz.ntmps206 rfl Tryz.results206 (by kernel_rfl) rfl ?_;intro y ⟨b,_⟩ r H Q e c;have a:=@tn Tryz.prog;refine qa Bh a [0,2] (St.mk [p 0 (L i64 b),p 2 nil] []) (by kernel_rfl) ?_;refine vQ<|?_
 refine vQ (u0U (T:=35) (E:=2) (xs:=b) (Bh 35 i35 rfl).2.2.2.2.2 rfl rfl rfl rfl (fun d=>fQ ?_) (fQ ?_))
 ·refine ct (by kernel_rfl) ?_;subst d;refine qa Bh a [2] (St.mk [p 2 nil] []) (by kernel_rfl) ?_;exact a7<|fR<|c H (by kernel_rfl)
 ·refine cf (by kernel_rfl) ?_;refine vK<|fQ<|?_
  refine qb Bh a [2] (St.mk [p 2 (.os 5 1)] [(5,.arr 2 true i64 b 1)]) H (by kernel_rfl) fun H=>?_;exact a7<|c H (by kernel_rfl)
end Go.Proofs.YtechodbafnmddaaGreatDoor
end

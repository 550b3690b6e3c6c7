/- Contracts of the library's functions at this program. -/
import Derived.Test.YtlfeppknkfknhaaGreatDoorXD
import Derived.Test.YtlfeppknkfknhaaGreatDoorXF
import Derived.Test.YtlfeppknkfknhaaGreatDoorTY
import Derived.Test.YtlfeppknkfknhaaGreatDoorSH
import Derived.Shelf.Strings.SlTrimAscii
section
namespace Go.Proofs.YtlfeppknkfknhaaGreatDoor
open Go Go.Proofs Go.Proofs.Sv Go.Proofs.Xv Go.Proofs.Xl Go.RowKit
theorem dropWhile_le{α:Type}(p:α->Bool):∀l:List α,(l.dropWhile p).length<=l.length
 | []=>Nat.le_refl _
 | a :: r=>by
   rw[List.dropWhile_cons];split
   ·exact Nat.le_succ_of_le (dropWhile_le p r)
   ·exact Nat.le_refl _
theorem trimS_le(l cs:List UInt8):(Lib.trimS l cs).length<=l.length:=by
 unfold Lib.trimS Lib.trimLeftS Lib.trimRightS;refine Nat.le_trans (dropWhile_le _ _) ?_;rw[List.length_reverse];refine Nat.le_trans (dropWhile_le _ _) ?_;rw[List.length_reverse];exact Nat.le_refl _
theorem indexByte_le(l:List UInt8)(c:UInt8):Lib.indexByte l c<=l.length:=by
 induction l with
 | nil=>simp[Lib.indexByte]
 | cons a r ih =>
   have:=Lib.indexByte_ge r c;simp only[Lib.indexByte,List.length_cons];split <;> (try split) <;> omega
def u157(s c:ByteArray):Option ByteArray:=if c.size<1000/\c.data.toList.all (fun b=>decide (b.toNat<128))=true then some ⟨(Lib.trimS s.data.toList c.data.toList).toArray⟩ else none
def k157:Ct:=lct 157 [.dat .str,.dat .str] (fun x=>u157 x.1 x.2.1) (fun r=>S r) (fun _=>())
theorem o157:Ok Tryz.prog k157:=by
 unfold k157;refine ok_ext (ps:=[.dat .str,.dat .str]) (t:=.str) (D:=fun r:ByteArray=>r) rfl (by kernel_rfl) ?_;rintro⟨s,c,_⟩ r w h hw;have hs:s.size<=9223372036854775807:=hw.1;have h:u157 s c=some r:=h;unfold u157 at h;split at h
 ·rename_i hc;cases h;refine(Any.strings_Trim_laid Tryz.lays160 (by kernel_rfl) s c w hs (by omega) (fun j b hb=>?_)).mono ?_
  ·have:=List.all_eq_true.1 hc.2 b (List.mem_of_getElem? hb);simpa using this
  ·rintro en w' ⟨e,hB⟩;refine⟨_,e,hB,rt_str ?_⟩;show(Lib.trimS s.data.toList c.data.toList).toArray.size<=_;have:=trimS_le s.data.toList c.data.toList;have e1:s.data.toList.length=s.size:=Array.length_toList;simp only[List.size_toArray];omega
 ·cases h
def u158(s:ByteArray)(c:Int):Option Int:=some (Lib.indexByte s.data.toList c.toNat.toUInt8)
def k158:Ct:=lct 158 [.dat .str,.dat (.int .u8)] (fun x=>u158 x.1 x.2.1) (fun r=>I r) (fun _=>())
theorem o158:Ok Tryz.prog k158:=by
 unfold k158;refine ok_ext (ps:=[.dat .str,.dat (.int .u8)]) (t:=.int .i64) (D:=fun r:Int=>r) rfl (by kernel_rfl) ?_;rintro⟨s,c,_⟩ r w h hw;have hs:s.size<=9223372036854775807:=hw.1;cases h;refine(Tryz.strings_IndexByte s c w).mono ?_;rintro en w' ⟨e,rfl⟩;refine⟨_,e,Ext.refl _,rt_int ?_⟩;have h1:=Lib.indexByte_ge s.data.toList c.toNat.toUInt8;have h2:=indexByte_le s.data.toList c.toNat.toUInt8;have e1:s.data.toList.length=s.size:=Array.length_toList;simp only[lo,hi];omega
def u95(a0:List Int):Option (List Int):=gd ((0+a0.length<=9223372036854775807/\(0+a0.length)*8<=140737488355328)/\True) (some a0)
def k95:Ct:=lct 95 [.dat i64.sl] (fun x=>u95 x.1) (fun r:List Int=>.ow 2 true i64 r) (fun _=>())
theorem o95:Ok Tryz.prog k95:=by
 refine okl tok [.tmp 2] Tryz.func95 Tryz.ntmps95 rfl Tryz.results95 (by kernel_rfl) rfl ?_;intro y ⟨a0,_⟩ r H Q hn hr;have hT:=@tn Tryz.prog;refine qa tok hT [0,2] (St.mk [p 0 (L i64 a0),p 2 nil] []) (by kernel_rfl) ?_;refine vQ<|?_
 refine vQ (vx_isnil (T:=33) (E:=2) (xs:=a0) (tok 33 i33 rfl).2.2.2.2.2 rfl rfl rfl rfl (fun h0=>fQ ?_) (fQ ?_))
 ·refine ct (by kernel_rfl) ?_;subst h0;refine qa tok hT [2] (St.mk [p 2 nil] []) (by kernel_rfl) ?_;exact vTT<|fR<|hr H (by kernel_rfl)
 ·refine cf (by kernel_rfl) ?_;refine vK<|fQ<|?_
  refine qb tok hT [2] (St.mk [p 2 (.os 5 1)] [(5,.arr 2 true i64 a0 1)]) H (by kernel_rfl) fun H=>?_;exact vTT<|hr H (by kernel_rfl)
end Go.Proofs.YtlfeppknkfknhaaGreatDoor
end

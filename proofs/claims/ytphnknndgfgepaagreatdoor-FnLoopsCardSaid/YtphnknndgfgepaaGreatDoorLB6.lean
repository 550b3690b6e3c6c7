/- Contracts of the library's functions at this program. -/
import Derived.Test.YtphnknndgfgepaaGreatDoorXE6
import Derived.Test.YtphnknndgfgepaaGreatDoorXF6
import Derived.Test.YtphnknndgfgepaaGreatDoorTY6
import Derived.Test.YtphnknndgfgepaaGreatDoorSH6
import Derived.Shelf.Strings.SlTrimAscii
section
namespace Go.Proofs.YtphnknndgfgepaaGreatDoor
open Go Go.Proofs Go.Proofs.Sv Go.Proofs.Xv Go.Proofs.Xl Go.RowKit
theorem d0R{α:Type}(p:α->Bool):∀l:List α,(l.dropWhile p).length<=l.length
 | []=>Nat.le_refl _
 | a :: r=>by
   rw[List.dropWhile_cons];split
   ·exact Nat.le_succ_of_le (d0R p r)
   ·exact Nat.le_refl _
theorem t0P(l cs:List UInt8):(Lib.trimS l cs).length<=l.length:=by
 unfold Lib.trimS Lib.trimLeftS Lib.trimRightS;refine Nat.le_trans (d0R _ _) ?_;rw[List.length_reverse];refine Nat.le_trans (d0R _ _) ?_;rw[List.length_reverse];exact Nat.le_refl _
theorem l0j(l:List UInt8)(c:UInt8):Lib.indexByte l c<=l.length:=by
 induction l with
 | nil=>simp[Lib.indexByte]
 | cons a r ih =>
   have:=Lib.indexByte_ge r c;simp only[Lib.indexByte,List.length_cons];split <;> (try split) <;> omega
def w0I(s c:ByteArray):Option ByteArray:=if c.size<1000/\c.data.toList.all (fun b=>decide (b.toNat<128))=true then some ⟨(Lib.trimS s.data.toList c.data.toList).toArray⟩ else none
def F0S:Ct:=lct 167 [.dat .str,.dat .str] (fun x=>w0I x.1 x.2.1) (fun r=>S r) (fun _=>())
theorem I0x:Ok Tryz.prog F0S:=by
 unfold F0S;refine x0M (ps:=[.dat .str,.dat .str]) (t:=.str) (D:=fun r:ByteArray=>r) rfl (by kernel_rfl) ?_;rintro⟨s,c,_⟩ r w h hw;have hs:s.size<=9223372036854775807:=hw.1;have h:w0I s c=some r:=h;unfold w0I at h;split at h
 ·rename_i hc;cases h;refine(Any.strings_Trim_laid Tryz.lays160 (by kernel_rfl) s c w hs (by omega) (fun j b hb=>?_)).mono ?_
  ·have:=List.all_eq_true.1 hc.2 b (List.mem_of_getElem? hb);simpa using this
  ·rintro en w' ⟨e,hB⟩;refine⟨_,e,hB,B0V ?_⟩;show(Lib.trimS s.data.toList c.data.toList).toArray.size<=_;have:=t0P s.data.toList c.data.toList;have e1:s.data.toList.length=s.size:=Array.length_toList;simp only[List.size_toArray];omega
 ·cases h
def D0v(s:ByteArray)(c:Int):Option Int:=some (Lib.indexByte s.data.toList c.toNat.toUInt8)
def F0R:Ct:=lct 168 [.dat .str,.dat (.int .u8)] (fun x=>D0v x.1 x.2.1) (fun r=>I r) (fun _=>())
theorem I0w:Ok Tryz.prog F0R:=by
 unfold F0R;refine x0M (ps:=[.dat .str,.dat (.int .u8)]) (t:=.int .i64) (D:=fun r:Int=>r) rfl (by kernel_rfl) ?_;rintro⟨s,c,_⟩ r w h hw;have hs:s.size<=9223372036854775807:=hw.1;cases h;refine(Tryz.strings_IndexByte s c w).mono ?_;rintro en w' ⟨e,rfl⟩;refine⟨_,e,Ext.refl _,B0W ?_⟩;have h1:=Lib.indexByte_ge s.data.toList c.toNat.toUInt8;have h2:=l0j s.data.toList c.toNat.toUInt8;have e1:s.data.toList.length=s.size:=Array.length_toList;simp only[lo,hi];omega
def w0T(a0:List Int):Option (List Int):=gd ((0+a0.length<=9223372036854775807/\(0+a0.length)*8<=140737488355328)/\True) (some a0)
def K0q:Ct:=lct 138 [.dat i64.sl] (fun x=>w0T x.1) (fun r:List Int=>.ow 2 true i64 r) (fun _=>())
theorem E0I:Ok Tryz.prog K0q:=by
 refine okl tok [.tmp 2] Tryz.func138 Tryz.ntmps138 rfl Tryz.results138 (by kernel_rfl) rfl ?_;intro y ⟨a0,_⟩ r H Q hn hr;have hT:=@tn Tryz.prog;refine qa tok hT [0,2] (St.mk [p 0 (L i64 a0),p 2 nil] []) (by kernel_rfl) ?_;refine vQ<|?_
 refine vQ (m0W (T:=35) (E:=2) (xs:=a0) (tok 35 i35 rfl).2.2.2.2.2 rfl rfl rfl rfl (fun h0=>fQ ?_) (fQ ?_))
 ·refine ct (by kernel_rfl) ?_;subst h0;refine qa tok hT [2] (St.mk [p 2 nil] []) (by kernel_rfl) ?_;exact vTT<|fR<|hr H (by kernel_rfl)
 ·refine cf (by kernel_rfl) ?_;refine vK<|fQ<|?_
  refine qb tok hT [2] (St.mk [p 2 (.os 5 1)] [(5,.arr 2 true i64 a0 1)]) H (by kernel_rfl) fun H=>?_;exact vTT<|hr H (by kernel_rfl)
end Go.Proofs.YtphnknndgfgepaaGreatDoor
end

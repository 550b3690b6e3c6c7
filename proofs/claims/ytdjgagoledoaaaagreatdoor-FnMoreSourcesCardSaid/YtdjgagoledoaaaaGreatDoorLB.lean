/- Contracts of the library's functions at this program. -/
import Derived.Test.YtdjgagoledoaaaaGreatDoorXD
import Derived.Test.YtdjgagoledoaaaaGreatDoorXF
import Derived.Test.YtdjgagoledoaaaaGreatDoorTY
import Derived.Test.YtdjgagoledoaaaaGreatDoorSH
import Derived.Shelf.Strings.SlTrimAscii
section
namespace Go.Proofs.YtdjgagoledoaaaaGreatDoor
open Go Go.Proofs Go.Proofs.Sv Go.Proofs.Xv Go.Proofs.Xl Go.RowKit
theorem Vt{b:Type}(p:b->Bool):∀l:List b,(l.dropWhile p).length<=l.length
 | []=>Nat.le_refl _
 | a :: r=>by
   rw[List.dropWhile_cons];split
   ·exact Nat.le_succ_of_le (Vt p r)
   ·exact Nat.le_refl _
theorem x0J(l cs:List UInt8):(Lib.trimS l cs).length<=l.length:=by
 unfold Lib.trimS Lib.trimLeftS Lib.trimRightS;refine Nat.le_trans (Vt _ _) ?_;rw[List.length_reverse];refine Nat.le_trans (Vt _ _) ?_;rw[List.length_reverse];exact Nat.le_refl _
theorem n0g(l:List UInt8)(c:UInt8):Lib.indexByte l c<=l.length:=by
 induction l with
 | nil=>simp[Lib.indexByte]
 | cons a r b =>
   have:=Lib.indexByte_ge r c;simp only[Lib.indexByte,List.length_cons];split <;> (try split) <;> omega
def Fl(s c:ByteArray):Option ByteArray:=if c.size<1000/\c.data.toList.all (fun b=>decide (b.toNat<128))=true then some ⟨(Lib.trimS s.data.toList c.data.toList).toArray⟩ else none
def M0U:Ct:=j9 156 [.dat .str,.dat .str] (fun x=>Fl x.1 x.2.1) (fun r=>S r) (fun _=>())
theorem O0L:Ok Tryz.prog M0U:=by
 unfold M0U;refine B0M (ps:=[.dat .str,.dat .str]) (t:=.str) (D:=fun r:ByteArray=>r) rfl (by kernel_rfl) ?_;rintro⟨s,c,_⟩ r w h g;have a:s.size<=9223372036854775807:=g.1;have h:Fl s c=some r:=h;unfold Fl at h;split at h
 ·rename_i i;cases h;refine(Any.strings_Trim_laid Tryz.lays160 (by kernel_rfl) s c w a (by omega) (fun j b d=>?_)).mono ?_
  ·have:=List.all_eq_true.1 i.2 b (List.mem_of_getElem? d);simpa using this
  ·rintro m k ⟨e,f⟩;refine⟨_,e,f,H0L ?_⟩;show(Lib.trimS s.data.toList c.data.toList).toArray.size<=_;have:=x0J s.data.toList c.data.toList;have l:s.data.toList.length=s.size:=Array.length_toList;simp only[List.size_toArray];omega
 ·cases h
def Pk(s:ByteArray)(c:Int):Option Int:=some (Lib.indexByte s.data.toList c.toNat.toUInt8)
def M0T:Ct:=j9 157 [.dat .str,.dat (.int .u8)] (fun x=>Pk x.1 x.2.1) (fun r=>I r) (fun _=>())
theorem O0K:Ok Tryz.prog M0T:=by
 unfold M0T;refine B0M (ps:=[.dat .str,.dat (.int .u8)]) (t:=.int .i64) (D:=fun r:Int=>r) rfl (by kernel_rfl) ?_;rintro⟨s,c,_⟩ r w h a;have f:s.size<=9223372036854775807:=a.1;cases h;refine(Tryz.strings_IndexByte s c w).mono ?_;rintro i b ⟨e,rfl⟩;refine⟨_,e,Ext.refl _,H0M ?_⟩;have j:=Lib.indexByte_ge s.data.toList c.toNat.toUInt8;have g:=n0g s.data.toList c.toNat.toUInt8;have d:s.data.toList.length=s.size:=Array.length_toList;simp only[lo,hi];omega
def Pb(a0:List Int):Option (List Int):=gd ((0+a0.length<=9223372036854775807/\(0+a0.length)*8<=140737488355328)/\True) (some a0)
def Q0R:Ct:=j9 141 [.dat i64.sl] (fun x=>Pb x.1) (fun r:List Int=>.ow 2 true i64 r) (fun _=>())
theorem M0J:Ok Tryz.prog Q0R:=by
 refine okl L7 [.tmp 2] Tryz.func141 Tryz.ntmps141 rfl Tryz.results141 (by kernel_rfl) rfl ?_;intro y ⟨a,_⟩ r H Q e c;have b:=@tn Tryz.prog;refine qa L7 b [0,2] (St.mk [p 0 (L i64 a),p 2 nil] []) (by kernel_rfl) ?_;refine vQ<|?_
 refine vQ (x0g (T:=37) (E:=2) (xs:=a) (L7 37 i37 rfl).2.2.2.2.2 rfl rfl rfl rfl (fun d=>fQ ?_) (fQ ?_))
 ·refine ct (by kernel_rfl) ?_;subst d;refine qa L7 b [2] (St.mk [p 2 nil] []) (by kernel_rfl) ?_;exact j0<|fR<|c H (by kernel_rfl)
 ·refine cf (by kernel_rfl) ?_;refine vK<|fQ<|?_
  refine qb L7 b [2] (St.mk [p 2 (.os 5 1)] [(5,.arr 2 true i64 a 1)]) H (by kernel_rfl) fun H=>?_;exact j0<|c H (by kernel_rfl)
end Go.Proofs.YtdjgagoledoaaaaGreatDoor
end

/- Contracts of the library's functions at this program. -/
import Derived.Test.YtdjgagoledoaaaaGreatDoorXD
import Derived.Test.YtdjgagoledoaaaaGreatDoorXF
import Derived.Test.YtdjgagoledoaaaaGreatDoorTY
import Derived.Test.YtdjgagoledoaaaaGreatDoorSH
import Derived.Shelf.Strings.SlTrimAscii
section
namespace Go.Proofs.YtdjgagoledoaaaaGreatDoor
open Go Go.Proofs Go.Proofs.Sv Go.Proofs.Xv Go.Proofs.Xl Go.RowKit
theorem Wf{b:Type}(p:b->Bool):∀l:List b,(l.dropWhile p).length<=l.length
 | []=>Nat.le_refl _
 | a :: r=>by
   rw[List.dropWhile_cons];split
   ·exact Nat.le_succ_of_le (Wf p r)
   ·exact Nat.le_refl _
theorem x0O(l cs:List UInt8):(Lib.trimS l cs).length<=l.length:=by
 unfold Lib.trimS Lib.trimLeftS Lib.trimRightS;refine Nat.le_trans (Wf _ _) ?_;rw[List.length_reverse];refine Nat.le_trans (Wf _ _) ?_;rw[List.length_reverse];exact Nat.le_refl _
theorem n0l(l:List UInt8)(c:UInt8):Lib.indexByte l c<=l.length:=by
 induction l with
 | nil=>simp[Lib.indexByte]
 | cons a r b =>
   have:=Lib.indexByte_ge r c;simp only[Lib.indexByte,List.length_cons];split <;> (try split) <;> omega
def Fx(s c:ByteArray):Option ByteArray:=if c.size<1000/\c.data.toList.all (fun b=>decide (b.toNat<128))=true then some ⟨(Lib.trimS s.data.toList c.data.toList).toArray⟩ else none
def N0j:Ct:=k8 156 [.dat .str,.dat .str] (fun x=>Fx x.1 x.2.1) (fun r=>S r) (fun _=>())
theorem P0k:Ok Tryz.prog N0j:=by
 unfold N0j;refine B0X (ps:=[.dat .str,.dat .str]) (t:=.str) (D:=fun r:ByteArray=>r) rfl (by kernel_rfl) ?_;rintro⟨s,c,_⟩ r w h d;have f:s.size<=9223372036854775807:=d.1;have h:Fx s c=some r:=h;unfold Fx at h;split at h
 ·rename_i i;cases h;refine(Any.strings_Trim_laid Tryz.lays160 (by kernel_rfl) s c w f (by omega) (fun j b a=>?_)).mono ?_
  ·have:=List.all_eq_true.1 i.2 b (List.mem_of_getElem? a);simpa using this
  ·rintro m l ⟨e,g⟩;refine⟨_,e,g,H0U ?_⟩;show(Lib.trimS s.data.toList c.data.toList).toArray.size<=_;have:=x0O s.data.toList c.data.toList;have k:s.data.toList.length=s.size:=Array.length_toList;simp only[List.size_toArray];omega
 ·cases h
def PL(s:ByteArray)(c:Int):Option Int:=some (Lib.indexByte s.data.toList c.toNat.toUInt8)
def N0i:Ct:=k8 157 [.dat .str,.dat (.int .u8)] (fun x=>PL x.1 x.2.1) (fun r=>I r) (fun _=>())
theorem P0j:Ok Tryz.prog N0i:=by
 unfold N0i;refine B0X (ps:=[.dat .str,.dat (.int .u8)]) (t:=.int .i64) (D:=fun r:Int=>r) rfl (by kernel_rfl) ?_;rintro⟨s,c,_⟩ r w h a;have f:s.size<=9223372036854775807:=a.1;cases h;refine(Tryz.strings_IndexByte s c w).mono ?_;rintro i g ⟨e,rfl⟩;refine⟨_,e,Ext.refl _,H0V ?_⟩;have j:=Lib.indexByte_ge s.data.toList c.toNat.toUInt8;have b:=n0l s.data.toList c.toNat.toUInt8;have d:s.data.toList.length=s.size:=Array.length_toList;simp only[lo,hi];omega
def PB(a0:List Int):Option (List Int):=gd ((0+a0.length<=9223372036854775807/\(0+a0.length)*8<=140737488355328)/\True) (some a0)
def R0r:Ct:=k8 141 [.dat i64.sl] (fun x=>PB x.1) (fun r:List Int=>.ow 2 true i64 r) (fun _=>())
theorem M0V:Ok Tryz.prog R0r:=by
 refine okl L9 [.tmp 2] Tryz.func141 Tryz.ntmps141 rfl Tryz.results141 (by kernel_rfl) rfl ?_;intro y ⟨a,_⟩ r H Q e c;have b:=@tn Tryz.prog;refine qa L9 b [0,2] (St.mk [p 0 (L i64 a),p 2 nil] []) (by kernel_rfl) ?_;refine vQ<|?_
 refine vQ (x0h (T:=37) (E:=2) (xs:=a) (L9 37 i37 rfl).2.2.2.2.2 rfl rfl rfl rfl (fun d=>fQ ?_) (fQ ?_))
 ·refine ct (by kernel_rfl) ?_;subst d;refine qa L9 b [2] (St.mk [p 2 nil] []) (by kernel_rfl) ?_;exact j0<|fR<|c H (by kernel_rfl)
 ·refine cf (by kernel_rfl) ?_;refine vK<|fQ<|?_
  refine qb L9 b [2] (St.mk [p 2 (.os 5 1)] [(5,.arr 2 true i64 a 1)]) H (by kernel_rfl) fun H=>?_;exact j0<|c H (by kernel_rfl)
def Js(xs:List Int):Option (List Int):=if xs.length<=9223372036854775807 then some xs.reverse else none
theorem y0B(a:Array Value)(o:Nat)(b:List Int)(h:o+b.length<=a.size):((Go.Sort.putCells (Value.int .i64) o b.toArray a).toList.drop o).take (b.length*1)=b.map (Value.int .i64):=by
 refine List.ext_getElem? fun i=>?_;rw[Nat.mul_one,List.getElem?_take,List.getElem?_map];by_cases hi:i<b.length
 ·rw[if_pos hi,List.getElem?_drop,Array.getElem?_toList];unfold Go.Sort.putCells;rw[Array.getElem?_mapIdx,Array.getElem?_eq_getElem (show o+i<a.size by omega),Option.map_some,if_pos ⟨by omega,by rw[List.size_toArray]; omega⟩,List.getElem?_eq_getElem hi,show o+i-o=i by omega,Option.map_some];rw[getElem!_pos b.toArray i (by rw[List.size_toArray]; exact hi),List.getElem_toArray]
 ·rw[if_neg hi,List.getElem?_eq_none (by omega)]; rfl
theorem O0x:N0w Tryz.prog 107 Js:=by
 refine⟨by kernel_rfl,fun E c H h=>?_⟩;unfold Js at h;by_cases d:c.length<=9223372036854775807
 ·rw[if_pos d] at h;cases h;refine⟨List.length_reverse,fun y s=>List.mem_reverse.1 s,fun w g v F=>?_⟩;rcases F with ⟨rfl,q,r,p,rfl⟩ | ⟨b,o,cap,cur,rfl,rfl,h1,h2,h3,h4,h5⟩
  ·obtain rfl:c=[]:=List.eq_nil_of_length_eq_zero q;refine Calls.mono (Tryz.slices_Reverse_int_empty p 0 w) ?_;rintro x u ⟨i,rfl⟩;exact⟨i,WE.refl _,.inl ⟨rfl,rfl,rfl,p,rfl⟩⟩
  ·have G:b<w.heap.size:=by
    rcases Nat.lt_or_ge b w.heap.size with l | l
    ·exact l
    ·rw[Array.getElem?_eq_none l] at h1; cases h1
   have t:Go.Sort.Holds (Value.int .i64) w b o c.toArray:=fun j f=>by
    rw[List.size_toArray] at f;have e:((cur.toList.drop o).take (c.length*1))[j]?=(c.map (Value.int .i64))[j]?:=by rw[h5]
    rw[List.getElem?_take_of_lt (by omega),List.getElem?_drop,Array.getElem?_toList,List.getElem?_map,List.getElem?_eq_getElem f] at e;refine⟨?_,?_⟩
    ·unfold World.cell?;rw[show(⟨b,o+j,none⟩:Addr).block=b from rfl,h1,getElem!_pos c.toArray j (by rw[List.size_toArray]; exact f),List.getElem_toArray];exact e
    ·unfold World.frozen?;rw[show(⟨b,o+j,none⟩:Addr).block=b from rfl,h1];simp
   refine Calls.mono (Tryz.slices_Reverse_int b o cap c w t d) ?_;rintro x u ⟨i,n,rfl⟩;have m:(Go.Sort.putRow (Value.int .i64) (Go.Sort.ahead w n) b o c.reverse.toArray).heap.size=w.heap.size:=by
    unfold Go.Sort.putRow Go.Sort.mapBlock;exact Array.size_modify
   have a:c.reverse.length=c.length:=List.length_reverse;refine⟨i,⟨rfl,rfl,rfl,by rw[m]; omega,fun k P z=>?_⟩,.inr ⟨b,o,cap,Go.Sort.putCells (Value.int .i64) o c.reverse.toArray cur,rfl,by rw[a],?_,by rw[a]; exact h2,h3,?_,?_⟩⟩
   ·unfold Go.Sort.putRow Go.Sort.mapBlock;show(w.heap.modify b _)[k]?=_;rw[Array.getElem?_modify,if_neg (fun e=>z (by rw[e]))]
   ·unfold Go.Sort.putRow Go.Sort.mapBlock;show(w.heap.modify b _)[b]?=_;rw[Array.getElem?_modify,if_pos rfl,h1];rfl
   ·unfold Go.Sort.putCells;rw[Array.size_mapIdx]; exact h4
   ·exact y0B _ _ _ (by rw[a,h4]; omega)
 ·rw[if_neg d] at h; cases h
end Go.Proofs.YtdjgagoledoaaaaGreatDoor
end

/- Contracts of the library's functions at this program. -/
import Derived.Test.YtggbjmljfdpllaaGreatDoorXD
import Derived.Test.YtggbjmljfdpllaaGreatDoorXF
import Derived.Test.YtggbjmljfdpllaaGreatDoorTY
import Derived.Test.YtggbjmljfdpllaaGreatDoorSH
import Derived.Shelf.Strings.SlTrimAscii
section
namespace Go.Proofs.YtggbjmljfdpllaaGreatDoor
open Go Go.Proofs Go.Proofs.Sv Go.Proofs.Xv Go.Proofs.Xl Go.RowKit
theorem dropWhile_le{α:Type}(p:α->Bool):∀l:List α,(l.dropWhile p).length<=l.length
 | []=>Nat.le_refl _
 | a :: r=>by
   rw[List.dropWhile_cons];split
   ·exact Nat.le_succ_of_le (dropWhile_le p r)
   ·exact Nat.le_refl _
theorem trimS_le(l cs:List UInt8):(Lib.trimS l cs).length<=l.length:=by
 unfold Lib.trimS Lib.trimLeftS Lib.trimRightS;refine Nat.le_trans (dropWhile_le _ _) ?_;rw[List.length_reverse];refine Nat.le_trans (dropWhile_le _ _) ?_;rw[List.length_reverse];exact Nat.le_refl _
theorem indexByte_le(l:List UInt8)(c:UInt8):Lib.indexByte l c<=l.length:=by
 induction l with
 | nil=>simp[Lib.indexByte]
 | cons a r ih =>
   have:=Lib.indexByte_ge r c;simp only[Lib.indexByte,List.length_cons];split <;> (try split) <;> omega
def u153(s c:ByteArray):Option ByteArray:=if c.size<1000/\c.data.toList.all (fun b=>decide (b.toNat<128))=true then some ⟨(Lib.trimS s.data.toList c.data.toList).toArray⟩ else none
def k153:Ct:=lct 153 [.dat .str,.dat .str] (fun x=>u153 x.1 x.2.1) (fun r=>S r) (fun _=>())
theorem o153:Ok Tryz.prog k153:=by
 unfold k153;refine ok_ext (ps:=[.dat .str,.dat .str]) (t:=.str) (D:=fun r:ByteArray=>r) rfl (by kernel_rfl) ?_;rintro⟨s,c,_⟩ r w h hw;have hs:s.size<=9223372036854775807:=hw.1;have h:u153 s c=some r:=h;unfold u153 at h;split at h
 ·rename_i hc;cases h;refine(Any.strings_Trim_laid Tryz.lays160 (by kernel_rfl) s c w hs (by omega) (fun j b hb=>?_)).mono ?_
  ·have:=List.all_eq_true.1 hc.2 b (List.mem_of_getElem? hb);simpa using this
  ·rintro en w' ⟨e,hB⟩;refine⟨_,e,hB,rt_str ?_⟩;show(Lib.trimS s.data.toList c.data.toList).toArray.size<=_;have:=trimS_le s.data.toList c.data.toList;have e1:s.data.toList.length=s.size:=Array.length_toList;simp only[List.size_toArray];omega
 ·cases h
def u154(s:ByteArray)(c:Int):Option Int:=some (Lib.indexByte s.data.toList c.toNat.toUInt8)
def k154:Ct:=lct 154 [.dat .str,.dat (.int .u8)] (fun x=>u154 x.1 x.2.1) (fun r=>I r) (fun _=>())
theorem o154:Ok Tryz.prog k154:=by
 unfold k154;refine ok_ext (ps:=[.dat .str,.dat (.int .u8)]) (t:=.int .i64) (D:=fun r:Int=>r) rfl (by kernel_rfl) ?_;rintro⟨s,c,_⟩ r w h hw;have hs:s.size<=9223372036854775807:=hw.1;cases h;refine(Tryz.strings_IndexByte s c w).mono ?_;rintro en w' ⟨e,rfl⟩;refine⟨_,e,Ext.refl _,rt_int ?_⟩;have h1:=Lib.indexByte_ge s.data.toList c.toNat.toUInt8;have h2:=indexByte_le s.data.toList c.toNat.toUInt8;have e1:s.data.toList.length=s.size:=Array.length_toList;simp only[lo,hi];omega
def u55(a0:List Int):Option (List Int):=gd ((0+a0.length<=9223372036854775807/\(0+a0.length)*8<=140737488355328)/\True) (some a0)
def k55:Ct:=lct 55 [.dat i64.sl] (fun x=>u55 x.1) (fun r:List Int=>.ow 2 true i64 r) (fun _=>())
theorem o55:Ok Tryz.prog k55:=by
 refine okl tok [.tmp 2] Tryz.func55 Tryz.ntmps55 rfl Tryz.results55 (by kernel_rfl) rfl ?_;intro y ⟨a0,_⟩ r H Q hn hr;have hT:=@tn Tryz.prog;refine qa tok hT [0,2] (St.mk [p 0 (L i64 a0),p 2 nil] []) (by kernel_rfl) ?_;refine vQ<|?_
 refine vQ (vx_isnil (T:=33) (E:=2) (xs:=a0) (tok 33 i33 rfl).2.2.2.2.2 rfl rfl rfl rfl (fun h0=>fQ ?_) (fQ ?_))
 ·refine ct (by kernel_rfl) ?_;subst h0;refine qa tok hT [2] (St.mk [p 2 nil] []) (by kernel_rfl) ?_;exact vTT<|fR<|hr H (by kernel_rfl)
 ·refine cf (by kernel_rfl) ?_;refine vK<|fQ<|?_
  refine qb tok hT [2] (St.mk [p 2 (.os 5 1)] [(5,.arr 2 true i64 a0 1)]) H (by kernel_rfl) fun H=>?_;exact vTT<|hr H (by kernel_rfl)
def s58(xs:List Int):Option (List Int):=if xs.length<4611686018427387904 then some (xs.mergeSort fun x y=>decide (x<=y)) else none
theorem put_take(cur:Array Value)(o:Nat)(ys:List Int)(h:o+ys.length<=cur.size):((Go.Sort.putCells (Value.int .i64) o ys.toArray cur).toList.drop o).take (ys.length*1)=ys.map (Value.int .i64):=by
 refine List.ext_getElem? fun i=>?_;rw[Nat.mul_one,List.getElem?_take,List.getElem?_map];by_cases hi:i<ys.length
 ·rw[if_pos hi,List.getElem?_drop,Array.getElem?_toList];unfold Go.Sort.putCells;rw[Array.getElem?_mapIdx,Array.getElem?_eq_getElem (show o+i<cur.size by omega),Option.map_some,if_pos ⟨by omega,by rw[List.size_toArray]; omega⟩,List.getElem?_eq_getElem hi,show o+i-o=i by omega,Option.map_some];rw[getElem!_pos ys.toArray i (by rw[List.size_toArray]; exact hi),List.getElem_toArray]
 ·rw[if_neg hi,List.getElem?_eq_none (by omega)]; rfl
theorem p58:InPl Tryz.prog 58 s58:=by
 refine⟨by kernel_rfl,fun E xs ys h=>?_⟩;unfold s58 at h;by_cases hl:xs.length<4611686018427387904
 ·rw[if_pos hl] at h;cases h;refine⟨List.length_mergeSort _,fun y hy=>List.mem_mergeSort.1 hy,fun w g v hO=>?_⟩;rcases hO with ⟨rfl,hn,hcs,p,rfl⟩ | ⟨b,o,cap,cur,rfl,rfl,h1,h2,h3,h4,h5⟩
  ·obtain rfl:xs=[]:=List.eq_nil_of_length_eq_zero hn;refine Calls.mono (Tryz.slices_Sort_int_none p 0 w) ?_;rintro en w' ⟨he,rfl⟩;exact⟨he,WE.refl _,.inl ⟨rfl,by rw[List.mergeSort_nil]; rfl,by rw[List.mergeSort_nil]; rfl,p,rfl⟩⟩
  ·have hb:b<w.heap.size:=by
    rcases Nat.lt_or_ge b w.heap.size with h' | h'
    ·exact h'
    ·rw[Array.getElem?_eq_none h'] at h1; cases h1
   have hH:Go.Sort.Holds (Value.int .i64) w b o xs.toArray:=fun j hj=>by
    rw[List.size_toArray] at hj;have e:((cur.toList.drop o).take (xs.length*1))[j]?=(xs.map (Value.int .i64))[j]?:=by rw[h5]
    rw[List.getElem?_take_of_lt (by omega),List.getElem?_drop,Array.getElem?_toList,List.getElem?_map,List.getElem?_eq_getElem hj] at e;refine⟨?_,?_⟩
    ·unfold World.cell?;rw[show(⟨b,o+j,none⟩:Addr).block=b from rfl,h1,getElem!_pos xs.toArray j (by rw[List.size_toArray]; exact hj),List.getElem_toArray];exact e
    ·unfold World.frozen?;rw[show(⟨b,o+j,none⟩:Addr).block=b from rfl,h1];simp
   refine Calls.mono (Tryz.slices_Sort_int b o cap xs w hH hb hl) ?_;rintro en w' ⟨he,n,os,rfl⟩;have hsz:(Go.Sort.putRow (Value.int .i64) (Go.Sort.ahead w n) b o (xs.mergeSort fun x y=>decide (x<=y)).toArray).heap.size=w.heap.size:=by
    unfold Go.Sort.putRow Go.Sort.mapBlock;exact Array.size_modify
   have hlen:=List.length_mergeSort (le:=fun x y:Int=>decide (x<=y)) xs;refine⟨he,⟨rfl,rfl,rfl,by rw[Go.Sort.size_grow,hsz]; omega,fun k hk hg=>?_⟩,.inr ⟨b,o,cap,Go.Sort.putCells (Value.int .i64) o (xs.mergeSort fun x y=>decide (x<=y)).toArray cur,rfl,by rw[hlen],?_,by rw[hlen]; exact h2,h3,?_,?_⟩⟩
   ·rw[Go.Sort.heap_grow_old _ _ (by rw[hsz]; exact hk)];unfold Go.Sort.putRow Go.Sort.mapBlock;show(w.heap.modify b _)[k]?=_;rw[Array.getElem?_modify,if_neg (fun e=>hg (by rw[e]))]
   ·rw[Go.Sort.heap_grow_old _ _ (by rw[hsz]; exact hb)];unfold Go.Sort.putRow Go.Sort.mapBlock;show(w.heap.modify b _)[b]?=_;rw[Array.getElem?_modify,if_pos rfl,h1];rfl
   ·unfold Go.Sort.putCells;rw[Array.size_mapIdx]; exact h4
   ·exact put_take _ _ _ (by rw[hlen,h4]; omega)
 ·rw[if_neg hl] at h; cases h
def s59:=cmpF
theorem pr59:InPr Tryz.prog 59 s59:=inPr_compact (by kernel_rfl) (fun b o c zs w h1 h2 h3=>Tryz.slices_Compact_int b o c zs w h1 h2 h3) (fun a c w=>Tryz.slices_Compact_int_empty a c w)
end Go.Proofs.YtggbjmljfdpllaaGreatDoor
end

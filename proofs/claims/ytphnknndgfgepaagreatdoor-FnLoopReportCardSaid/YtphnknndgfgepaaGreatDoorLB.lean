/- Contracts of the library's functions at this program. -/
import Derived.Test.YtphnknndgfgepaaGreatDoorXE
import Derived.Test.YtphnknndgfgepaaGreatDoorXF
import Derived.Test.YtphnknndgfgepaaGreatDoorTY
import Derived.Test.YtphnknndgfgepaaGreatDoorSH
import Derived.Shelf.Strings.SlTrimAscii
section
namespace Go.Proofs.YtphnknndgfgepaaGreatDoor
open Go Go.Proofs Go.Proofs.Sv Go.Proofs.Xv Go.Proofs.Xl Go.RowKit
theorem d0K{α:Type}(p:α->Bool):∀l:List α,(l.dropWhile p).length<=l.length
 | []=>Nat.le_refl _
 | a :: r=>by
   rw[List.dropWhile_cons];split
   ·exact Nat.le_succ_of_le (d0K p r)
   ·exact Nat.le_refl _
theorem t0Y(l cs:List UInt8):(Lib.trimS l cs).length<=l.length:=by
 unfold Lib.trimS Lib.trimLeftS Lib.trimRightS;refine Nat.le_trans (d0K _ _) ?_;rw[List.length_reverse];refine Nat.le_trans (d0K _ _) ?_;rw[List.length_reverse];exact Nat.le_refl _
theorem l0x(l:List UInt8)(c:UInt8):Lib.indexByte l c<=l.length:=by
 induction l with
 | nil=>simp[Lib.indexByte]
 | cons a r ih =>
   have:=Lib.indexByte_ge r c;simp only[Lib.indexByte,List.length_cons];split <;> (try split) <;> omega
def w0U(s c:ByteArray):Option ByteArray:=if c.size<1000/\c.data.toList.all (fun b=>decide (b.toNat<128))=true then some ⟨(Lib.trimS s.data.toList c.data.toList).toArray⟩ else none
def F0R:Ct:=lct 167 [.dat .str,.dat .str] (fun x=>w0U x.1 x.2.1) (fun r=>S r) (fun _=>())
theorem I0q:Ok Tryz.prog F0R:=by
 unfold F0R;refine x0V (ps:=[.dat .str,.dat .str]) (t:=.str) (D:=fun r:ByteArray=>r) rfl (by kernel_rfl) ?_;rintro⟨s,c,_⟩ r w h hw;have hs:s.size<=9223372036854775807:=hw.1;have h:w0U s c=some r:=h;unfold w0U at h;split at h
 ·rename_i hc;cases h;refine(Any.strings_Trim_laid Tryz.lays160 (by kernel_rfl) s c w hs (by omega) (fun j b hb=>?_)).mono ?_
  ·have:=List.all_eq_true.1 hc.2 b (List.mem_of_getElem? hb);simpa using this
  ·rintro en w' ⟨e,hB⟩;refine⟨_,e,hB,B0X ?_⟩;show(Lib.trimS s.data.toList c.data.toList).toArray.size<=_;have:=t0Y s.data.toList c.data.toList;have e1:s.data.toList.length=s.size:=Array.length_toList;simp only[List.size_toArray];omega
 ·cases h
def D0A(s:ByteArray)(c:Int):Option Int:=some (Lib.indexByte s.data.toList c.toNat.toUInt8)
def F0Q:Ct:=lct 168 [.dat .str,.dat (.int .u8)] (fun x=>D0A x.1 x.2.1) (fun r=>I r) (fun _=>())
theorem I0p:Ok Tryz.prog F0Q:=by
 unfold F0Q;refine x0V (ps:=[.dat .str,.dat (.int .u8)]) (t:=.int .i64) (D:=fun r:Int=>r) rfl (by kernel_rfl) ?_;rintro⟨s,c,_⟩ r w h hw;have hs:s.size<=9223372036854775807:=hw.1;cases h;refine(Tryz.strings_IndexByte s c w).mono ?_;rintro en w' ⟨e,rfl⟩;refine⟨_,e,Ext.refl _,B0Y ?_⟩;have h1:=Lib.indexByte_ge s.data.toList c.toNat.toUInt8;have h2:=l0x s.data.toList c.toNat.toUInt8;have e1:s.data.toList.length=s.size:=Array.length_toList;simp only[lo,hi];omega
def x0b(a0:List Int):Option (List Int):=gd ((0+a0.length<=9223372036854775807/\(0+a0.length)*8<=140737488355328)/\True) (some a0)
def K0a:Ct:=lct 138 [.dat i64.sl] (fun x=>x0b x.1) (fun r:List Int=>.ow 2 true i64 r) (fun _=>())
theorem E0G:Ok Tryz.prog K0a:=by
 refine okl tok [.tmp 2] Tryz.func138 Tryz.ntmps138 rfl Tryz.results138 (by kernel_rfl) rfl ?_;intro y ⟨a0,_⟩ r H Q hn hr;have hT:=@tn Tryz.prog;refine qa tok hT [0,2] (St.mk [p 0 (L i64 a0),p 2 nil] []) (by kernel_rfl) ?_;refine vQ<|?_
 refine vQ (t0B (T:=35) (E:=2) (xs:=a0) (tok 35 i35 rfl).2.2.2.2.2 rfl rfl rfl rfl (fun h0=>fQ ?_) (fQ ?_))
 ·refine ct (by kernel_rfl) ?_;subst h0;refine qa tok hT [2] (St.mk [p 2 nil] []) (by kernel_rfl) ?_;exact vTT<|fR<|hr H (by kernel_rfl)
 ·refine cf (by kernel_rfl) ?_;refine vK<|fQ<|?_
  refine qb tok hT [2] (St.mk [p 2 (.os 5 1)] [(5,.arr 2 true i64 a0 1)]) H (by kernel_rfl) fun H=>?_;exact vTT<|hr H (by kernel_rfl)
def A0u(xs:List Int):Option (List Int):=if xs.length<4611686018427387904 then some (xs.mergeSort fun x y=>decide (x<=y)) else none
theorem u0D(cur:Array Value)(o:Nat)(ys:List Int)(h:o+ys.length<=cur.size):((Go.Sort.putCells (Value.int .i64) o ys.toArray cur).toList.drop o).take (ys.length*1)=ys.map (Value.int .i64):=by
 refine List.ext_getElem? fun i=>?_;rw[Nat.mul_one,List.getElem?_take,List.getElem?_map];by_cases hi:i<ys.length
 ·rw[if_pos hi,List.getElem?_drop,Array.getElem?_toList];unfold Go.Sort.putCells;rw[Array.getElem?_mapIdx,Array.getElem?_eq_getElem (show o+i<cur.size by omega),Option.map_some,if_pos ⟨by omega,by rw[List.size_toArray]; omega⟩,List.getElem?_eq_getElem hi,show o+i-o=i by omega,Option.map_some];rw[getElem!_pos ys.toArray i (by rw[List.size_toArray]; exact hi),List.getElem_toArray]
 ·rw[if_neg hi,List.getElem?_eq_none (by omega)]; rfl
theorem H0w:G0D Tryz.prog 148 A0u:=by
 refine⟨by kernel_rfl,fun E xs ys h=>?_⟩;unfold A0u at h;by_cases hl:xs.length<4611686018427387904
 ·rw[if_pos hl] at h;cases h;refine⟨List.length_mergeSort _,fun y hy=>List.mem_mergeSort.1 hy,fun w g v hO=>?_⟩;rcases hO with ⟨rfl,hn,hcs,p,rfl⟩ | ⟨b,o,cap,cur,rfl,rfl,h1,h2,h3,h4,h5⟩
  ·obtain rfl:xs=[]:=List.eq_nil_of_length_eq_zero hn;refine Calls.mono (Tryz.slices_Sort_int_none p 0 w) ?_;rintro en w' ⟨he,rfl⟩;exact⟨he,WE.refl _,.inl ⟨rfl,by rw[List.mergeSort_nil]; rfl,by rw[List.mergeSort_nil]; rfl,p,rfl⟩⟩
  ·have hb:b<w.heap.size:=by
    rcases Nat.lt_or_ge b w.heap.size with h' | h'
    ·exact h'
    ·rw[Array.getElem?_eq_none h'] at h1; cases h1
   have hH:Go.Sort.Holds (Value.int .i64) w b o xs.toArray:=fun j hj=>by
    rw[List.size_toArray] at hj;have e:((cur.toList.drop o).take (xs.length*1))[j]?=(xs.map (Value.int .i64))[j]?:=by rw[h5]
    rw[List.getElem?_take_of_lt (by omega),List.getElem?_drop,Array.getElem?_toList,List.getElem?_map,List.getElem?_eq_getElem hj] at e;refine⟨?_,?_⟩
    ·unfold World.cell?;rw[show(⟨b,o+j,none⟩:Addr).block=b from rfl,h1,getElem!_pos xs.toArray j (by rw[List.size_toArray]; exact hj),List.getElem_toArray];exact e
    ·unfold World.frozen?;rw[show(⟨b,o+j,none⟩:Addr).block=b from rfl,h1];simp
   refine Calls.mono (Tryz.slices_Sort_int b o cap xs w hH hb hl) ?_;rintro en w' ⟨he,n,os,rfl⟩;have hsz:(Go.Sort.putRow (Value.int .i64) (Go.Sort.ahead w n) b o (xs.mergeSort fun x y=>decide (x<=y)).toArray).heap.size=w.heap.size:=by
    unfold Go.Sort.putRow Go.Sort.mapBlock;exact Array.size_modify
   have hlen:=List.length_mergeSort (le:=fun x y:Int=>decide (x<=y)) xs;refine⟨he,⟨rfl,rfl,rfl,by rw[Go.Sort.size_grow,hsz]; omega,fun k hk hg=>?_⟩,.inr ⟨b,o,cap,Go.Sort.putCells (Value.int .i64) o (xs.mergeSort fun x y=>decide (x<=y)).toArray cur,rfl,by rw[hlen],?_,by rw[hlen]; exact h2,h3,?_,?_⟩⟩
   ·rw[Go.Sort.heap_grow_old _ _ (by rw[hsz]; exact hk)];unfold Go.Sort.putRow Go.Sort.mapBlock;show(w.heap.modify b _)[k]?=_;rw[Array.getElem?_modify,if_neg (fun e=>hg (by rw[e]))]
   ·rw[Go.Sort.heap_grow_old _ _ (by rw[hsz]; exact hb)];unfold Go.Sort.putRow Go.Sort.mapBlock;show(w.heap.modify b _)[b]?=_;rw[Array.getElem?_modify,if_pos rfl,h1];rfl
   ·unfold Go.Sort.putCells;rw[Array.size_mapIdx]; exact h4
   ·exact u0D _ _ _ (by rw[hlen,h4]; omega)
 ·rw[if_neg hl] at h; cases h
end Go.Proofs.YtphnknndgfgepaaGreatDoor
end

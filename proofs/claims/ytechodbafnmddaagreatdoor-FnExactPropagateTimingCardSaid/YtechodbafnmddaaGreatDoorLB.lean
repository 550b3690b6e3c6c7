/- Contracts of the library's functions at this program. -/
import Derived.Test.YtechodbafnmddaaGreatDoorXD
import Derived.Test.YtechodbafnmddaaGreatDoorXF
import Derived.Test.YtechodbafnmddaaGreatDoorTY
import Derived.Test.YtechodbafnmddaaGreatDoorSH
import Derived.Shelf.Strings.SlTrimAscii
section
namespace Go.Proofs.YtechodbafnmddaaGreatDoor
open Go Go.Proofs Go.Proofs.Sv Go.Proofs.Xv Go.Proofs.Xl Go.RowKit
theorem Vy{b:Type}(p:b->Bool):∀l:List b,(l.dropWhile p).length<=l.length
 | []=>Nat.le_refl _
 | a :: r=>by
   rw[List.dropWhile_cons];split
   ·exact Nat.le_succ_of_le (Vy p r)
   ·exact Nat.le_refl _
theorem x0H(l cs:List UInt8):(Lib.trimS l cs).length<=l.length:=by
 unfold Lib.trimS Lib.trimLeftS Lib.trimRightS;refine Nat.le_trans (Vy _ _) ?_;rw[List.length_reverse];refine Nat.le_trans (Vy _ _) ?_;rw[List.length_reverse];exact Nat.le_refl _
theorem n0L(l:List UInt8)(c:UInt8):Lib.indexByte l c<=l.length:=by
 induction l with
 | nil=>simp[Lib.indexByte]
 | cons a r b =>
   have:=Lib.indexByte_ge r c;simp only[Lib.indexByte,List.length_cons];split <;> (try split) <;> omega
def Gf(s c:ByteArray):Option ByteArray:=if c.size<1000/\c.data.toList.all (fun b=>decide (b.toNat<128))=true then some ⟨(Lib.trimS s.data.toList c.data.toList).toArray⟩ else none
def O0d:Ct:=b9 203 [.dat .str,.dat .str] (fun x=>Gf x.1 x.2.1) (fun r=>S r) (fun _=>())
theorem Q0w:Ok Tryz.prog O0d:=by
 unfold O0d;refine C0i (ps:=[.dat .str,.dat .str]) (t:=.str) (D:=fun r:ByteArray=>r) rfl (by kernel_rfl) ?_;rintro⟨s,c,_⟩ r w h g;have a:s.size<=9223372036854775807:=g.1;have h:Gf s c=some r:=h;unfold Gf at h;split at h
 ·rename_i f;cases h;refine(Any.strings_Trim_laid Tryz.lays160 (by kernel_rfl) s c w a (by omega) (fun j b d=>?_)).mono ?_
  ·have:=List.all_eq_true.1 f.2 b (List.mem_of_getElem? d);simpa using this
  ·rintro l k ⟨e,i⟩;refine⟨_,e,i,I0s ?_⟩;show(Lib.trimS s.data.toList c.data.toList).toArray.size<=_;have:=x0H s.data.toList c.data.toList;have m:s.data.toList.length=s.size:=Array.length_toList;simp only[List.size_toArray];omega
 ·cases h
def Qm(s:ByteArray)(c:Int):Option Int:=some (Lib.indexByte s.data.toList c.toNat.toUInt8)
def O0c:Ct:=b9 204 [.dat .str,.dat (.int .u8)] (fun x=>Qm x.1 x.2.1) (fun r=>I r) (fun _=>())
theorem Q0v:Ok Tryz.prog O0c:=by
 unfold O0c;refine C0i (ps:=[.dat .str,.dat (.int .u8)]) (t:=.int .i64) (D:=fun r:Int=>r) rfl (by kernel_rfl) ?_;rintro⟨s,c,_⟩ r w h a;have f:s.size<=9223372036854775807:=a.1;cases h;refine(Tryz.strings_IndexByte s c w).mono ?_;rintro i d ⟨e,rfl⟩;refine⟨_,e,Ext.refl _,I0t ?_⟩;have b:=Lib.indexByte_ge s.data.toList c.toNat.toUInt8;have g:=n0L s.data.toList c.toNat.toUInt8;have j:s.data.toList.length=s.size:=Array.length_toList;simp only[lo,hi];omega
def QJ(a0:List Int):Option (List Int):=gd ((0+a0.length<=9223372036854775807/\(0+a0.length)*8<=140737488355328)/\True) (some a0)
def S0J:Ct:=b9 206 [.dat i64.sl] (fun x=>QJ x.1) (fun r:List Int=>.ow 2 true i64 r) (fun _=>())
theorem N0s:Ok Tryz.prog S0J:=by
 refine okl Bu [.tmp 2] Tryz.func206 Tryz.ntmps206 rfl Tryz.results206 (by kernel_rfl) rfl ?_;intro y ⟨a,_⟩ r H Q e c;have b:=@tn Tryz.prog;refine qa Bu b [0,2] (St.mk [p 0 (L i64 a),p 2 nil] []) (by kernel_rfl) ?_;refine vQ<|?_
 refine vQ (x0s (T:=35) (E:=2) (xs:=a) (Bu 35 i35 rfl).2.2.2.2.2 rfl rfl rfl rfl (fun d=>fQ ?_) (fQ ?_))
 ·refine ct (by kernel_rfl) ?_;subst d;refine qa Bu b [2] (St.mk [p 2 nil] []) (by kernel_rfl) ?_;exact a7<|fR<|c H (by kernel_rfl)
 ·refine cf (by kernel_rfl) ?_;refine vK<|fQ<|?_
  refine qb Bu b [2] (St.mk [p 2 (.os 5 1)] [(5,.arr 2 true i64 a 1)]) H (by kernel_rfl) fun H=>?_;exact a7<|c H (by kernel_rfl)
def M0z(xs:List Int):Option (List Int):=if xs.length<=9223372036854775807 then some xs.reverse else none
theorem y0o(a:Array Value)(o:Nat)(b:List Int)(h:o+b.length<=a.size):((Go.Sort.putCells (Value.int .i64) o b.toArray a).toList.drop o).take (b.length*1)=b.map (Value.int .i64):=by
 refine List.ext_getElem? fun i=>?_;rw[Nat.mul_one,List.getElem?_take,List.getElem?_map];by_cases hi:i<b.length
 ·rw[if_pos hi,List.getElem?_drop,Array.getElem?_toList];unfold Go.Sort.putCells;rw[Array.getElem?_mapIdx,Array.getElem?_eq_getElem (show o+i<a.size by omega),Option.map_some,if_pos ⟨by omega,by rw[List.size_toArray]; omega⟩,List.getElem?_eq_getElem hi,show o+i-o=i by omega,Option.map_some];rw[getElem!_pos b.toArray i (by rw[List.size_toArray]; exact hi),List.getElem_toArray]
 ·rw[if_neg hi,List.getElem?_eq_none (by omega)]; rfl
theorem U0R:U0P Tryz.prog 133 M0z:=by
 refine⟨by kernel_rfl,fun E c H h=>?_⟩;unfold M0z at h;by_cases l:c.length<=9223372036854775807
 ·rw[if_pos l] at h;cases h;refine⟨List.length_reverse,fun y x=>List.mem_reverse.1 x,fun w g v r=>?_⟩;rcases r with ⟨rfl,t,u,p,rfl⟩ | ⟨b,o,cap,cur,rfl,rfl,h1,h2,h3,h4,h5⟩
  ·obtain rfl:c=[]:=List.eq_nil_of_length_eq_zero t;refine Calls.mono (Tryz.slices_Reverse_int_empty p 0 w) ?_;rintro z q ⟨i,rfl⟩;exact⟨i,WE.refl _,.inl ⟨rfl,rfl,rfl,p,rfl⟩⟩
  ·have G:b<w.heap.size:=by
    rcases Nat.lt_or_ge b w.heap.size with f | f
    ·exact f
    ·rw[Array.getElem?_eq_none f] at h1; cases h1
   have F:Go.Sort.Holds (Value.int .i64) w b o c.toArray:=fun j d=>by
    rw[List.size_toArray] at d;have e:((cur.toList.drop o).take (c.length*1))[j]?=(c.map (Value.int .i64))[j]?:=by rw[h5]
    rw[List.getElem?_take_of_lt (by omega),List.getElem?_drop,Array.getElem?_toList,List.getElem?_map,List.getElem?_eq_getElem d] at e;refine⟨?_,?_⟩
    ·unfold World.cell?;rw[show(⟨b,o+j,none⟩:Addr).block=b from rfl,h1,getElem!_pos c.toArray j (by rw[List.size_toArray]; exact d),List.getElem_toArray];exact e
    ·unfold World.frozen?;rw[show(⟨b,o+j,none⟩:Addr).block=b from rfl,h1];simp
   refine Calls.mono (Tryz.slices_Reverse_int b o cap c w F l) ?_;rintro z q ⟨i,n,rfl⟩;have m:(Go.Sort.putRow (Value.int .i64) (Go.Sort.ahead w n) b o c.reverse.toArray).heap.size=w.heap.size:=by
    unfold Go.Sort.putRow Go.Sort.mapBlock;exact Array.size_modify
   have a:c.reverse.length=c.length:=List.length_reverse;refine⟨i,⟨rfl,rfl,rfl,by rw[m]; omega,fun k P s=>?_⟩,.inr ⟨b,o,cap,Go.Sort.putCells (Value.int .i64) o c.reverse.toArray cur,rfl,by rw[a],?_,by rw[a]; exact h2,h3,?_,?_⟩⟩
   ·unfold Go.Sort.putRow Go.Sort.mapBlock;show(w.heap.modify b _)[k]?=_;rw[Array.getElem?_modify,if_neg (fun e=>s (by rw[e]))]
   ·unfold Go.Sort.putRow Go.Sort.mapBlock;show(w.heap.modify b _)[b]?=_;rw[Array.getElem?_modify,if_pos rfl,h1];rfl
   ·unfold Go.Sort.putCells;rw[Array.size_mapIdx]; exact h4
   ·exact y0o _ _ _ (by rw[a,h4]; omega)
 ·rw[if_neg l] at h; cases h
end Go.Proofs.YtechodbafnmddaaGreatDoor
end

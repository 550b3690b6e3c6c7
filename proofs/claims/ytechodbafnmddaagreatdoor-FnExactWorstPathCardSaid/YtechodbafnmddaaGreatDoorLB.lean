/- Contracts of the library's functions at this program. -/
import Derived.Test.YtechodbafnmddaaGreatDoorXD
import Derived.Test.YtechodbafnmddaaGreatDoorXF
import Derived.Test.YtechodbafnmddaaGreatDoorTY
import Derived.Test.YtechodbafnmddaaGreatDoorSH
import Derived.Shelf.Strings.SlTrimAscii
section
namespace Go.Proofs.YtechodbafnmddaaGreatDoor
open Go Go.Proofs Go.Proofs.Sv Go.Proofs.Xv Go.Proofs.Xl Go.RowKit
theorem TP{b:Type}(p:b->Bool):∀l:List b,(l.dropWhile p).length<=l.length
 | []=>Nat.le_refl _
 | a :: r=>by
   rw[List.dropWhile_cons];split
   ·exact Nat.le_succ_of_le (TP p r)
   ·exact Nat.le_refl _
theorem w0R(l cs:List UInt8):(Lib.trimS l cs).length<=l.length:=by
 unfold Lib.trimS Lib.trimLeftS Lib.trimRightS;refine Nat.le_trans (TP _ _) ?_;rw[List.length_reverse];refine Nat.le_trans (TP _ _) ?_;rw[List.length_reverse];exact Nat.le_refl _
theorem n0p(l:List UInt8)(c:UInt8):Lib.indexByte l c<=l.length:=by
 induction l with
 | nil=>simp[Lib.indexByte]
 | cons a r b =>
   have:=Lib.indexByte_ge r c;simp only[Lib.indexByte,List.length_cons];split <;> (try split) <;> omega
def Fz(s c:ByteArray):Option ByteArray:=if c.size<1000/\c.data.toList.all (fun b=>decide (b.toNat<128))=true then some ⟨(Lib.trimS s.data.toList c.data.toList).toArray⟩ else none
def M0y:Ct:=c7 203 [.dat .str,.dat .str] (fun x=>Fz x.1 x.2.1) (fun r=>S r) (fun _=>())
theorem O0X:Ok Tryz.prog M0y:=by
 unfold M0y;refine B0j (ps:=[.dat .str,.dat .str]) (t:=.str) (D:=fun r:ByteArray=>r) rfl (by kernel_rfl) ?_;rintro⟨s,c,_⟩ r w h a;have i:s.size<=9223372036854775807:=a.1;have h:Fz s c=some r:=h;unfold Fz at h;split at h
 ·rename_i d;cases h;refine(Any.strings_Trim_laid Tryz.lays160 (by kernel_rfl) s c w i (by omega) (fun j b f=>?_)).mono ?_
  ·have:=List.all_eq_true.1 d.2 b (List.mem_of_getElem? f);simpa using this
  ·rintro m k ⟨e,g⟩;refine⟨_,e,g,H0c ?_⟩;show(Lib.trimS s.data.toList c.data.toList).toArray.size<=_;have:=w0R s.data.toList c.data.toList;have l:s.data.toList.length=s.size:=Array.length_toList;simp only[List.size_toArray];omega
 ·cases h
def Pj(s:ByteArray)(c:Int):Option Int:=some (Lib.indexByte s.data.toList c.toNat.toUInt8)
def M0x:Ct:=c7 204 [.dat .str,.dat (.int .u8)] (fun x=>Pj x.1 x.2.1) (fun r=>I r) (fun _=>())
theorem O0W:Ok Tryz.prog M0x:=by
 unfold M0x;refine B0j (ps:=[.dat .str,.dat (.int .u8)]) (t:=.int .i64) (D:=fun r:Int=>r) rfl (by kernel_rfl) ?_;rintro⟨s,c,_⟩ r w h a;have i:s.size<=9223372036854775807:=a.1;cases h;refine(Tryz.strings_IndexByte s c w).mono ?_;rintro f b ⟨e,rfl⟩;refine⟨_,e,Ext.refl _,H0d ?_⟩;have j:=Lib.indexByte_ge s.data.toList c.toNat.toUInt8;have g:=n0p s.data.toList c.toNat.toUInt8;have d:s.data.toList.length=s.size:=Array.length_toList;simp only[lo,hi];omega
def PE(a0:List Int):Option (List Int):=gd ((0+a0.length<=9223372036854775807/\(0+a0.length)*8<=140737488355328)/\True) (some a0)
def R0q:Ct:=c7 206 [.dat i64.sl] (fun x=>PE x.1) (fun r:List Int=>.ow 2 true i64 r) (fun _=>())
theorem L0P:Ok Tryz.prog R0q:=by
 refine okl Fo [.tmp 2] Tryz.func206 Tryz.ntmps206 rfl Tryz.results206 (by kernel_rfl) rfl ?_;intro y ⟨a,_⟩ r H Q e c;have b:=@tn Tryz.prog;refine qa Fo b [0,2] (St.mk [p 0 (L i64 a),p 2 nil] []) (by kernel_rfl) ?_;refine vQ<|?_
 refine vQ (w0A (T:=35) (E:=2) (xs:=a) (Fo 35 i35 rfl).2.2.2.2.2 rfl rfl rfl rfl (fun d=>fQ ?_) (fQ ?_))
 ·refine ct (by kernel_rfl) ?_;subst d;refine qa Fo b [2] (St.mk [p 2 nil] []) (by kernel_rfl) ?_;exact a8<|fR<|c H (by kernel_rfl)
 ·refine cf (by kernel_rfl) ?_;refine vK<|fQ<|?_
  refine qb Fo b [2] (St.mk [p 2 (.os 5 1)] [(5,.arr 2 true i64 a 1)]) H (by kernel_rfl) fun H=>?_;exact a8<|c H (by kernel_rfl)
def IN(xs:List Int):Option (List Int):=if xs.length<=9223372036854775807 then some xs.reverse else none
theorem x0w(a:Array Value)(o:Nat)(b:List Int)(h:o+b.length<=a.size):((Go.Sort.putCells (Value.int .i64) o b.toArray a).toList.drop o).take (b.length*1)=b.map (Value.int .i64):=by
 refine List.ext_getElem? fun i=>?_;rw[Nat.mul_one,List.getElem?_take,List.getElem?_map];by_cases hi:i<b.length
 ·rw[if_pos hi,List.getElem?_drop,Array.getElem?_toList];unfold Go.Sort.putCells;rw[Array.getElem?_mapIdx,Array.getElem?_eq_getElem (show o+i<a.size by omega),Option.map_some,if_pos ⟨by omega,by rw[List.size_toArray]; omega⟩,List.getElem?_eq_getElem hi,show o+i-o=i by omega,Option.map_some];rw[getElem!_pos b.toArray i (by rw[List.size_toArray]; exact hi),List.getElem_toArray]
 ·rw[if_neg hi,List.getElem?_eq_none (by omega)]; rfl
theorem O0h:M0J Tryz.prog 133 IN:=by
 refine⟨by kernel_rfl,fun E c H h=>?_⟩;unfold IN at h;by_cases l:c.length<=9223372036854775807
 ·rw[if_pos l] at h;cases h;refine⟨List.length_reverse,fun y s=>List.mem_reverse.1 s,fun w g v u=>?_⟩;rcases u with ⟨rfl,r,x,p,rfl⟩ | ⟨b,o,cap,cur,rfl,rfl,h1,h2,h3,h4,h5⟩
  ·obtain rfl:c=[]:=List.eq_nil_of_length_eq_zero r;refine Calls.mono (Tryz.slices_Reverse_int_empty p 0 w) ?_;rintro z q ⟨m,rfl⟩;exact⟨m,WE.refl _,.inl ⟨rfl,rfl,rfl,p,rfl⟩⟩
  ·have P:b<w.heap.size:=by
    rcases Nat.lt_or_ge b w.heap.size with f | f
    ·exact f
    ·rw[Array.getElem?_eq_none f] at h1; cases h1
   have F:Go.Sort.Holds (Value.int .i64) w b o c.toArray:=fun j i=>by
    rw[List.size_toArray] at i;have e:((cur.toList.drop o).take (c.length*1))[j]?=(c.map (Value.int .i64))[j]?:=by rw[h5]
    rw[List.getElem?_take_of_lt (by omega),List.getElem?_drop,Array.getElem?_toList,List.getElem?_map,List.getElem?_eq_getElem i] at e;refine⟨?_,?_⟩
    ·unfold World.cell?;rw[show(⟨b,o+j,none⟩:Addr).block=b from rfl,h1,getElem!_pos c.toArray j (by rw[List.size_toArray]; exact i),List.getElem_toArray];exact e
    ·unfold World.frozen?;rw[show(⟨b,o+j,none⟩:Addr).block=b from rfl,h1];simp
   refine Calls.mono (Tryz.slices_Reverse_int b o cap c w F l) ?_;rintro z q ⟨m,n,rfl⟩;have d:(Go.Sort.putRow (Value.int .i64) (Go.Sort.ahead w n) b o c.reverse.toArray).heap.size=w.heap.size:=by
    unfold Go.Sort.putRow Go.Sort.mapBlock;exact Array.size_modify
   have a:c.reverse.length=c.length:=List.length_reverse;refine⟨m,⟨rfl,rfl,rfl,by rw[d]; omega,fun k G t=>?_⟩,.inr ⟨b,o,cap,Go.Sort.putCells (Value.int .i64) o c.reverse.toArray cur,rfl,by rw[a],?_,by rw[a]; exact h2,h3,?_,?_⟩⟩
   ·unfold Go.Sort.putRow Go.Sort.mapBlock;show(w.heap.modify b _)[k]?=_;rw[Array.getElem?_modify,if_neg (fun e=>t (by rw[e]))]
   ·unfold Go.Sort.putRow Go.Sort.mapBlock;show(w.heap.modify b _)[b]?=_;rw[Array.getElem?_modify,if_pos rfl,h1];rfl
   ·unfold Go.Sort.putCells;rw[Array.size_mapIdx]; exact h4
   ·exact x0w _ _ _ (by rw[a,h4]; omega)
 ·rw[if_neg l] at h; cases h
end Go.Proofs.YtechodbafnmddaaGreatDoor
end

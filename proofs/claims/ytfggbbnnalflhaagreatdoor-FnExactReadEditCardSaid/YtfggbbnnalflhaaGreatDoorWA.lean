/- Plain words on names: no program in sight. -/
import Derived.Test.YtfggbbnnalflhaaGreatDoorXA
import Derived.Lib.SlTrimSet
import Derived.Lib.Bytealg
import Derived.Test.YtfggbbnnalflhaaGreatDoorXK
import Derived.Test.YtfggbbnnalflhaaGreatDoorXF
import Derived.Test.YtfggbbnnalflhaaGreatDoorFD1b
import Derived.Test.YtfggbbnnalflhaaGreatDoorLB
import Derived.KernelRfl
import Derived.Test.YtfggbbnnalflhaaGreatDoorTY
set_option maxHeartbeats 0
section
namespace Go.Proofs.Sv
open Go
def lowB(c:Int):Bool:=decide (c≥97)&&decide (c<=122)
def digB(c:Int):Bool:=decide (c≥48)&&decide (c<=57)
def chB(c:Int)(i:Nat):Bool:=lowB c||(digB c&&decide (0<i))
def nmTo(s:ByteArray):Nat->Bool
 | 0=>true
 | k+1=>nmTo s k&&chB (byteAt s k) k
def nmB(s:ByteArray):Bool:=nmTo s s.size&&decide ((s.size:Int)≥1)&&decide ((s.size:Int)<=8)
theorem nmTo_mono(s:ByteArray)(k:Nat):∀j,k<=j->nmTo s j=true->nmTo s k=true:=by
 intro j hj h
 induction j with
 | zero=>have:k=0:=by omega
         subst this; rfl
 | succ j ih =>
   by_cases hk:k=j+1
   ·subst hk; exact h
   ·simp only[nmTo,ba] at h;exact ih (by omega) h.1
def low26:List UInt8:=[97,98,99,100,101,102,103,104,105,106,107,108,109,110,111,112,113,114,115,116,117,118,119,120,121,122]
def low36:List UInt8:=[97,98,99,100,101,102,103,104,105,106,107,108,109,110,111,112,113,114,115,116,117,118,119,120,121,122,48,49,50,51,52,53,54,55,56,57]
theorem low26_fin:∀n:Fin 256,low26.contains (UInt8.ofNat n.val)=lowB (n.val:Int):=by decide +kernel
theorem low36_fin:∀n:Fin 256,low36.contains (UInt8.ofNat n.val)=(lowB (n.val:Int)||digB (n.val:Int)):=by decide +kernel
theorem low26_mem(b:UInt8):low26.contains b=lowB (b.toNat:Int):=by
 have:=low26_fin ⟨b.toNat,b.toNat_lt⟩;simpa using this
theorem low36_mem(b:UInt8):low36.contains b=(lowB (b.toNat:Int)||digB (b.toNat:Int)):=by
 have:=low36_fin ⟨b.toNat,b.toNat_lt⟩;simpa using this
theorem indexByte_mem(c:UInt8):∀l:List UInt8,decide (0<=Lib.indexByte l c)=l.contains c
 | []=>by simp[Lib.indexByte]
 | b :: l=>by
   have ih:=indexByte_mem c l;have hg:=Lib.indexByte_ge l c;unfold Lib.indexByte;by_cases hb:b=c
   ·subst hb; simp
   ·have hb':¬c=b:=fun h=>hb h.symm;have e1:(b==c)=false:=by simpa using hb
    rw[e1,List.contains_cons,show(c==b)=false by simpa using hb',<- ih];by_cases h1:Lib.indexByte l c = -1
    ·simp[h1]
    ·have:(Lib.indexByte l c == -1)=false:=by simpa using h1
     rw[this];simp only[Bool.false_eq_true,if_false,Bool.false_or];rw[Bool.eq_iff_iff]; simp only[dq]; omega
theorem dropWhile_nil{α:Type}(p:α->Bool):∀l:List α,l.dropWhile p=[]↔∀x∈l,p x=true
 | []=>by simp
 | x :: r=>by
   rw[List.dropWhile_cons];by_cases h:p x=true
   ·simp[h,dropWhile_nil p r]
   ·simp[h]
theorem mem_takeWhile{α:Type}(p:α->Bool)(x:α):∀l:List α,x∈l.takeWhile p->p x=true
 | [],h=>by cases h
 | y :: r,h=>by
   rw[List.takeWhile_cons] at h;by_cases hy:p y=true
   ·rw[if_pos hy] at h;rcases List.mem_cons.1 h with rfl | h
    ·exact hy
    ·exact mem_takeWhile p x r h
   ·rw[if_neg hy] at h; cases h
theorem trimS_nil(l cs:List UInt8):Lib.trimS l cs=[]↔∀b∈l,cs.contains b=true:=by
 unfold Lib.trimS Lib.trimLeftS Lib.trimRightS;rw[dropWhile_nil];constructor
 ·intro h b hb;have e:l=(l.reverse.dropWhile (cs.contains ·)).reverse++(l.reverse.takeWhile (cs.contains ·)).reverse:=by
   rw[<- List.reverse_append,List.takeWhile_append_dropWhile,List.reverse_reverse]
  rw[e] at hb;rcases List.mem_append.1 hb with hb | hb
  ·exact h b hb
  ·have:=List.mem_reverse.1 hb;exact mem_takeWhile (cs.contains ·) b _ this
 ·intro h b hb;exact h b (by have:=(List.dropWhile_sublist _).mem (List.mem_reverse.1 hb); exact List.mem_reverse.1 this)
theorem nmTo_all(s:ByteArray)(h0:lowB (byteAt s 0)=true):∀k,k<=s.size->(nmTo s k=true↔∀i,i<k->(lowB (byteAt s i)||digB (byteAt s i))=true)
 | 0,_=>by simp[nmTo]
 | k+1,hk=>by
   have ih:=nmTo_all s h0 k (by omega);simp only[nmTo,ba,ih];constructor
   ·rintro⟨h1,h2⟩ i hi;by_cases hik:i=k
    ·subst hik;unfold chB at h2;cases hl:lowB (byteAt s i) with
     | true=>simp
     | false=>rw[hl] at h2; simp only[Bool.false_or,ba] at h2; simp[h2.1]
    ·exact h1 i (by omega)
   ·intro h;refine⟨fun i hi=>h i (by omega),?_⟩;have:=h k (by omega);unfold chB;by_cases hk0:k=0
    ·subst hk0; simp[h0]
    ·have hp:decide (0<k)=true:=by simp; omega
     rw[hp]; simpa using this
theorem trim_all(s:ByteArray):Lib.trimS s.data.toList low36=[]↔∀i,i<s.size->(lowB (byteAt s i)||digB (byteAt s i))=true:=by
 rw[trimS_nil];have hl:s.data.toList.length=s.size:=by simp
 constructor
 ·intro h i hi;have hi':i<s.data.toList.length:=by rw[hl]; exact hi
  have:=h s.data.toList[i] (List.getElem_mem hi');rw[low36_mem] at this;unfold byteAt;rw[gq,List.getElem?_eq_getElem hi'];exact this
 ·intro h b hb;obtain⟨i,hi,rfl⟩:=List.getElem_of_mem hb;have:=h i (by rw[<- hl]; exact hi);unfold byteAt at this;rw[gq,List.getElem?_eq_getElem hi] at this;rw[low36_mem]; exact this
theorem nmB_trim(s:ByteArray)(h1:1<=s.size)(h8:s.size<=8):nmB s=((Lib.trimS s.data.toList low36==[])&&decide (0<=Lib.indexByte low26 (byteAt s 0).toNat.toUInt8)):=by
 have e0:(byteAt s 0).toNat.toUInt8=s.data.toList.getD 0 0:=by unfold byteAt; simp
 rw[e0,indexByte_mem,low26_mem];show nmB s=(_&&lowB (byteAt s 0));have g1:decide ((s.size:Int)≥1)=true:=by simp; omega
 have g2:decide ((s.size:Int)<=8)=true:=by simp; omega
 unfold nmB;rw[g1,g2,Bool.and_true,Bool.and_true];cases h0:lowB (byteAt s 0) with
 | false =>
   rw[Bool.and_false];cases hn:nmTo s s.size with
   | false=>rfl
   | true =>
     have:=nmTo_mono s 1 s.size h1 hn;simp[nmTo,chB,h0] at this
 | true =>
   rw[Bool.and_true,Bool.eq_iff_iff,nmTo_all s h0 s.size (Nat.le_refl _),beq_iff_eq,trim_all]
end Go.Proofs.Sv
end
section
-- NAMES O1
namespace Go.Proofs.Sv
open Go Go.RowKit
class ArrayOf(P:Program)(T:TypeId)(n:outParam Nat)(E:outParam TypeId):Prop where h:P.underlying T=some (.array n E)
section
variable {P:Program} {n:Nat} {e:Env} {w:World} {Q:Exit->Act->World->Prop} {ops:Array Oper} {rest:List Oper}
 {d:Nat} {ty:TypeId} {pos:String} {after:Array Edge}
theorem runs_idxA{T E s y m k b o:Nat}{z:Value}{x ix:Operand}{kk:IntKind}[h:ArrayOf P T m E][i:Info P E s y z](hx:ev e x=some (.pointer (some ⟨b,o,none⟩)))(hi:ev e ix=some (.int kk (k:Int)))(hk:k<m) :
  RunsOp P n e (.indexAddr T x ix) ty w (.pointer (some ⟨b,o+k*s,none⟩)) w:=by
 intro a dst pos after g ha;obtain⟨inf,hinfo,h1,h2,h3⟩:=i.get;have hadd:(Addr.mk b o none).add (k*s)=⟨b,o+k*s,none⟩:=by
  unfold Addr.add;split
  ·rename_i h0; rw[h0]; rfl
  ·rfl
 have hin:0<=(k:Int)/\(k:Int) < (m:Int):=oo;simp only[execOp,ha.ev hx,ha.ev hi];simp only[Instr.indexAt,asIntOf,Sem.run_bind,run_underlying h.h,Instr.sureAddr,Result.andThen,Sem.run_pure,hin,and_self,if_true,run_sizeOf' w hinfo,h1,Int.toNat_natCast,hadd]
end
end Go.Proofs.Sv
namespace Go.Proofs.Xv
open Go Go.RowKit Go.Proofs.Sv Go.Proofs.Xl
def RwL(n:Nat)(w:World):List Value->List (Option Nat)->List (List Int)->Prop
 | [],gs,xs=>gs=[]/\xs=[]
 | v :: vs,gs,xs=>∃g gs' x xs',gs=g :: gs'/\xs=x :: xs'/\OwnI w 2 g v x/\(∀b,g=some b->n<=b)/\RwL n w vs gs' xs'
section
variable {n:Nat} {w w':World}
theorem OwnI.ext{E:TypeId}{g:Option Nat}{v:Value}{x:List Int}(h:OwnI w E g v x)(k:Ext w w'):OwnI w' E g v x:=⟨h.1.up k,h.2⟩
theorem RwL.up:∀{vs:List Value} {gs:List (Option Nat)} {xs:List (List Int)},RwL n w vs gs xs->Ext w w'->RwL n w' vs gs xs
 | [],_,_,h,_=>h
 | _ :: _,_,_,⟨g,gs',x,xs',e1,e2,hO,hb,h⟩,k=>⟨g,gs',x,xs',e1,e2,OwnI.ext hO k,hb,h.up k⟩
theorem RwL.wr{b:Nat}:∀{vs:List Value} {gs:List (Option Nat)} {xs:List (List Int)},RwL n w vs gs xs->Wr b w w'->b<n->RwL n w' vs gs xs
 | [],_,_,h,_,_=>h
 | _ :: _,_,_,⟨g,gs',x,xs',e1,e2,hO,hb,h⟩,k,hn=>⟨g,gs',x,xs',e1,e2,⟨hO.1.wr k (fun e=>by have:=hb b e; omega),hO.2⟩,hb,h.wr k hn⟩
theorem RwL.app{v:Value}{g:Option Nat}{x:List Int}(hO:OwnI w 2 g v x)(hb:∀b,g=some b->n<=b):∀{vs:List Value} {gs:List (Option Nat)} {xs:List (List Int)},RwL n w vs gs xs->RwL n w (vs++[v]) (gs++[g]) (xs++[x])
 | [],_,_,⟨e1,e2⟩=>⟨g,[],x,[],by rw[e1]; rfl,by rw[e2]; rfl,hO,hb,rfl,rfl⟩
 | _ :: _,_,_,⟨g',gs',x',xs',e1,e2,hO',hb',h⟩=>⟨g',gs'++[g],x',xs'++[x],by rw[e1]; rfl,by rw[e2]; rfl,hO',hb',h.app hO hb⟩
theorem RwL.lt:∀{vs:List Value} {gs:List (Option Nat)} {xs:List (List Int)},RwL n w vs gs xs->∀b,some b∈gs->n<=b/\b<w.heap.size
 | [],_,_,⟨e1,_⟩,b,hb=>by rw[e1] at hb; cases hb
 | _ :: _,_,_,⟨g,gs',x,xs',e1,e2,hO,hg,h⟩,b,hb=>by
   rw[e1] at hb;rcases List.mem_cons.1 hb with e | hb
   ·exact⟨hg b e.symm,hO.1.lt b e.symm⟩
   ·exact h.lt b hb
theorem RwL.len:∀{vs:List Value} {gs:List (Option Nat)} {xs:List (List Int)},RwL n w vs gs xs->xs.length=vs.length
 | [],_,_,⟨_,e2⟩=>by rw[e2]; rfl
 | _ :: _,_,_,⟨g,gs',x,xs',e1,e2,hO,hg,h⟩=>by rw[e2,List.length_cons,List.length_cons,h.len]
end
theorem NoDup.snoc{g:Option Nat}:∀{gs:List (Option Nat)},NoDup gs->(∀b,g=some b->some b ∉ gs)->NoDup (gs++[g])
 | [],_,_=>⟨fun _ _ h=>(by cases h),trivial⟩
 | a :: r,⟨h1,h2⟩,h=>⟨fun b e hm=>by
     rcases List.mem_append.1 hm with hm | hm
     ·exact h1 b e hm
     ·have hg:g=some b:=(List.mem_singleton.1 hm).symm;exact h b hg (by rw[<- e]; exact List.mem_cons_self),h2.snoc fun b e hm=>h b e (List.mem_cons_of_mem _ hm)⟩
end Go.Proofs.Xv
namespace Go.Proofs.YtfggbbnnalflhaaGreatDoor
open Go Go.Proofs Go.Proofs.Sv Go.Proofs.Xv Go.Proofs.Xl Go.RowKit
def rwG:List ByteArray->List (List Int)->Option (Option (List (List Int)))
 | [],acc=>some (some acc)
 | p :: ps,acc=>gd ((u134 p (ByteArray.mk #[44])).isSome=true/\True)<|if p=ByteArray.mk #[] then rwG ps (acc++[[]]) else if(vl (u134 p (ByteArray.mk #[44]))).2=true then rwG ps (acc++[(vl (u134 p (ByteArray.mk #[44]))).1]) else some none
def rwE(n:Int):List (List Int)->Option (Y36×Bool)
 | [a,b,c,d]=>gd ((u76 (a,b,c,d) n).isSome=true/\True)<|if vl (u76 (a,b,c,d) n)=true then some ((a,b,c,d),true) else some (([],[],[],[]),false)
 | _=>none
def u78(s:ByteArray)(n:Int):Option (Y36×Bool) :=
 gd ((u31 s (ByteArray.mk #[124])).isSome=true/\True)<|lt (vl (u31 s (ByteArray.mk #[124]))) fun ps =>
 if ps.length=4 then match rwG ps [] with
  | some (some xs)=>rwE n xs
  | some none=>some (([],[],[],[]),false)
  | none=>none
 else some (([],[],[],[]),false)
section
attribute [local irreducible] VS VO VQ VH FinS seqQ blkQ loopQ RunsOp RunsU
attribute [local simp] spl reps Value.cells
instance:ArrayOf Tryz.prog 184 4 34:=⟨Tryz.underlying184⟩
theorem resW{w:World}{x:Y36}{f:Bool}{v1 v2 v3 v4:Value}{g1 g2 g3 g4:Option Nat}(h1:OwnI w 2 g1 v1 x.1)(h2:OwnI w 2 g2 v2 x.2.1)(h3:OwnI w 2 g3 v3 x.2.2.1)(h4:OwnI w 2 g4 v4 x.2.2.2) :
  ResR (fun _ _=>False) w (AV.tup [AV.agg [AV.ow 2 true i64 x.1,AV.ow 2 true i64 x.2.1,AV.ow 2 true i64 x.2.2.1,AV.ow 2 true i64 x.2.2.2],B f]) (.tuple #[.agg #[v1,v2,v3,v4],.bool f]) [g1,g2,g3,g4]:=by
 have one:∀{g:Option Nat} {v:Value} {xs:List Int},OwnI w 2 g v xs->ResR (fun _ _=>False) w (AV.ow 2 true i64 xs) v [g]:=fun {g v xs} h=>by
  obtain⟨p,c,rfl⟩:=h.1.len;exact⟨g,xs.map (Value.int .i64),rfl,rfl,h.1,cells_allR h.2⟩
 exact⟨[_,_],rfl,_,_,[g1,g2,g3,g4],[],rfl,rfl,⟨[_,_,_,_],rfl,_,_,[g1],[g2,g3,g4],rfl,rfl,one h1,_,_,[g2],[g3,g4],rfl,rfl,one h2,_,_,[g3],[g4],rfl,rfl,one h3,_,_,[g4],[],rfl,rfl,one h4,rfl,rfl⟩,_,_,[],[],rfl,rfl,⟨rfl,rfl⟩,rfl,rfl⟩
theorem nilO{w:World}:OwnI w 2 none (.slice none 0 0) []:=⟨Own.nil,fun _ h=>by cases h⟩
set_option maxHeartbeats 4000000 in
theorem c78{s:ByteArray}{n:Int}{w:World}{r:Y36×Bool}(hs:s.size<=9223372036854775807)(hn:InI n)(h:u78 s n=some r)(hF:Fac Tryz.prog w):Calls Tryz.prog 78 #[.string s,.int .i64 n] w fun en w'=>∃v gs,en=.returned v/\Ext w w'/\NoDup gs/\(∀b,some b∈gs->w.heap.size<=b) /\
  ResR (fun _ _=>False) w' (AV.tup [AV.agg [AV.ow 2 true i64 r.1.1,AV.ow 2 true i64 r.1.2.1,AV.ow 2 true i64 r.1.2.2.1,AV.ow 2 true i64 r.1.2.2.2],B r.2]) v gs:=by
 unfold u78 at h;obtain⟨h1,h⟩:=gd_some h;obtain⟨ps,hps⟩:=Option.isSome_iff_exists.1 h1.1;rw[hps] at h;change (if ps.length=4 then match rwG ps [] with | some (some xs)=>rwE n xs | some none=>some (([],[],[],[]),false) | none=>none else some (([],[],[],[]),false))=some r at h;have ff:∀(w':World),Ext w w'->∃v gs,(Ending.returned (.tuple #[.agg #[.slice none 0 0,.slice none 0 0,.slice none 0 0,.slice none 0 0],.bool false]))=.returned v/\Ext w w'/\NoDup gs/\(∀b,some b∈gs->w.heap.size<=b) /\
  ResR (fun _ _=>False) w' (AV.tup [AV.agg [AV.ow 2 true i64 [],AV.ow 2 true i64 [],AV.ow 2 true i64 [],AV.ow 2 true i64 []],B false]) v gs:=fun w' hE =>
  ⟨_,[none,none,none,none],rfl,hE,⟨(fun _ e=>by cases e),(fun _ e=>by cases e),(fun _ e=>by cases e),(fun _ e=>by cases e),trivial⟩,(fun b hb=>by simp at hb),resW (x:=([],[],[],[])) nilO nilO nilO nilO⟩
 have hb:Below w.heap.size w w:=Below.refl _ _;refine calls_vs Tryz.func78 Tryz.ntmps78 rfl rfl ?_
 (repeat (first | refine vo_pure rfl rfl ?_ | refine vo_guard_take rfl rfl ?_ | refine vo_guard_skip rfl rfl rfl rfl ?_ | refine vo_guard_undef rfl rfl rfl ?_ | refine vs_seq ?_ | refine vs_region ?_ | refine oN ?_ | refine nQ ?_ | refine vs_skip ?_ | refine vs_block ?_ | refine vs_ret ?_ | refine fin_seq_ret ?_ | refine fin_blk_ret ?_ | refine fin_loop_ret ?_ | refine vs_cond_true rfl ?_ | refine vs_cond_false rfl ?_ | refine fin_blk ?_ | refine vs_exit ?_ | refine fin_seq_exit ?_ | refine fin_loop_exit ?_ | refine fin_blk_exit rfl ?_ | refine fin_blk_other rfl ?_ | refine vo_fieldAddr rfl rfl ?_ | refine vo_loadB rfl (by assumption) rfl rfl ?_ | refine vo_load rfl (by assumption) rfl ?_ | refine vo_loadA rfl (by assumption) rfl rfl ?_ | refine vo_loadAt rfl (by assumption) rfl rfl ?_ | refine vo_val _ (runs_lenS rfl) rfl ?_ | refine vo_val _ (runs_lenL rfl) rfl ?_ | refine vo_val _ (runs_add rfl rfl (by omega)) rfl ?_ | refine vo_val _ (runs_sub rfl rfl (by omega)) rfl ?_ | refine vo_val _ (runs_catL rfl rfl (by ((try simp only[List.length_append,List.length_cons,List.length_nil]); omega))) rfl ?_ | refine vq_val _ (fun _ _=>runs_catL rfl rfl (by ((try simp only[List.length_append,List.length_cons,List.length_nil]); omega))) rfl ?_ | refine vo_val _ (runs_eqB rfl rfl) rfl ?_ | refine vo_val _ (runs_neB rfl rfl) rfl ?_ | refine vo_build rfl rfl rfl ?_ | refine vo_val _ (runs_index0 rfl (by omega)) rfl ?_ | refine vo_val _ (runs_index rfl rfl (by omega)) rfl ?_ | refine vs_drawn (by kernel_rfl) ?_ | refine vq_pure rfl rfl ?_ | refine vo_val _ (runs_nilCheck rfl) rfl ?_ | refine vq_val _ (fun _ _=>runs_nilCheck rfl) rfl ?_ | refine vq_guard_take rfl rfl ?_ | refine vq_guard_skip rfl rfl rfl rfl ?_ | refine vq_guard_undef rfl rfl rfl ?_ | refine vq_fieldAddr rfl rfl ?_ | refine vq_loadB rfl (by assumption) rfl rfl ?_ | refine vq_load rfl (by assumption) rfl rfl ?_ | refine vq_loadA rfl (by assumption) rfl rfl ?_ | refine vq_loadAt rfl (by assumption) rfl rfl ?_ | refine vq_val _ (fun _ _=>runs_lenS rfl) rfl ?_ | refine vq_val _ (fun _ _=>runs_lenL rfl) rfl ?_ | refine vq_val _ (fun _ _=>runs_add rfl rfl (by omega)) rfl ?_ | refine vq_val _ (fun _ _=>runs_sub rfl rfl (by omega)) rfl ?_ | refine vq_val _ (fun _ _=>runs_eqB rfl rfl) rfl ?_ | refine vq_val _ (fun _ _=>runs_neB rfl rfl) rfl ?_ | refine vq_build rfl rfl rfl ?_ | refine vq_val _ (fun _ _=>runs_index0 rfl (by omega)) rfl ?_ | refine vq_val _ (fun _ _=>runs_index rfl rfl (by omega)) rfl ?_ | refine vs_label ?_))
 (refine vo_alloc rfl rfl ?_; intro b1 w1 hN B1; have zz:=hN.eq; have zz:=hN.size; have hE:=hN.ext; have g1:w.heap.size<=b1:=(by rw[<- hN.eq]; exact hb.size); skip; have zz:=hE.size; (first | replace hb:=hb.trans (hE.mono hb.size) | replace hb:=hb.trans (WE.of_ext hE)); (try replace h1:=h1.up hE); (try replace h2:=h2.up hE); (try replace h3:=h3.up hE); (try replace h4:=h4.up hE); (try replace h5:=h5.up hE); (try replace h6:=h6.up hE); (try replace h7:=h7.up hE); (try replace h8:=h8.up hE); (try replace h9:=h9.up hE); (try replace B2:=B2.up hE); (try replace B3:=B3.up hE); (try replace B4:=B4.up hE); (try replace B5:=B5.up hE); (try replace B6:=B6.up hE); (try replace O1:=O1.up hE); (try clear hN hE); (try dsimp at B1))
 (repeat (first | refine vo_pure rfl rfl ?_ | refine vo_guard_take rfl rfl ?_ | refine vo_guard_skip rfl rfl rfl rfl ?_ | refine vo_guard_undef rfl rfl rfl ?_ | refine vs_seq ?_ | refine vs_region ?_ | refine oN ?_ | refine nQ ?_ | refine vs_skip ?_ | refine vs_block ?_ | refine vs_ret ?_ | refine fin_seq_ret ?_ | refine fin_blk_ret ?_ | refine fin_loop_ret ?_ | refine vs_cond_true rfl ?_ | refine vs_cond_false rfl ?_ | refine fin_blk ?_ | refine vs_exit ?_ | refine fin_seq_exit ?_ | refine fin_loop_exit ?_ | refine fin_blk_exit rfl ?_ | refine fin_blk_other rfl ?_ | refine vo_fieldAddr rfl rfl ?_ | refine vo_loadB rfl (by assumption) rfl rfl ?_ | refine vo_load rfl (by assumption) rfl ?_ | refine vo_loadA rfl (by assumption) rfl rfl ?_ | refine vo_loadAt rfl (by assumption) rfl rfl ?_ | refine vo_val _ (runs_lenS rfl) rfl ?_ | refine vo_val _ (runs_lenL rfl) rfl ?_ | refine vo_val _ (runs_add rfl rfl (by omega)) rfl ?_ | refine vo_val _ (runs_sub rfl rfl (by omega)) rfl ?_ | refine vo_val _ (runs_catL rfl rfl (by ((try simp only[List.length_append,List.length_cons,List.length_nil]); omega))) rfl ?_ | refine vq_val _ (fun _ _=>runs_catL rfl rfl (by ((try simp only[List.length_append,List.length_cons,List.length_nil]); omega))) rfl ?_ | refine vo_val _ (runs_eqB rfl rfl) rfl ?_ | refine vo_val _ (runs_neB rfl rfl) rfl ?_ | refine vo_build rfl rfl rfl ?_ | refine vo_val _ (runs_index0 rfl (by omega)) rfl ?_ | refine vo_val _ (runs_index rfl rfl (by omega)) rfl ?_ | refine vs_drawn (by kernel_rfl) ?_ | refine vq_pure rfl rfl ?_ | refine vo_val _ (runs_nilCheck rfl) rfl ?_ | refine vq_val _ (fun _ _=>runs_nilCheck rfl) rfl ?_ | refine vq_guard_take rfl rfl ?_ | refine vq_guard_skip rfl rfl rfl rfl ?_ | refine vq_guard_undef rfl rfl rfl ?_ | refine vq_fieldAddr rfl rfl ?_ | refine vq_loadB rfl (by assumption) rfl rfl ?_ | refine vq_load rfl (by assumption) rfl rfl ?_ | refine vq_loadA rfl (by assumption) rfl rfl ?_ | refine vq_loadAt rfl (by assumption) rfl rfl ?_ | refine vq_val _ (fun _ _=>runs_lenS rfl) rfl ?_ | refine vq_val _ (fun _ _=>runs_lenL rfl) rfl ?_ | refine vq_val _ (fun _ _=>runs_add rfl rfl (by omega)) rfl ?_ | refine vq_val _ (fun _ _=>runs_sub rfl rfl (by omega)) rfl ?_ | refine vq_val _ (fun _ _=>runs_eqB rfl rfl) rfl ?_ | refine vq_val _ (fun _ _=>runs_neB rfl rfl) rfl ?_ | refine vq_build rfl rfl rfl ?_ | refine vq_val _ (fun _ _=>runs_index0 rfl (by omega)) rfl ?_ | refine vq_val _ (fun _ _=>runs_index rfl rfl (by omega)) rfl ?_ | refine vs_label ?_))
 refine vo_call rfl rfl (Calls.mono (ok_callA o31 (fun _=>rfl) rfl (x:=(s,ByteArray.mk #[124],())) hps ⟨_,_,rfl,⟨rfl,hs⟩,⟨_,_,rfl,⟨rfl,by show(1:Nat)<=9223372036854775807; omega⟩,⟨rfl,rfl⟩⟩⟩ (hF.up hb)) ?_);rintro _ w2 ⟨v,gp,rfl,hE,hNp,hgp,hr⟩;refine⟨_,rfl,?_⟩;obtain⟨g,cs,rfl,_,O1,hA⟩:=hr;have hcs:=strs_cells hA;have hA0:=(own_wf O1 hA).2;have hgl:∀k,g=some k->w1.heap.size<=k:=fun k e=>(hgp k (by rw[e]; exact List.mem_singleton.2 rfl)).1;have zz:=hE.size;have b1lt:=B1.lt
 replace B1:=B1.up hE
 replace hb:=hb.trans (hE.mono hb.size)
 clear hE;obtain⟨pp,pc,rfl⟩:=O1.len
 (repeat (first | refine vo_pure rfl rfl ?_ | refine vo_guard_take rfl rfl ?_ | refine vo_guard_skip rfl rfl rfl rfl ?_ | refine vo_guard_undef rfl rfl rfl ?_ | refine vs_seq ?_ | refine vs_region ?_ | refine oN ?_ | refine nQ ?_ | refine vs_skip ?_ | refine vs_block ?_ | refine vs_ret ?_ | refine fin_seq_ret ?_ | refine fin_blk_ret ?_ | refine fin_loop_ret ?_ | refine vs_cond_true rfl ?_ | refine vs_cond_false rfl ?_ | refine fin_blk ?_ | refine vs_exit ?_ | refine fin_seq_exit ?_ | refine fin_loop_exit ?_ | refine fin_blk_exit rfl ?_ | refine fin_blk_other rfl ?_ | refine vo_fieldAddr rfl rfl ?_ | refine vo_loadB rfl (by assumption) rfl rfl ?_ | refine vo_load rfl (by assumption) rfl ?_ | refine vo_loadA rfl (by assumption) rfl rfl ?_ | refine vo_loadAt rfl (by assumption) rfl rfl ?_ | refine vo_val _ (runs_lenS rfl) rfl ?_ | refine vo_val _ (runs_lenL rfl) rfl ?_ | refine vo_val _ (runs_add rfl rfl (by omega)) rfl ?_ | refine vo_val _ (runs_sub rfl rfl (by omega)) rfl ?_ | refine vo_val _ (runs_catL rfl rfl (by ((try simp only[List.length_append,List.length_cons,List.length_nil]); omega))) rfl ?_ | refine vq_val _ (fun _ _=>runs_catL rfl rfl (by ((try simp only[List.length_append,List.length_cons,List.length_nil]); omega))) rfl ?_ | refine vo_val _ (runs_eqB rfl rfl) rfl ?_ | refine vo_val _ (runs_neB rfl rfl) rfl ?_ | refine vo_build rfl rfl rfl ?_ | refine vo_val _ (runs_index0 rfl (by omega)) rfl ?_ | refine vo_val _ (runs_index rfl rfl (by omega)) rfl ?_ | refine vs_drawn (by kernel_rfl) ?_ | refine vq_pure rfl rfl ?_ | refine vo_val _ (runs_nilCheck rfl) rfl ?_ | refine vq_val _ (fun _ _=>runs_nilCheck rfl) rfl ?_ | refine vq_guard_take rfl rfl ?_ | refine vq_guard_skip rfl rfl rfl rfl ?_ | refine vq_guard_undef rfl rfl rfl ?_ | refine vq_fieldAddr rfl rfl ?_ | refine vq_loadB rfl (by assumption) rfl rfl ?_ | refine vq_load rfl (by assumption) rfl rfl ?_ | refine vq_loadA rfl (by assumption) rfl rfl ?_ | refine vq_loadAt rfl (by assumption) rfl rfl ?_ | refine vq_val _ (fun _ _=>runs_lenS rfl) rfl ?_ | refine vq_val _ (fun _ _=>runs_lenL rfl) rfl ?_ | refine vq_val _ (fun _ _=>runs_add rfl rfl (by omega)) rfl ?_ | refine vq_val _ (fun _ _=>runs_sub rfl rfl (by omega)) rfl ?_ | refine vq_val _ (fun _ _=>runs_eqB rfl rfl) rfl ?_ | refine vq_val _ (fun _ _=>runs_neB rfl rfl) rfl ?_ | refine vq_build rfl rfl rfl ?_ | refine vq_val _ (fun _ _=>runs_index0 rfl (by omega)) rfl ?_ | refine vq_val _ (fun _ _=>runs_index rfl rfl (by omega)) rfl ?_ | refine vs_label ?_))
 refine vs_cond rfl (fun hc=>?_) (fun hc=>?_)
 ·have h4:¬ps.length=4:=fun e=>by rw[e] at hc; simp at hc
  rw[if_neg h4] at h;cases h
  (repeat (first | refine vo_pure rfl rfl ?_ | refine vo_guard_take rfl rfl ?_ | refine vo_guard_skip rfl rfl rfl rfl ?_ | refine vo_guard_undef rfl rfl rfl ?_ | refine vs_seq ?_ | refine vs_region ?_ | refine oN ?_ | refine nQ ?_ | refine vs_skip ?_ | refine vs_block ?_ | refine vs_ret ?_ | refine fin_seq_ret ?_ | refine fin_blk_ret ?_ | refine fin_loop_ret ?_ | refine vs_cond_true rfl ?_ | refine vs_cond_false rfl ?_ | refine fin_blk ?_ | refine vs_exit ?_ | refine fin_seq_exit ?_ | refine fin_loop_exit ?_ | refine fin_blk_exit rfl ?_ | refine fin_blk_other rfl ?_ | refine vo_fieldAddr rfl rfl ?_ | refine vo_loadB rfl (by assumption) rfl rfl ?_ | refine vo_load rfl (by assumption) rfl ?_ | refine vo_loadA rfl (by assumption) rfl rfl ?_ | refine vo_loadAt rfl (by assumption) rfl rfl ?_ | refine vo_val _ (runs_lenS rfl) rfl ?_ | refine vo_val _ (runs_lenL rfl) rfl ?_ | refine vo_val _ (runs_add rfl rfl (by omega)) rfl ?_ | refine vo_val _ (runs_sub rfl rfl (by omega)) rfl ?_ | refine vo_val _ (runs_catL rfl rfl (by ((try simp only[List.length_append,List.length_cons,List.length_nil]); omega))) rfl ?_ | refine vq_val _ (fun _ _=>runs_catL rfl rfl (by ((try simp only[List.length_append,List.length_cons,List.length_nil]); omega))) rfl ?_ | refine vo_val _ (runs_eqB rfl rfl) rfl ?_ | refine vo_val _ (runs_neB rfl rfl) rfl ?_ | refine vo_build rfl rfl rfl ?_ | refine vo_val _ (runs_index0 rfl (by omega)) rfl ?_ | refine vo_val _ (runs_index rfl rfl (by omega)) rfl ?_ | refine vs_drawn (by kernel_rfl) ?_ | refine vq_pure rfl rfl ?_ | refine vo_val _ (runs_nilCheck rfl) rfl ?_ | refine vq_val _ (fun _ _=>runs_nilCheck rfl) rfl ?_ | refine vq_guard_take rfl rfl ?_ | refine vq_guard_skip rfl rfl rfl rfl ?_ | refine vq_guard_undef rfl rfl rfl ?_ | refine vq_fieldAddr rfl rfl ?_ | refine vq_loadB rfl (by assumption) rfl rfl ?_ | refine vq_load rfl (by assumption) rfl rfl ?_ | refine vq_loadA rfl (by assumption) rfl rfl ?_ | refine vq_loadAt rfl (by assumption) rfl rfl ?_ | refine vq_val _ (fun _ _=>runs_lenS rfl) rfl ?_ | refine vq_val _ (fun _ _=>runs_lenL rfl) rfl ?_ | refine vq_val _ (fun _ _=>runs_add rfl rfl (by omega)) rfl ?_ | refine vq_val _ (fun _ _=>runs_sub rfl rfl (by omega)) rfl ?_ | refine vq_val _ (fun _ _=>runs_eqB rfl rfl) rfl ?_ | refine vq_val _ (fun _ _=>runs_neB rfl rfl) rfl ?_ | refine vq_build rfl rfl rfl ?_ | refine vq_val _ (fun _ _=>runs_index0 rfl (by omega)) rfl ?_ | refine vq_val _ (fun _ _=>runs_index rfl rfl (by omega)) rfl ?_ | refine vs_label ?_))
  (refine vo_store rfl rfl B1 rfl rfl rfl rfl ?_; intro w1 hW hN; have zz:=hW.size; (first | replace hb:=hb.trans (hW.below (by assumption)) | replace hb:=hb.trans (WE.of_wr hW) | replace hb:=hb.thenWr hW (by omega)); (try replace h1:=h1.wr hW (by omega)); (try replace h2:=h2.wr hW (by omega)); (try replace h3:=h3.wr hW (by omega)); (try replace h4:=h4.wr hW (by omega)); (try replace h5:=h5.wr hW (by omega)); (try replace h6:=h6.wr hW (by omega)); (try replace h7:=h7.wr hW (by omega)); (try replace h8:=h8.wr hW (by omega)); (try replace h9:=h9.wr hW (by omega)); (try replace B2:=B2.wr hW (by omega)); (try replace B3:=B3.wr hW (by omega)); (try replace B4:=B4.wr hW (by omega)); (try replace B5:=B5.wr hW (by omega)); (try replace B6:=B6.wr hW (by omega)); (try replace O1:=O1.wr hW (by intro e2; cases e2; omega)); clear B1; have B1:=hN; clear hN hW; (try dsimp at B1))
  (repeat (first | refine vo_pure rfl rfl ?_ | refine vo_guard_take rfl rfl ?_ | refine vo_guard_skip rfl rfl rfl rfl ?_ | refine vo_guard_undef rfl rfl rfl ?_ | refine vs_seq ?_ | refine vs_region ?_ | refine oN ?_ | refine nQ ?_ | refine vs_skip ?_ | refine vs_block ?_ | refine vs_ret ?_ | refine fin_seq_ret ?_ | refine fin_blk_ret ?_ | refine fin_loop_ret ?_ | refine vs_cond_true rfl ?_ | refine vs_cond_false rfl ?_ | refine fin_blk ?_ | refine vs_exit ?_ | refine fin_seq_exit ?_ | refine fin_loop_exit ?_ | refine fin_blk_exit rfl ?_ | refine fin_blk_other rfl ?_ | refine vo_fieldAddr rfl rfl ?_ | refine vo_loadB rfl (by assumption) rfl rfl ?_ | refine vo_load rfl (by assumption) rfl ?_ | refine vo_loadA rfl (by assumption) rfl rfl ?_ | refine vo_loadAt rfl (by assumption) rfl rfl ?_ | refine vo_val _ (runs_lenS rfl) rfl ?_ | refine vo_val _ (runs_lenL rfl) rfl ?_ | refine vo_val _ (runs_add rfl rfl (by omega)) rfl ?_ | refine vo_val _ (runs_sub rfl rfl (by omega)) rfl ?_ | refine vo_val _ (runs_catL rfl rfl (by ((try simp only[List.length_append,List.length_cons,List.length_nil]); omega))) rfl ?_ | refine vq_val _ (fun _ _=>runs_catL rfl rfl (by ((try simp only[List.length_append,List.length_cons,List.length_nil]); omega))) rfl ?_ | refine vo_val _ (runs_eqB rfl rfl) rfl ?_ | refine vo_val _ (runs_neB rfl rfl) rfl ?_ | refine vo_build rfl rfl rfl ?_ | refine vo_val _ (runs_index0 rfl (by omega)) rfl ?_ | refine vo_val _ (runs_index rfl rfl (by omega)) rfl ?_ | refine vs_drawn (by kernel_rfl) ?_ | refine vq_pure rfl rfl ?_ | refine vo_val _ (runs_nilCheck rfl) rfl ?_ | refine vq_val _ (fun _ _=>runs_nilCheck rfl) rfl ?_ | refine vq_guard_take rfl rfl ?_ | refine vq_guard_skip rfl rfl rfl rfl ?_ | refine vq_guard_undef rfl rfl rfl ?_ | refine vq_fieldAddr rfl rfl ?_ | refine vq_loadB rfl (by assumption) rfl rfl ?_ | refine vq_load rfl (by assumption) rfl rfl ?_ | refine vq_loadA rfl (by assumption) rfl rfl ?_ | refine vq_loadAt rfl (by assumption) rfl rfl ?_ | refine vq_val _ (fun _ _=>runs_lenS rfl) rfl ?_ | refine vq_val _ (fun _ _=>runs_lenL rfl) rfl ?_ | refine vq_val _ (fun _ _=>runs_add rfl rfl (by omega)) rfl ?_ | refine vq_val _ (fun _ _=>runs_sub rfl rfl (by omega)) rfl ?_ | refine vq_val _ (fun _ _=>runs_eqB rfl rfl) rfl ?_ | refine vq_val _ (fun _ _=>runs_neB rfl rfl) rfl ?_ | refine vq_build rfl rfl rfl ?_ | refine vq_val _ (fun _ _=>runs_index0 rfl (by omega)) rfl ?_ | refine vq_val _ (fun _ _=>runs_index rfl rfl (by omega)) rfl ?_ | refine vs_label ?_))
  (first | refine fin_ret1 Tryz.results78 rfl ?_ | refine fin_end1 Tryz.results78 rfl ?_ | refine fin_ret2 Tryz.results78 rfl rfl ?_ | refine fin_retC1 Tryz.results78 rfl (by assumption) rfl rfl ?_ | refine fin_retC Tryz.results78 rfl (by assumption) rfl ?_)
  exact ff _ hb
 have h4:ps.length=4:=by simp at hc; omega
 clear hc;rw[if_pos h4] at h;obtain⟨q,hq⟩:∃q,rwG ps []=some q:=by
  cases hq:rwG ps [] with
  | none=>rw[hq] at h; cases h
  | some q=>exact⟨q,rfl⟩
 rw[hq] at h;obtain⟨b,rfl⟩:∃b,g=some b:=by
  cases g with
  | none =>
    rcases O1 with ⟨_,e,_⟩ | ⟨b,_,_,_,e,_⟩
    ·omega
    ·cases e
  | some b=>exact⟨b,rfl⟩
 have hbl:=hgl b rfl;have b3lt:=O1.lt b rfl;obtain⟨op,cp,ev,_⟩:=id O1.at;cases ev
 (repeat (first | refine vo_pure rfl rfl ?_ | refine vo_guard_take rfl rfl ?_ | refine vo_guard_skip rfl rfl rfl rfl ?_ | refine vo_guard_undef rfl rfl rfl ?_ | refine vs_seq ?_ | refine vs_region ?_ | refine oN ?_ | refine nQ ?_ | refine vs_skip ?_ | refine vs_block ?_ | refine vs_ret ?_ | refine fin_seq_ret ?_ | refine fin_blk_ret ?_ | refine fin_loop_ret ?_ | refine vs_cond_true rfl ?_ | refine vs_cond_false rfl ?_ | refine fin_blk ?_ | refine vs_exit ?_ | refine fin_seq_exit ?_ | refine fin_loop_exit ?_ | refine fin_blk_exit rfl ?_ | refine fin_blk_other rfl ?_ | refine vo_fieldAddr rfl rfl ?_ | refine vo_loadB rfl (by assumption) rfl rfl ?_ | refine vo_load rfl (by assumption) rfl ?_ | refine vo_loadA rfl (by assumption) rfl rfl ?_ | refine vo_loadAt rfl (by assumption) rfl rfl ?_ | refine vo_val _ (runs_lenS rfl) rfl ?_ | refine vo_val _ (runs_lenL rfl) rfl ?_ | refine vo_val _ (runs_add rfl rfl (by omega)) rfl ?_ | refine vo_val _ (runs_sub rfl rfl (by omega)) rfl ?_ | refine vo_val _ (runs_catL rfl rfl (by ((try simp only[List.length_append,List.length_cons,List.length_nil]); omega))) rfl ?_ | refine vq_val _ (fun _ _=>runs_catL rfl rfl (by ((try simp only[List.length_append,List.length_cons,List.length_nil]); omega))) rfl ?_ | refine vo_val _ (runs_eqB rfl rfl) rfl ?_ | refine vo_val _ (runs_neB rfl rfl) rfl ?_ | refine vo_build rfl rfl rfl ?_ | refine vo_val _ (runs_index0 rfl (by omega)) rfl ?_ | refine vo_val _ (runs_index rfl rfl (by omega)) rfl ?_ | refine vs_drawn (by kernel_rfl) ?_ | refine vq_pure rfl rfl ?_ | refine vo_val _ (runs_nilCheck rfl) rfl ?_ | refine vq_val _ (fun _ _=>runs_nilCheck rfl) rfl ?_ | refine vq_guard_take rfl rfl ?_ | refine vq_guard_skip rfl rfl rfl rfl ?_ | refine vq_guard_undef rfl rfl rfl ?_ | refine vq_fieldAddr rfl rfl ?_ | refine vq_loadB rfl (by assumption) rfl rfl ?_ | refine vq_load rfl (by assumption) rfl rfl ?_ | refine vq_loadA rfl (by assumption) rfl rfl ?_ | refine vq_loadAt rfl (by assumption) rfl rfl ?_ | refine vq_val _ (fun _ _=>runs_lenS rfl) rfl ?_ | refine vq_val _ (fun _ _=>runs_lenL rfl) rfl ?_ | refine vq_val _ (fun _ _=>runs_add rfl rfl (by omega)) rfl ?_ | refine vq_val _ (fun _ _=>runs_sub rfl rfl (by omega)) rfl ?_ | refine vq_val _ (fun _ _=>runs_eqB rfl rfl) rfl ?_ | refine vq_val _ (fun _ _=>runs_neB rfl rfl) rfl ?_ | refine vq_build rfl rfl rfl ?_ | refine vq_val _ (fun _ _=>runs_index0 rfl (by omega)) rfl ?_ | refine vq_val _ (fun _ _=>runs_index rfl rfl (by omega)) rfl ?_ | refine vs_label ?_))
 (refine vo_alloc rfl rfl ?_; intro b2 w1 hN B2; have zz:=hN.eq; have zz:=hN.size; have hE:=hN.ext; have g2:w.heap.size<=b2:=(by rw[<- hN.eq]; exact hb.size); (try have l1_2:b1<b2:=(by rw[<- hN.eq]; exact B1.lt)); have zz:=hE.size; (first | replace hb:=hb.trans (hE.mono hb.size) | replace hb:=hb.trans (WE.of_ext hE)); (try replace h1:=h1.up hE); (try replace h2:=h2.up hE); (try replace h3:=h3.up hE); (try replace h4:=h4.up hE); (try replace h5:=h5.up hE); (try replace h6:=h6.up hE); (try replace h7:=h7.up hE); (try replace h8:=h8.up hE); (try replace h9:=h9.up hE); (try replace B1:=B1.up hE); (try replace B3:=B3.up hE); (try replace B4:=B4.up hE); (try replace B5:=B5.up hE); (try replace B6:=B6.up hE); (try replace O1:=O1.up hE); (try clear hN hE); (try dsimp at B2))
 (repeat (first | refine vo_pure rfl rfl ?_ | refine vo_guard_take rfl rfl ?_ | refine vo_guard_skip rfl rfl rfl rfl ?_ | refine vo_guard_undef rfl rfl rfl ?_ | refine vs_seq ?_ | refine vs_region ?_ | refine oN ?_ | refine nQ ?_ | refine vs_skip ?_ | refine vs_block ?_ | refine vs_ret ?_ | refine fin_seq_ret ?_ | refine fin_blk_ret ?_ | refine fin_loop_ret ?_ | refine vs_cond_true rfl ?_ | refine vs_cond_false rfl ?_ | refine fin_blk ?_ | refine vs_exit ?_ | refine fin_seq_exit ?_ | refine fin_loop_exit ?_ | refine fin_blk_exit rfl ?_ | refine fin_blk_other rfl ?_ | refine vo_fieldAddr rfl rfl ?_ | refine vo_loadB rfl (by assumption) rfl rfl ?_ | refine vo_load rfl (by assumption) rfl ?_ | refine vo_loadA rfl (by assumption) rfl rfl ?_ | refine vo_loadAt rfl (by assumption) rfl rfl ?_ | refine vo_val _ (runs_lenS rfl) rfl ?_ | refine vo_val _ (runs_lenL rfl) rfl ?_ | refine vo_val _ (runs_add rfl rfl (by omega)) rfl ?_ | refine vo_val _ (runs_sub rfl rfl (by omega)) rfl ?_ | refine vo_val _ (runs_catL rfl rfl (by ((try simp only[List.length_append,List.length_cons,List.length_nil]); omega))) rfl ?_ | refine vq_val _ (fun _ _=>runs_catL rfl rfl (by ((try simp only[List.length_append,List.length_cons,List.length_nil]); omega))) rfl ?_ | refine vo_val _ (runs_eqB rfl rfl) rfl ?_ | refine vo_val _ (runs_neB rfl rfl) rfl ?_ | refine vo_build rfl rfl rfl ?_ | refine vo_val _ (runs_index0 rfl (by omega)) rfl ?_ | refine vo_val _ (runs_index rfl rfl (by omega)) rfl ?_ | refine vs_drawn (by kernel_rfl) ?_ | refine vq_pure rfl rfl ?_ | refine vo_val _ (runs_nilCheck rfl) rfl ?_ | refine vq_val _ (fun _ _=>runs_nilCheck rfl) rfl ?_ | refine vq_guard_take rfl rfl ?_ | refine vq_guard_skip rfl rfl rfl rfl ?_ | refine vq_guard_undef rfl rfl rfl ?_ | refine vq_fieldAddr rfl rfl ?_ | refine vq_loadB rfl (by assumption) rfl rfl ?_ | refine vq_load rfl (by assumption) rfl rfl ?_ | refine vq_loadA rfl (by assumption) rfl rfl ?_ | refine vq_loadAt rfl (by assumption) rfl rfl ?_ | refine vq_val _ (fun _ _=>runs_lenS rfl) rfl ?_ | refine vq_val _ (fun _ _=>runs_lenL rfl) rfl ?_ | refine vq_val _ (fun _ _=>runs_add rfl rfl (by omega)) rfl ?_ | refine vq_val _ (fun _ _=>runs_sub rfl rfl (by omega)) rfl ?_ | refine vq_val _ (fun _ _=>runs_eqB rfl rfl) rfl ?_ | refine vq_val _ (fun _ _=>runs_neB rfl rfl) rfl ?_ | refine vq_build rfl rfl rfl ?_ | refine vq_val _ (fun _ _=>runs_index0 rfl (by omega)) rfl ?_ | refine vq_val _ (fun _ _=>runs_index rfl rfl (by omega)) rfl ?_ | refine vs_label ?_))
 refine vs_loop (fun k:Nat=>(21,.int .i64 (k:Int)) :: (20,.int .i64 (ps.length:Int)) :: (19,.slice (some ⟨b,op,none⟩) ps.length pc) :: (7,.pointer (some ⟨b2,0,none⟩)) :: (4,.pointer (some ⟨b1,0,none⟩)) :: (1,.int .i64 n) :: []) (fun k w'=>k<=4/\∃vs gs xs,vs.length=k/\Blk w' b2 (vs++reps (4-k) [.slice none 0 0]) 184/\RwL (b2+1) w' vs gs xs/\NoDup gs/\rwG (ps.drop k) xs=some q/\Own w' 9 1 (some b) (.slice (some ⟨b,op,none⟩) ps.length pc) ps.length (ps.map Value.string)/\Blk w' b1 [.slice none 0 0,.slice none 0 0,.slice none 0 0,.slice none 0 0] 36/\Below w.heap.size w w') (fun k=>4-k) 0 ⟨Nat.zero_le _,[],[],[],rfl,B2,⟨rfl,rfl⟩,trivial,hq,by rw[<- hcs]; exact O1,B1,hb⟩ (by ((repeat (refine sub_cons rfl ?_)); exact sub_nil)) ?_;clear B1 B2 O1 hb;rintro k w3 ⟨hk,vs,gs,xs,hvs,B2,hA,hN,hq,O1,B1,hb⟩
 (repeat (first | refine vo_pure rfl rfl ?_ | refine vo_guard_take rfl rfl ?_ | refine vo_guard_skip rfl rfl rfl rfl ?_ | refine vo_guard_undef rfl rfl rfl ?_ | refine vs_seq ?_ | refine vs_region ?_ | refine oN ?_ | refine nQ ?_ | refine vs_skip ?_ | refine vs_block ?_ | refine vs_ret ?_ | refine fin_seq_ret ?_ | refine fin_blk_ret ?_ | refine fin_loop_ret ?_ | refine vs_cond_true rfl ?_ | refine vs_cond_false rfl ?_ | refine fin_blk ?_ | refine vs_exit ?_ | refine fin_seq_exit ?_ | refine fin_loop_exit ?_ | refine fin_blk_exit rfl ?_ | refine fin_blk_other rfl ?_ | refine vo_fieldAddr rfl rfl ?_ | refine vo_loadB rfl (by assumption) rfl rfl ?_ | refine vo_load rfl (by assumption) rfl ?_ | refine vo_loadA rfl (by assumption) rfl rfl ?_ | refine vo_loadAt rfl (by assumption) rfl rfl ?_ | refine vo_val _ (runs_lenS rfl) rfl ?_ | refine vo_val _ (runs_lenL rfl) rfl ?_ | refine vo_val _ (runs_add rfl rfl (by omega)) rfl ?_ | refine vo_val _ (runs_sub rfl rfl (by omega)) rfl ?_ | refine vo_val _ (runs_catL rfl rfl (by ((try simp only[List.length_append,List.length_cons,List.length_nil]); omega))) rfl ?_ | refine vq_val _ (fun _ _=>runs_catL rfl rfl (by ((try simp only[List.length_append,List.length_cons,List.length_nil]); omega))) rfl ?_ | refine vo_val _ (runs_eqB rfl rfl) rfl ?_ | refine vo_val _ (runs_neB rfl rfl) rfl ?_ | refine vo_build rfl rfl rfl ?_ | refine vo_val _ (runs_index0 rfl (by omega)) rfl ?_ | refine vo_val _ (runs_index rfl rfl (by omega)) rfl ?_ | refine vs_drawn (by kernel_rfl) ?_ | refine vq_pure rfl rfl ?_ | refine vo_val _ (runs_nilCheck rfl) rfl ?_ | refine vq_val _ (fun _ _=>runs_nilCheck rfl) rfl ?_ | refine vq_guard_take rfl rfl ?_ | refine vq_guard_skip rfl rfl rfl rfl ?_ | refine vq_guard_undef rfl rfl rfl ?_ | refine vq_fieldAddr rfl rfl ?_ | refine vq_loadB rfl (by assumption) rfl rfl ?_ | refine vq_load rfl (by assumption) rfl rfl ?_ | refine vq_loadA rfl (by assumption) rfl rfl ?_ | refine vq_loadAt rfl (by assumption) rfl rfl ?_ | refine vq_val _ (fun _ _=>runs_lenS rfl) rfl ?_ | refine vq_val _ (fun _ _=>runs_lenL rfl) rfl ?_ | refine vq_val _ (fun _ _=>runs_add rfl rfl (by omega)) rfl ?_ | refine vq_val _ (fun _ _=>runs_sub rfl rfl (by omega)) rfl ?_ | refine vq_val _ (fun _ _=>runs_eqB rfl rfl) rfl ?_ | refine vq_val _ (fun _ _=>runs_neB rfl rfl) rfl ?_ | refine vq_build rfl rfl rfl ?_ | refine vq_val _ (fun _ _=>runs_index0 rfl (by omega)) rfl ?_ | refine vq_val _ (fun _ _=>runs_index rfl rfl (by omega)) rfl ?_ | refine vs_label ?_))
 refine vs_cond rfl (fun hc=>?_) (fun hc=>?_)
 ·have hlt:k<4:=by simp at hc; omega
  have hkp:k<ps.length:=by omega
  have e1:4-k=(4-(k+1))+1:=by omega
  rw[e1] at B2;have b2lt:=B2.lt;rw[List.drop_eq_getElem_cons hkp,rwG] at hq;obtain⟨hq0,hq⟩:=gd_some hq;obtain⟨⟨x,ok⟩,hx⟩:=Option.isSome_iff_exists.1 hq0.1;rw[hx,vS] at hq;have hat:At w3 b op (ps.map Value.string):=by
   obtain⟨o',c',e',ha⟩:=O1.at;cases e';exact ha
  have hcell:w3.cell? ⟨b,op+k*1,none⟩=some (.string ps[k]):=by
   have:=hat k (.string ps[k]) (by simp[hkp]);rw[Nat.mul_one]; exact this
  have hsz:ps[k].size<=9223372036854775807:=by
   have:=hA0 ps[k] (List.getElem_mem hkp);exact this
  (repeat (first | refine vo_pure rfl rfl ?_ | refine vo_guard_take rfl rfl ?_ | refine vo_guard_skip rfl rfl rfl rfl ?_ | refine vo_guard_undef rfl rfl rfl ?_ | refine vs_seq ?_ | refine vs_region ?_ | refine oN ?_ | refine nQ ?_ | refine vs_skip ?_ | refine vs_block ?_ | refine vs_ret ?_ | refine fin_seq_ret ?_ | refine fin_blk_ret ?_ | refine fin_loop_ret ?_ | refine vs_cond_true rfl ?_ | refine vs_cond_false rfl ?_ | refine fin_blk ?_ | refine vs_exit ?_ | refine fin_seq_exit ?_ | refine fin_loop_exit ?_ | refine fin_blk_exit rfl ?_ | refine fin_blk_other rfl ?_ | refine vo_fieldAddr rfl rfl ?_ | refine vo_loadB rfl (by assumption) rfl rfl ?_ | refine vo_load rfl (by assumption) rfl ?_ | refine vo_loadA rfl (by assumption) rfl rfl ?_ | refine vo_loadAt rfl (by assumption) rfl rfl ?_ | refine vo_val _ (runs_lenS rfl) rfl ?_ | refine vo_val _ (runs_lenL rfl) rfl ?_ | refine vo_val _ (runs_add rfl rfl (by omega)) rfl ?_ | refine vo_val _ (runs_sub rfl rfl (by omega)) rfl ?_ | refine vo_val _ (runs_catL rfl rfl (by ((try simp only[List.length_append,List.length_cons,List.length_nil]); omega))) rfl ?_ | refine vq_val _ (fun _ _=>runs_catL rfl rfl (by ((try simp only[List.length_append,List.length_cons,List.length_nil]); omega))) rfl ?_ | refine vo_val _ (runs_eqB rfl rfl) rfl ?_ | refine vo_val _ (runs_neB rfl rfl) rfl ?_ | refine vo_build rfl rfl rfl ?_ | refine vo_val _ (runs_index0 rfl (by omega)) rfl ?_ | refine vo_val _ (runs_index rfl rfl (by omega)) rfl ?_ | refine vs_drawn (by kernel_rfl) ?_ | refine vq_pure rfl rfl ?_ | refine vo_val _ (runs_nilCheck rfl) rfl ?_ | refine vq_val _ (fun _ _=>runs_nilCheck rfl) rfl ?_ | refine vq_guard_take rfl rfl ?_ | refine vq_guard_skip rfl rfl rfl rfl ?_ | refine vq_guard_undef rfl rfl rfl ?_ | refine vq_fieldAddr rfl rfl ?_ | refine vq_loadB rfl (by assumption) rfl rfl ?_ | refine vq_load rfl (by assumption) rfl rfl ?_ | refine vq_loadA rfl (by assumption) rfl rfl ?_ | refine vq_loadAt rfl (by assumption) rfl rfl ?_ | refine vq_val _ (fun _ _=>runs_lenS rfl) rfl ?_ | refine vq_val _ (fun _ _=>runs_lenL rfl) rfl ?_ | refine vq_val _ (fun _ _=>runs_add rfl rfl (by omega)) rfl ?_ | refine vq_val _ (fun _ _=>runs_sub rfl rfl (by omega)) rfl ?_ | refine vq_val _ (fun _ _=>runs_eqB rfl rfl) rfl ?_ | refine vq_val _ (fun _ _=>runs_neB rfl rfl) rfl ?_ | refine vq_build rfl rfl rfl ?_ | refine vq_val _ (fun _ _=>runs_index0 rfl (by omega)) rfl ?_ | refine vq_val _ (fun _ _=>runs_index rfl rfl (by omega)) rfl ?_ | refine vs_label ?_))
  refine vo_idxM rfl rfl hkp rfl ?_;refine vo_load rfl hcell rfl ?_
  (repeat (first | refine vo_pure rfl rfl ?_ | refine vo_guard_take rfl rfl ?_ | refine vo_guard_skip rfl rfl rfl rfl ?_ | refine vo_guard_undef rfl rfl rfl ?_ | refine vs_seq ?_ | refine vs_region ?_ | refine oN ?_ | refine nQ ?_ | refine vs_skip ?_ | refine vs_block ?_ | refine vs_ret ?_ | refine fin_seq_ret ?_ | refine fin_blk_ret ?_ | refine fin_loop_ret ?_ | refine vs_cond_true rfl ?_ | refine vs_cond_false rfl ?_ | refine fin_blk ?_ | refine vs_exit ?_ | refine fin_seq_exit ?_ | refine fin_loop_exit ?_ | refine fin_blk_exit rfl ?_ | refine fin_blk_other rfl ?_ | refine vo_fieldAddr rfl rfl ?_ | refine vo_loadB rfl (by assumption) rfl rfl ?_ | refine vo_load rfl (by assumption) rfl ?_ | refine vo_loadA rfl (by assumption) rfl rfl ?_ | refine vo_loadAt rfl (by assumption) rfl rfl ?_ | refine vo_val _ (runs_lenS rfl) rfl ?_ | refine vo_val _ (runs_lenL rfl) rfl ?_ | refine vo_val _ (runs_add rfl rfl (by omega)) rfl ?_ | refine vo_val _ (runs_sub rfl rfl (by omega)) rfl ?_ | refine vo_val _ (runs_catL rfl rfl (by ((try simp only[List.length_append,List.length_cons,List.length_nil]); omega))) rfl ?_ | refine vq_val _ (fun _ _=>runs_catL rfl rfl (by ((try simp only[List.length_append,List.length_cons,List.length_nil]); omega))) rfl ?_ | refine vo_val _ (runs_eqB rfl rfl) rfl ?_ | refine vo_val _ (runs_neB rfl rfl) rfl ?_ | refine vo_build rfl rfl rfl ?_ | refine vo_val _ (runs_index0 rfl (by omega)) rfl ?_ | refine vo_val _ (runs_index rfl rfl (by omega)) rfl ?_ | refine vs_drawn (by kernel_rfl) ?_ | refine vq_pure rfl rfl ?_ | refine vo_val _ (runs_nilCheck rfl) rfl ?_ | refine vq_val _ (fun _ _=>runs_nilCheck rfl) rfl ?_ | refine vq_guard_take rfl rfl ?_ | refine vq_guard_skip rfl rfl rfl rfl ?_ | refine vq_guard_undef rfl rfl rfl ?_ | refine vq_fieldAddr rfl rfl ?_ | refine vq_loadB rfl (by assumption) rfl rfl ?_ | refine vq_load rfl (by assumption) rfl rfl ?_ | refine vq_loadA rfl (by assumption) rfl rfl ?_ | refine vq_loadAt rfl (by assumption) rfl rfl ?_ | refine vq_val _ (fun _ _=>runs_lenS rfl) rfl ?_ | refine vq_val _ (fun _ _=>runs_lenL rfl) rfl ?_ | refine vq_val _ (fun _ _=>runs_add rfl rfl (by omega)) rfl ?_ | refine vq_val _ (fun _ _=>runs_sub rfl rfl (by omega)) rfl ?_ | refine vq_val _ (fun _ _=>runs_eqB rfl rfl) rfl ?_ | refine vq_val _ (fun _ _=>runs_neB rfl rfl) rfl ?_ | refine vq_build rfl rfl rfl ?_ | refine vq_val _ (fun _ _=>runs_index0 rfl (by omega)) rfl ?_ | refine vq_val _ (fun _ _=>runs_index rfl rfl (by omega)) rfl ?_ | refine vs_label ?_))
  refine vo_call rfl rfl (Calls.mono (ok_callA o134 (fun _=>rfl) rfl (x:=(ps[k],ByteArray.mk #[44],())) hx ⟨_,_,rfl,⟨rfl,hsz⟩,⟨_,_,rfl,⟨rfl,by show(1:Nat)<=9223372036854775807; omega⟩,⟨rfl,rfl⟩⟩⟩ (hF.up hb)) ?_);rintro _ w4 ⟨v,gx,rfl,hE,hNx,hgx,hr⟩;obtain⟨us,rfl,u1,us1,ga,gb,rfl,rfl,⟨g,cs',rfl,_,hO,hAl⟩,u2,us2,gc,gd',rfl,rfl,⟨eb,rfl⟩,rfl,rfl⟩:=hr;simp only[RT,List.cons.injEq,and_true] at eb;subst eb;obtain⟨rfl,hI⟩:=allR_cells hAl;have hO:OwnI w4 2 g u1 x:=⟨hO,hI⟩;have hgn:∀i,g=some i->w3.heap.size<=i:=fun i e=>(hgx i (by rw[e]; simp)).1;refine⟨_,rfl,?_⟩;have zz:=hE.size
  replace B1:=B1.up hE
  replace B2:=B2.up hE
  replace O1:=O1.up hE
  have hlt4:=fun i hi=>(hA.lt i hi).2
  replace hA:=hA.up hE
  replace hb:=hb.trans (hE.mono hb.size)
  clear hE;have B4:Blk w4 b2 (vs++([.slice none 0 0]++reps (4-(k+1)) [.slice none 0 0])) 184:=B2;obtain⟨pv,cv,rfl⟩:=hO.1.len
  (repeat (first | refine vo_pure rfl rfl ?_ | refine vo_guard_take rfl rfl ?_ | refine vo_guard_skip rfl rfl rfl rfl ?_ | refine vo_guard_undef rfl rfl rfl ?_ | refine vs_seq ?_ | refine vs_region ?_ | refine oN ?_ | refine nQ ?_ | refine vs_skip ?_ | refine vs_block ?_ | refine vs_ret ?_ | refine fin_seq_ret ?_ | refine fin_blk_ret ?_ | refine fin_loop_ret ?_ | refine vs_cond_true rfl ?_ | refine vs_cond_false rfl ?_ | refine fin_blk ?_ | refine vs_exit ?_ | refine fin_seq_exit ?_ | refine fin_loop_exit ?_ | refine fin_blk_exit rfl ?_ | refine fin_blk_other rfl ?_ | refine vo_fieldAddr rfl rfl ?_ | refine vo_loadB rfl (by assumption) rfl rfl ?_ | refine vo_load rfl (by assumption) rfl ?_ | refine vo_loadA rfl (by assumption) rfl rfl ?_ | refine vo_loadAt rfl (by assumption) rfl rfl ?_ | refine vo_val _ (runs_lenS rfl) rfl ?_ | refine vo_val _ (runs_lenL rfl) rfl ?_ | refine vo_val _ (runs_add rfl rfl (by omega)) rfl ?_ | refine vo_val _ (runs_sub rfl rfl (by omega)) rfl ?_ | refine vo_val _ (runs_catL rfl rfl (by ((try simp only[List.length_append,List.length_cons,List.length_nil]); omega))) rfl ?_ | refine vq_val _ (fun _ _=>runs_catL rfl rfl (by ((try simp only[List.length_append,List.length_cons,List.length_nil]); omega))) rfl ?_ | refine vo_val _ (runs_eqB rfl rfl) rfl ?_ | refine vo_val _ (runs_neB rfl rfl) rfl ?_ | refine vo_build rfl rfl rfl ?_ | refine vo_val _ (runs_index0 rfl (by omega)) rfl ?_ | refine vo_val _ (runs_index rfl rfl (by omega)) rfl ?_ | refine vs_drawn (by kernel_rfl) ?_ | refine vq_pure rfl rfl ?_ | refine vo_val _ (runs_nilCheck rfl) rfl ?_ | refine vq_val _ (fun _ _=>runs_nilCheck rfl) rfl ?_ | refine vq_guard_take rfl rfl ?_ | refine vq_guard_skip rfl rfl rfl rfl ?_ | refine vq_guard_undef rfl rfl rfl ?_ | refine vq_fieldAddr rfl rfl ?_ | refine vq_loadB rfl (by assumption) rfl rfl ?_ | refine vq_load rfl (by assumption) rfl rfl ?_ | refine vq_loadA rfl (by assumption) rfl rfl ?_ | refine vq_loadAt rfl (by assumption) rfl rfl ?_ | refine vq_val _ (fun _ _=>runs_lenS rfl) rfl ?_ | refine vq_val _ (fun _ _=>runs_lenL rfl) rfl ?_ | refine vq_val _ (fun _ _=>runs_add rfl rfl (by omega)) rfl ?_ | refine vq_val _ (fun _ _=>runs_sub rfl rfl (by omega)) rfl ?_ | refine vq_val _ (fun _ _=>runs_eqB rfl rfl) rfl ?_ | refine vq_val _ (fun _ _=>runs_neB rfl rfl) rfl ?_ | refine vq_build rfl rfl rfl ?_ | refine vq_val _ (fun _ _=>runs_index0 rfl (by omega)) rfl ?_ | refine vq_val _ (fun _ _=>runs_index rfl rfl (by omega)) rfl ?_ | refine vs_label ?_))
  refine vs_cond rfl (fun hc=>?_) (fun hc=>?_)
  ·have h0:ps[k]=ByteArray.mk #[]:=by simpa using hc
   rw[if_pos h0] at hq
   (repeat (first | refine vo_pure rfl rfl ?_ | refine vo_guard_take rfl rfl ?_ | refine vo_guard_skip rfl rfl rfl rfl ?_ | refine vo_guard_undef rfl rfl rfl ?_ | refine vs_seq ?_ | refine vs_region ?_ | refine oN ?_ | refine nQ ?_ | refine vs_skip ?_ | refine vs_block ?_ | refine vs_ret ?_ | refine fin_seq_ret ?_ | refine fin_blk_ret ?_ | refine fin_loop_ret ?_ | refine vs_cond_true rfl ?_ | refine vs_cond_false rfl ?_ | refine fin_blk ?_ | refine vs_exit ?_ | refine fin_seq_exit ?_ | refine fin_loop_exit ?_ | refine fin_blk_exit rfl ?_ | refine fin_blk_other rfl ?_ | refine vo_fieldAddr rfl rfl ?_ | refine vo_loadB rfl (by assumption) rfl rfl ?_ | refine vo_load rfl (by assumption) rfl ?_ | refine vo_loadA rfl (by assumption) rfl rfl ?_ | refine vo_loadAt rfl (by assumption) rfl rfl ?_ | refine vo_val _ (runs_lenS rfl) rfl ?_ | refine vo_val _ (runs_lenL rfl) rfl ?_ | refine vo_val _ (runs_add rfl rfl (by omega)) rfl ?_ | refine vo_val _ (runs_sub rfl rfl (by omega)) rfl ?_ | refine vo_val _ (runs_catL rfl rfl (by ((try simp only[List.length_append,List.length_cons,List.length_nil]); omega))) rfl ?_ | refine vq_val _ (fun _ _=>runs_catL rfl rfl (by ((try simp only[List.length_append,List.length_cons,List.length_nil]); omega))) rfl ?_ | refine vo_val _ (runs_eqB rfl rfl) rfl ?_ | refine vo_val _ (runs_neB rfl rfl) rfl ?_ | refine vo_build rfl rfl rfl ?_ | refine vo_val _ (runs_index0 rfl (by omega)) rfl ?_ | refine vo_val _ (runs_index rfl rfl (by omega)) rfl ?_ | refine vs_drawn (by kernel_rfl) ?_ | refine vq_pure rfl rfl ?_ | refine vo_val _ (runs_nilCheck rfl) rfl ?_ | refine vq_val _ (fun _ _=>runs_nilCheck rfl) rfl ?_ | refine vq_guard_take rfl rfl ?_ | refine vq_guard_skip rfl rfl rfl rfl ?_ | refine vq_guard_undef rfl rfl rfl ?_ | refine vq_fieldAddr rfl rfl ?_ | refine vq_loadB rfl (by assumption) rfl rfl ?_ | refine vq_load rfl (by assumption) rfl rfl ?_ | refine vq_loadA rfl (by assumption) rfl rfl ?_ | refine vq_loadAt rfl (by assumption) rfl rfl ?_ | refine vq_val _ (fun _ _=>runs_lenS rfl) rfl ?_ | refine vq_val _ (fun _ _=>runs_lenL rfl) rfl ?_ | refine vq_val _ (fun _ _=>runs_add rfl rfl (by omega)) rfl ?_ | refine vq_val _ (fun _ _=>runs_sub rfl rfl (by omega)) rfl ?_ | refine vq_val _ (fun _ _=>runs_eqB rfl rfl) rfl ?_ | refine vq_val _ (fun _ _=>runs_neB rfl rfl) rfl ?_ | refine vq_build rfl rfl rfl ?_ | refine vq_val _ (fun _ _=>runs_index0 rfl (by omega)) rfl ?_ | refine vq_val _ (fun _ _=>runs_index rfl rfl (by omega)) rfl ?_ | refine vs_label ?_))
   refine vo_val _ (runs_idxA rfl rfl hlt) rfl ?_
   (repeat (first | refine vo_pure rfl rfl ?_ | refine vo_guard_take rfl rfl ?_ | refine vo_guard_skip rfl rfl rfl rfl ?_ | refine vo_guard_undef rfl rfl rfl ?_ | refine vs_seq ?_ | refine vs_region ?_ | refine oN ?_ | refine nQ ?_ | refine vs_skip ?_ | refine vs_block ?_ | refine vs_ret ?_ | refine fin_seq_ret ?_ | refine fin_blk_ret ?_ | refine fin_loop_ret ?_ | refine vs_cond_true rfl ?_ | refine vs_cond_false rfl ?_ | refine fin_blk ?_ | refine vs_exit ?_ | refine fin_seq_exit ?_ | refine fin_loop_exit ?_ | refine fin_blk_exit rfl ?_ | refine fin_blk_other rfl ?_ | refine vo_fieldAddr rfl rfl ?_ | refine vo_loadB rfl (by assumption) rfl rfl ?_ | refine vo_load rfl (by assumption) rfl ?_ | refine vo_loadA rfl (by assumption) rfl rfl ?_ | refine vo_loadAt rfl (by assumption) rfl rfl ?_ | refine vo_val _ (runs_lenS rfl) rfl ?_ | refine vo_val _ (runs_lenL rfl) rfl ?_ | refine vo_val _ (runs_add rfl rfl (by omega)) rfl ?_ | refine vo_val _ (runs_sub rfl rfl (by omega)) rfl ?_ | refine vo_val _ (runs_catL rfl rfl (by ((try simp only[List.length_append,List.length_cons,List.length_nil]); omega))) rfl ?_ | refine vq_val _ (fun _ _=>runs_catL rfl rfl (by ((try simp only[List.length_append,List.length_cons,List.length_nil]); omega))) rfl ?_ | refine vo_val _ (runs_eqB rfl rfl) rfl ?_ | refine vo_val _ (runs_neB rfl rfl) rfl ?_ | refine vo_build rfl rfl rfl ?_ | refine vo_val _ (runs_index0 rfl (by omega)) rfl ?_ | refine vo_val _ (runs_index rfl rfl (by omega)) rfl ?_ | refine vs_drawn (by kernel_rfl) ?_ | refine vq_pure rfl rfl ?_ | refine vo_val _ (runs_nilCheck rfl) rfl ?_ | refine vq_val _ (fun _ _=>runs_nilCheck rfl) rfl ?_ | refine vq_guard_take rfl rfl ?_ | refine vq_guard_skip rfl rfl rfl rfl ?_ | refine vq_guard_undef rfl rfl rfl ?_ | refine vq_fieldAddr rfl rfl ?_ | refine vq_loadB rfl (by assumption) rfl rfl ?_ | refine vq_load rfl (by assumption) rfl rfl ?_ | refine vq_loadA rfl (by assumption) rfl rfl ?_ | refine vq_loadAt rfl (by assumption) rfl rfl ?_ | refine vq_val _ (fun _ _=>runs_lenS rfl) rfl ?_ | refine vq_val _ (fun _ _=>runs_lenL rfl) rfl ?_ | refine vq_val _ (fun _ _=>runs_add rfl rfl (by omega)) rfl ?_ | refine vq_val _ (fun _ _=>runs_sub rfl rfl (by omega)) rfl ?_ | refine vq_val _ (fun _ _=>runs_eqB rfl rfl) rfl ?_ | refine vq_val _ (fun _ _=>runs_neB rfl rfl) rfl ?_ | refine vq_build rfl rfl rfl ?_ | refine vq_val _ (fun _ _=>runs_index0 rfl (by omega)) rfl ?_ | refine vq_val _ (fun _ _=>runs_index rfl rfl (by omega)) rfl ?_ | refine vs_label ?_))
   refine vo_storeAt rfl rfl B4 (by omega) rfl rfl rfl rfl ?_;intro w5 hW hN5
   replace hA:=hA.wr hW (by omega)
   replace O1:=O1.wr hW (fun e=>by cases e; omega)
   replace B1:=B1.wr hW (by omega)
   replace hb:=hb.trans (hW.below (by omega))
   (repeat (first | refine vo_pure rfl rfl ?_ | refine vo_guard_take rfl rfl ?_ | refine vo_guard_skip rfl rfl rfl rfl ?_ | refine vo_guard_undef rfl rfl rfl ?_ | refine vs_seq ?_ | refine vs_region ?_ | refine oN ?_ | refine nQ ?_ | refine vs_skip ?_ | refine vs_block ?_ | refine vs_ret ?_ | refine fin_seq_ret ?_ | refine fin_blk_ret ?_ | refine fin_loop_ret ?_ | refine vs_cond_true rfl ?_ | refine vs_cond_false rfl ?_ | refine fin_blk ?_ | refine vs_exit ?_ | refine fin_seq_exit ?_ | refine fin_loop_exit ?_ | refine fin_blk_exit rfl ?_ | refine fin_blk_other rfl ?_ | refine vo_fieldAddr rfl rfl ?_ | refine vo_loadB rfl (by assumption) rfl rfl ?_ | refine vo_load rfl (by assumption) rfl ?_ | refine vo_loadA rfl (by assumption) rfl rfl ?_ | refine vo_loadAt rfl (by assumption) rfl rfl ?_ | refine vo_val _ (runs_lenS rfl) rfl ?_ | refine vo_val _ (runs_lenL rfl) rfl ?_ | refine vo_val _ (runs_add rfl rfl (by omega)) rfl ?_ | refine vo_val _ (runs_sub rfl rfl (by omega)) rfl ?_ | refine vo_val _ (runs_catL rfl rfl (by ((try simp only[List.length_append,List.length_cons,List.length_nil]); omega))) rfl ?_ | refine vq_val _ (fun _ _=>runs_catL rfl rfl (by ((try simp only[List.length_append,List.length_cons,List.length_nil]); omega))) rfl ?_ | refine vo_val _ (runs_eqB rfl rfl) rfl ?_ | refine vo_val _ (runs_neB rfl rfl) rfl ?_ | refine vo_build rfl rfl rfl ?_ | refine vo_val _ (runs_index0 rfl (by omega)) rfl ?_ | refine vo_val _ (runs_index rfl rfl (by omega)) rfl ?_ | refine vs_drawn (by kernel_rfl) ?_ | refine vq_pure rfl rfl ?_ | refine vo_val _ (runs_nilCheck rfl) rfl ?_ | refine vq_val _ (fun _ _=>runs_nilCheck rfl) rfl ?_ | refine vq_guard_take rfl rfl ?_ | refine vq_guard_skip rfl rfl rfl rfl ?_ | refine vq_guard_undef rfl rfl rfl ?_ | refine vq_fieldAddr rfl rfl ?_ | refine vq_loadB rfl (by assumption) rfl rfl ?_ | refine vq_load rfl (by assumption) rfl rfl ?_ | refine vq_loadA rfl (by assumption) rfl rfl ?_ | refine vq_loadAt rfl (by assumption) rfl rfl ?_ | refine vq_val _ (fun _ _=>runs_lenS rfl) rfl ?_ | refine vq_val _ (fun _ _=>runs_lenL rfl) rfl ?_ | refine vq_val _ (fun _ _=>runs_add rfl rfl (by omega)) rfl ?_ | refine vq_val _ (fun _ _=>runs_sub rfl rfl (by omega)) rfl ?_ | refine vq_val _ (fun _ _=>runs_eqB rfl rfl) rfl ?_ | refine vq_val _ (fun _ _=>runs_neB rfl rfl) rfl ?_ | refine vq_build rfl rfl rfl ?_ | refine vq_val _ (fun _ _=>runs_index0 rfl (by omega)) rfl ?_ | refine vq_val _ (fun _ _=>runs_index rfl rfl (by omega)) rfl ?_ | refine vs_label ?_))
   refine fin_loop (k+1) ⟨hlt,vs++[.slice none 0 0],gs++[none],xs++[[]],by simp; omega,by rw[List.append_assoc]; exact hN5,hA.app nilO (fun _ e=>by cases e),hN.snoc (fun _ e=>by cases e),hq,O1,B1,hb⟩ (by omega) (by ((repeat (refine sub_cons rfl ?_)); exact sub_nil))
  have h0:¬ps[k]=ByteArray.mk #[]:=by simpa using hc
  rw[if_neg h0] at hq;clear hc
  (repeat (first | refine vo_pure rfl rfl ?_ | refine vo_guard_take rfl rfl ?_ | refine vo_guard_skip rfl rfl rfl rfl ?_ | refine vo_guard_undef rfl rfl rfl ?_ | refine vs_seq ?_ | refine vs_region ?_ | refine oN ?_ | refine nQ ?_ | refine vs_skip ?_ | refine vs_block ?_ | refine vs_ret ?_ | refine fin_seq_ret ?_ | refine fin_blk_ret ?_ | refine fin_loop_ret ?_ | refine vs_cond_true rfl ?_ | refine vs_cond_false rfl ?_ | refine fin_blk ?_ | refine vs_exit ?_ | refine fin_seq_exit ?_ | refine fin_loop_exit ?_ | refine fin_blk_exit rfl ?_ | refine fin_blk_other rfl ?_ | refine vo_fieldAddr rfl rfl ?_ | refine vo_loadB rfl (by assumption) rfl rfl ?_ | refine vo_load rfl (by assumption) rfl ?_ | refine vo_loadA rfl (by assumption) rfl rfl ?_ | refine vo_loadAt rfl (by assumption) rfl rfl ?_ | refine vo_val _ (runs_lenS rfl) rfl ?_ | refine vo_val _ (runs_lenL rfl) rfl ?_ | refine vo_val _ (runs_add rfl rfl (by omega)) rfl ?_ | refine vo_val _ (runs_sub rfl rfl (by omega)) rfl ?_ | refine vo_val _ (runs_catL rfl rfl (by ((try simp only[List.length_append,List.length_cons,List.length_nil]); omega))) rfl ?_ | refine vq_val _ (fun _ _=>runs_catL rfl rfl (by ((try simp only[List.length_append,List.length_cons,List.length_nil]); omega))) rfl ?_ | refine vo_val _ (runs_eqB rfl rfl) rfl ?_ | refine vo_val _ (runs_neB rfl rfl) rfl ?_ | refine vo_build rfl rfl rfl ?_ | refine vo_val _ (runs_index0 rfl (by omega)) rfl ?_ | refine vo_val _ (runs_index rfl rfl (by omega)) rfl ?_ | refine vs_drawn (by kernel_rfl) ?_ | refine vq_pure rfl rfl ?_ | refine vo_val _ (runs_nilCheck rfl) rfl ?_ | refine vq_val _ (fun _ _=>runs_nilCheck rfl) rfl ?_ | refine vq_guard_take rfl rfl ?_ | refine vq_guard_skip rfl rfl rfl rfl ?_ | refine vq_guard_undef rfl rfl rfl ?_ | refine vq_fieldAddr rfl rfl ?_ | refine vq_loadB rfl (by assumption) rfl rfl ?_ | refine vq_load rfl (by assumption) rfl rfl ?_ | refine vq_loadA rfl (by assumption) rfl rfl ?_ | refine vq_loadAt rfl (by assumption) rfl rfl ?_ | refine vq_val _ (fun _ _=>runs_lenS rfl) rfl ?_ | refine vq_val _ (fun _ _=>runs_lenL rfl) rfl ?_ | refine vq_val _ (fun _ _=>runs_add rfl rfl (by omega)) rfl ?_ | refine vq_val _ (fun _ _=>runs_sub rfl rfl (by omega)) rfl ?_ | refine vq_val _ (fun _ _=>runs_eqB rfl rfl) rfl ?_ | refine vq_val _ (fun _ _=>runs_neB rfl rfl) rfl ?_ | refine vq_build rfl rfl rfl ?_ | refine vq_val _ (fun _ _=>runs_index0 rfl (by omega)) rfl ?_ | refine vq_val _ (fun _ _=>runs_index rfl rfl (by omega)) rfl ?_ | refine vs_label ?_))
  refine vs_cond rfl (fun hc=>?_) (fun hc=>?_)
  ·have hk0:ok=false:=by simpa using hc
   have hq:(if ok=true then rwG (ps.drop (k+1)) (xs++[x]) else some none)=some q:=hq;rw[if_neg (by rw[hk0]; decide)] at hq;cases hq;cases h
   (repeat (first | refine vo_pure rfl rfl ?_ | refine vo_guard_take rfl rfl ?_ | refine vo_guard_skip rfl rfl rfl rfl ?_ | refine vo_guard_undef rfl rfl rfl ?_ | refine vs_seq ?_ | refine vs_region ?_ | refine oN ?_ | refine nQ ?_ | refine vs_skip ?_ | refine vs_block ?_ | refine vs_ret ?_ | refine fin_seq_ret ?_ | refine fin_blk_ret ?_ | refine fin_loop_ret ?_ | refine vs_cond_true rfl ?_ | refine vs_cond_false rfl ?_ | refine fin_blk ?_ | refine vs_exit ?_ | refine fin_seq_exit ?_ | refine fin_loop_exit ?_ | refine fin_blk_exit rfl ?_ | refine fin_blk_other rfl ?_ | refine vo_fieldAddr rfl rfl ?_ | refine vo_loadB rfl (by assumption) rfl rfl ?_ | refine vo_load rfl (by assumption) rfl ?_ | refine vo_loadA rfl (by assumption) rfl rfl ?_ | refine vo_loadAt rfl (by assumption) rfl rfl ?_ | refine vo_val _ (runs_lenS rfl) rfl ?_ | refine vo_val _ (runs_lenL rfl) rfl ?_ | refine vo_val _ (runs_add rfl rfl (by omega)) rfl ?_ | refine vo_val _ (runs_sub rfl rfl (by omega)) rfl ?_ | refine vo_val _ (runs_catL rfl rfl (by ((try simp only[List.length_append,List.length_cons,List.length_nil]); omega))) rfl ?_ | refine vq_val _ (fun _ _=>runs_catL rfl rfl (by ((try simp only[List.length_append,List.length_cons,List.length_nil]); omega))) rfl ?_ | refine vo_val _ (runs_eqB rfl rfl) rfl ?_ | refine vo_val _ (runs_neB rfl rfl) rfl ?_ | refine vo_build rfl rfl rfl ?_ | refine vo_val _ (runs_index0 rfl (by omega)) rfl ?_ | refine vo_val _ (runs_index rfl rfl (by omega)) rfl ?_ | refine vs_drawn (by kernel_rfl) ?_ | refine vq_pure rfl rfl ?_ | refine vo_val _ (runs_nilCheck rfl) rfl ?_ | refine vq_val _ (fun _ _=>runs_nilCheck rfl) rfl ?_ | refine vq_guard_take rfl rfl ?_ | refine vq_guard_skip rfl rfl rfl rfl ?_ | refine vq_guard_undef rfl rfl rfl ?_ | refine vq_fieldAddr rfl rfl ?_ | refine vq_loadB rfl (by assumption) rfl rfl ?_ | refine vq_load rfl (by assumption) rfl rfl ?_ | refine vq_loadA rfl (by assumption) rfl rfl ?_ | refine vq_loadAt rfl (by assumption) rfl rfl ?_ | refine vq_val _ (fun _ _=>runs_lenS rfl) rfl ?_ | refine vq_val _ (fun _ _=>runs_lenL rfl) rfl ?_ | refine vq_val _ (fun _ _=>runs_add rfl rfl (by omega)) rfl ?_ | refine vq_val _ (fun _ _=>runs_sub rfl rfl (by omega)) rfl ?_ | refine vq_val _ (fun _ _=>runs_eqB rfl rfl) rfl ?_ | refine vq_val _ (fun _ _=>runs_neB rfl rfl) rfl ?_ | refine vq_build rfl rfl rfl ?_ | refine vq_val _ (fun _ _=>runs_index0 rfl (by omega)) rfl ?_ | refine vq_val _ (fun _ _=>runs_index rfl rfl (by omega)) rfl ?_ | refine vs_label ?_))
   (refine vo_store rfl rfl B1 rfl rfl rfl rfl ?_; intro w1 hW hN; have zz:=hW.size; (first | replace hb:=hb.trans (hW.below (by assumption)) | replace hb:=hb.trans (WE.of_wr hW) | replace hb:=hb.thenWr hW (by omega)); (try replace h1:=h1.wr hW (by omega)); (try replace h2:=h2.wr hW (by omega)); (try replace h3:=h3.wr hW (by omega)); (try replace h4:=h4.wr hW (by omega)); (try replace h5:=h5.wr hW (by omega)); (try replace h6:=h6.wr hW (by omega)); (try replace h7:=h7.wr hW (by omega)); (try replace h8:=h8.wr hW (by omega)); (try replace h9:=h9.wr hW (by omega)); (try replace B2:=B2.wr hW (by omega)); (try replace B3:=B3.wr hW (by omega)); (try replace B4:=B4.wr hW (by omega)); (try replace B5:=B5.wr hW (by omega)); (try replace B6:=B6.wr hW (by omega)); (try replace O1:=O1.wr hW (by intro e2; cases e2; omega)); clear B1; have B1:=hN; clear hN hW; (try dsimp at B1))
   (repeat (first | refine vo_pure rfl rfl ?_ | refine vo_guard_take rfl rfl ?_ | refine vo_guard_skip rfl rfl rfl rfl ?_ | refine vo_guard_undef rfl rfl rfl ?_ | refine vs_seq ?_ | refine vs_region ?_ | refine oN ?_ | refine nQ ?_ | refine vs_skip ?_ | refine vs_block ?_ | refine vs_ret ?_ | refine fin_seq_ret ?_ | refine fin_blk_ret ?_ | refine fin_loop_ret ?_ | refine vs_cond_true rfl ?_ | refine vs_cond_false rfl ?_ | refine fin_blk ?_ | refine vs_exit ?_ | refine fin_seq_exit ?_ | refine fin_loop_exit ?_ | refine fin_blk_exit rfl ?_ | refine fin_blk_other rfl ?_ | refine vo_fieldAddr rfl rfl ?_ | refine vo_loadB rfl (by assumption) rfl rfl ?_ | refine vo_load rfl (by assumption) rfl ?_ | refine vo_loadA rfl (by assumption) rfl rfl ?_ | refine vo_loadAt rfl (by assumption) rfl rfl ?_ | refine vo_val _ (runs_lenS rfl) rfl ?_ | refine vo_val _ (runs_lenL rfl) rfl ?_ | refine vo_val _ (runs_add rfl rfl (by omega)) rfl ?_ | refine vo_val _ (runs_sub rfl rfl (by omega)) rfl ?_ | refine vo_val _ (runs_catL rfl rfl (by ((try simp only[List.length_append,List.length_cons,List.length_nil]); omega))) rfl ?_ | refine vq_val _ (fun _ _=>runs_catL rfl rfl (by ((try simp only[List.length_append,List.length_cons,List.length_nil]); omega))) rfl ?_ | refine vo_val _ (runs_eqB rfl rfl) rfl ?_ | refine vo_val _ (runs_neB rfl rfl) rfl ?_ | refine vo_build rfl rfl rfl ?_ | refine vo_val _ (runs_index0 rfl (by omega)) rfl ?_ | refine vo_val _ (runs_index rfl rfl (by omega)) rfl ?_ | refine vs_drawn (by kernel_rfl) ?_ | refine vq_pure rfl rfl ?_ | refine vo_val _ (runs_nilCheck rfl) rfl ?_ | refine vq_val _ (fun _ _=>runs_nilCheck rfl) rfl ?_ | refine vq_guard_take rfl rfl ?_ | refine vq_guard_skip rfl rfl rfl rfl ?_ | refine vq_guard_undef rfl rfl rfl ?_ | refine vq_fieldAddr rfl rfl ?_ | refine vq_loadB rfl (by assumption) rfl rfl ?_ | refine vq_load rfl (by assumption) rfl rfl ?_ | refine vq_loadA rfl (by assumption) rfl rfl ?_ | refine vq_loadAt rfl (by assumption) rfl rfl ?_ | refine vq_val _ (fun _ _=>runs_lenS rfl) rfl ?_ | refine vq_val _ (fun _ _=>runs_lenL rfl) rfl ?_ | refine vq_val _ (fun _ _=>runs_add rfl rfl (by omega)) rfl ?_ | refine vq_val _ (fun _ _=>runs_sub rfl rfl (by omega)) rfl ?_ | refine vq_val _ (fun _ _=>runs_eqB rfl rfl) rfl ?_ | refine vq_val _ (fun _ _=>runs_neB rfl rfl) rfl ?_ | refine vq_build rfl rfl rfl ?_ | refine vq_val _ (fun _ _=>runs_index0 rfl (by omega)) rfl ?_ | refine vq_val _ (fun _ _=>runs_index rfl rfl (by omega)) rfl ?_ | refine vs_label ?_))
   (first | refine fin_ret1 Tryz.results78 rfl ?_ | refine fin_end1 Tryz.results78 rfl ?_ | refine fin_ret2 Tryz.results78 rfl rfl ?_ | refine fin_retC1 Tryz.results78 rfl (by assumption) rfl rfl ?_ | refine fin_retC Tryz.results78 rfl (by assumption) rfl ?_)
   exact ff _ hb
  have hk1:ok=true:=by simpa using hc
  have hq:(if ok=true then rwG (ps.drop (k+1)) (xs++[x]) else some none)=some q:=hq;rw[if_pos hk1] at hq;clear hc
  (repeat (first | refine vo_pure rfl rfl ?_ | refine vo_guard_take rfl rfl ?_ | refine vo_guard_skip rfl rfl rfl rfl ?_ | refine vo_guard_undef rfl rfl rfl ?_ | refine vs_seq ?_ | refine vs_region ?_ | refine oN ?_ | refine nQ ?_ | refine vs_skip ?_ | refine vs_block ?_ | refine vs_ret ?_ | refine fin_seq_ret ?_ | refine fin_blk_ret ?_ | refine fin_loop_ret ?_ | refine vs_cond_true rfl ?_ | refine vs_cond_false rfl ?_ | refine fin_blk ?_ | refine vs_exit ?_ | refine fin_seq_exit ?_ | refine fin_loop_exit ?_ | refine fin_blk_exit rfl ?_ | refine fin_blk_other rfl ?_ | refine vo_fieldAddr rfl rfl ?_ | refine vo_loadB rfl (by assumption) rfl rfl ?_ | refine vo_load rfl (by assumption) rfl ?_ | refine vo_loadA rfl (by assumption) rfl rfl ?_ | refine vo_loadAt rfl (by assumption) rfl rfl ?_ | refine vo_val _ (runs_lenS rfl) rfl ?_ | refine vo_val _ (runs_lenL rfl) rfl ?_ | refine vo_val _ (runs_add rfl rfl (by omega)) rfl ?_ | refine vo_val _ (runs_sub rfl rfl (by omega)) rfl ?_ | refine vo_val _ (runs_catL rfl rfl (by ((try simp only[List.length_append,List.length_cons,List.length_nil]); omega))) rfl ?_ | refine vq_val _ (fun _ _=>runs_catL rfl rfl (by ((try simp only[List.length_append,List.length_cons,List.length_nil]); omega))) rfl ?_ | refine vo_val _ (runs_eqB rfl rfl) rfl ?_ | refine vo_val _ (runs_neB rfl rfl) rfl ?_ | refine vo_build rfl rfl rfl ?_ | refine vo_val _ (runs_index0 rfl (by omega)) rfl ?_ | refine vo_val _ (runs_index rfl rfl (by omega)) rfl ?_ | refine vs_drawn (by kernel_rfl) ?_ | refine vq_pure rfl rfl ?_ | refine vo_val _ (runs_nilCheck rfl) rfl ?_ | refine vq_val _ (fun _ _=>runs_nilCheck rfl) rfl ?_ | refine vq_guard_take rfl rfl ?_ | refine vq_guard_skip rfl rfl rfl rfl ?_ | refine vq_guard_undef rfl rfl rfl ?_ | refine vq_fieldAddr rfl rfl ?_ | refine vq_loadB rfl (by assumption) rfl rfl ?_ | refine vq_load rfl (by assumption) rfl rfl ?_ | refine vq_loadA rfl (by assumption) rfl rfl ?_ | refine vq_loadAt rfl (by assumption) rfl rfl ?_ | refine vq_val _ (fun _ _=>runs_lenS rfl) rfl ?_ | refine vq_val _ (fun _ _=>runs_lenL rfl) rfl ?_ | refine vq_val _ (fun _ _=>runs_add rfl rfl (by omega)) rfl ?_ | refine vq_val _ (fun _ _=>runs_sub rfl rfl (by omega)) rfl ?_ | refine vq_val _ (fun _ _=>runs_eqB rfl rfl) rfl ?_ | refine vq_val _ (fun _ _=>runs_neB rfl rfl) rfl ?_ | refine vq_build rfl rfl rfl ?_ | refine vq_val _ (fun _ _=>runs_index0 rfl (by omega)) rfl ?_ | refine vq_val _ (fun _ _=>runs_index rfl rfl (by omega)) rfl ?_ | refine vs_label ?_))
  refine vo_val _ (runs_idxA rfl rfl hlt) rfl ?_
  (repeat (first | refine vo_pure rfl rfl ?_ | refine vo_guard_take rfl rfl ?_ | refine vo_guard_skip rfl rfl rfl rfl ?_ | refine vo_guard_undef rfl rfl rfl ?_ | refine vs_seq ?_ | refine vs_region ?_ | refine oN ?_ | refine nQ ?_ | refine vs_skip ?_ | refine vs_block ?_ | refine vs_ret ?_ | refine fin_seq_ret ?_ | refine fin_blk_ret ?_ | refine fin_loop_ret ?_ | refine vs_cond_true rfl ?_ | refine vs_cond_false rfl ?_ | refine fin_blk ?_ | refine vs_exit ?_ | refine fin_seq_exit ?_ | refine fin_loop_exit ?_ | refine fin_blk_exit rfl ?_ | refine fin_blk_other rfl ?_ | refine vo_fieldAddr rfl rfl ?_ | refine vo_loadB rfl (by assumption) rfl rfl ?_ | refine vo_load rfl (by assumption) rfl ?_ | refine vo_loadA rfl (by assumption) rfl rfl ?_ | refine vo_loadAt rfl (by assumption) rfl rfl ?_ | refine vo_val _ (runs_lenS rfl) rfl ?_ | refine vo_val _ (runs_lenL rfl) rfl ?_ | refine vo_val _ (runs_add rfl rfl (by omega)) rfl ?_ | refine vo_val _ (runs_sub rfl rfl (by omega)) rfl ?_ | refine vo_val _ (runs_catL rfl rfl (by ((try simp only[List.length_append,List.length_cons,List.length_nil]); omega))) rfl ?_ | refine vq_val _ (fun _ _=>runs_catL rfl rfl (by ((try simp only[List.length_append,List.length_cons,List.length_nil]); omega))) rfl ?_ | refine vo_val _ (runs_eqB rfl rfl) rfl ?_ | refine vo_val _ (runs_neB rfl rfl) rfl ?_ | refine vo_build rfl rfl rfl ?_ | refine vo_val _ (runs_index0 rfl (by omega)) rfl ?_ | refine vo_val _ (runs_index rfl rfl (by omega)) rfl ?_ | refine vs_drawn (by kernel_rfl) ?_ | refine vq_pure rfl rfl ?_ | refine vo_val _ (runs_nilCheck rfl) rfl ?_ | refine vq_val _ (fun _ _=>runs_nilCheck rfl) rfl ?_ | refine vq_guard_take rfl rfl ?_ | refine vq_guard_skip rfl rfl rfl rfl ?_ | refine vq_guard_undef rfl rfl rfl ?_ | refine vq_fieldAddr rfl rfl ?_ | refine vq_loadB rfl (by assumption) rfl rfl ?_ | refine vq_load rfl (by assumption) rfl rfl ?_ | refine vq_loadA rfl (by assumption) rfl rfl ?_ | refine vq_loadAt rfl (by assumption) rfl rfl ?_ | refine vq_val _ (fun _ _=>runs_lenS rfl) rfl ?_ | refine vq_val _ (fun _ _=>runs_lenL rfl) rfl ?_ | refine vq_val _ (fun _ _=>runs_add rfl rfl (by omega)) rfl ?_ | refine vq_val _ (fun _ _=>runs_sub rfl rfl (by omega)) rfl ?_ | refine vq_val _ (fun _ _=>runs_eqB rfl rfl) rfl ?_ | refine vq_val _ (fun _ _=>runs_neB rfl rfl) rfl ?_ | refine vq_build rfl rfl rfl ?_ | refine vq_val _ (fun _ _=>runs_index0 rfl (by omega)) rfl ?_ | refine vq_val _ (fun _ _=>runs_index rfl rfl (by omega)) rfl ?_ | refine vs_label ?_))
  refine vo_storeAt rfl rfl B4 (by omega) rfl rfl rfl rfl ?_;intro w5 hW hN5
  replace hA:=hA.wr hW (by omega)
  replace O1:=O1.wr hW (fun e=>by cases e; omega)
  replace B1:=B1.wr hW (by omega)
  replace hb:=hb.trans (hW.below (by omega))
  replace hO:OwnI w5 2 g (.slice pv x.length cv) x:=⟨hO.1.wr hW (fun e=>by have:=hgn _ e; omega),hO.2⟩
  (repeat (first | refine vo_pure rfl rfl ?_ | refine vo_guard_take rfl rfl ?_ | refine vo_guard_skip rfl rfl rfl rfl ?_ | refine vo_guard_undef rfl rfl rfl ?_ | refine vs_seq ?_ | refine vs_region ?_ | refine oN ?_ | refine nQ ?_ | refine vs_skip ?_ | refine vs_block ?_ | refine vs_ret ?_ | refine fin_seq_ret ?_ | refine fin_blk_ret ?_ | refine fin_loop_ret ?_ | refine vs_cond_true rfl ?_ | refine vs_cond_false rfl ?_ | refine fin_blk ?_ | refine vs_exit ?_ | refine fin_seq_exit ?_ | refine fin_loop_exit ?_ | refine fin_blk_exit rfl ?_ | refine fin_blk_other rfl ?_ | refine vo_fieldAddr rfl rfl ?_ | refine vo_loadB rfl (by assumption) rfl rfl ?_ | refine vo_load rfl (by assumption) rfl ?_ | refine vo_loadA rfl (by assumption) rfl rfl ?_ | refine vo_loadAt rfl (by assumption) rfl rfl ?_ | refine vo_val _ (runs_lenS rfl) rfl ?_ | refine vo_val _ (runs_lenL rfl) rfl ?_ | refine vo_val _ (runs_add rfl rfl (by omega)) rfl ?_ | refine vo_val _ (runs_sub rfl rfl (by omega)) rfl ?_ | refine vo_val _ (runs_catL rfl rfl (by ((try simp only[List.length_append,List.length_cons,List.length_nil]); omega))) rfl ?_ | refine vq_val _ (fun _ _=>runs_catL rfl rfl (by ((try simp only[List.length_append,List.length_cons,List.length_nil]); omega))) rfl ?_ | refine vo_val _ (runs_eqB rfl rfl) rfl ?_ | refine vo_val _ (runs_neB rfl rfl) rfl ?_ | refine vo_build rfl rfl rfl ?_ | refine vo_val _ (runs_index0 rfl (by omega)) rfl ?_ | refine vo_val _ (runs_index rfl rfl (by omega)) rfl ?_ | refine vs_drawn (by kernel_rfl) ?_ | refine vq_pure rfl rfl ?_ | refine vo_val _ (runs_nilCheck rfl) rfl ?_ | refine vq_val _ (fun _ _=>runs_nilCheck rfl) rfl ?_ | refine vq_guard_take rfl rfl ?_ | refine vq_guard_skip rfl rfl rfl rfl ?_ | refine vq_guard_undef rfl rfl rfl ?_ | refine vq_fieldAddr rfl rfl ?_ | refine vq_loadB rfl (by assumption) rfl rfl ?_ | refine vq_load rfl (by assumption) rfl rfl ?_ | refine vq_loadA rfl (by assumption) rfl rfl ?_ | refine vq_loadAt rfl (by assumption) rfl rfl ?_ | refine vq_val _ (fun _ _=>runs_lenS rfl) rfl ?_ | refine vq_val _ (fun _ _=>runs_lenL rfl) rfl ?_ | refine vq_val _ (fun _ _=>runs_add rfl rfl (by omega)) rfl ?_ | refine vq_val _ (fun _ _=>runs_sub rfl rfl (by omega)) rfl ?_ | refine vq_val _ (fun _ _=>runs_eqB rfl rfl) rfl ?_ | refine vq_val _ (fun _ _=>runs_neB rfl rfl) rfl ?_ | refine vq_build rfl rfl rfl ?_ | refine vq_val _ (fun _ _=>runs_index0 rfl (by omega)) rfl ?_ | refine vq_val _ (fun _ _=>runs_index rfl rfl (by omega)) rfl ?_ | refine vs_label ?_))
  refine fin_loop (k+1) ⟨hlt,vs++[.slice pv x.length cv],gs++[g],xs++[x],by simp; omega,by rw[List.append_assoc]; exact hN5,hA.app hO (fun i e=>by have:=hgn i e; omega),hN.snoc (fun i e hm=>by have:=hgn i e; have:=hlt4 i hm; omega),hq,O1,B1,hb⟩ (by omega) (by ((repeat (refine sub_cons rfl ?_)); exact sub_nil))
 have hk4:k=4:=by simp at hc; omega
 clear hk hc;subst hk4;rw[List.drop_eq_nil_of_le (by omega)] at hq;cases hq;have hls:=fun i hi=>(hA.lt i hi).1;obtain⟨v1,v2,v3,v4,rfl⟩:∃v1 v2 v3 v4,vs=[v1,v2,v3,v4]:=by
  match vs,hvs with
  | [v1,v2,v3,v4],_=>exact⟨v1,v2,v3,v4,rfl⟩
 obtain⟨g1,_,x1,_,rfl,rfl,o1,_,g2,_,x2,_,rfl,rfl,o2,_,g3,_,x3,_,rfl,rfl,o3,_,g4,_,x4,_,rfl,rfl,o4,_,rfl,rfl⟩:=hA;have h:gd ((u76 (x1,x2,x3,x4) n).isSome=true/\True) (if vl (u76 (x1,x2,x3,x4) n)=true then some ((x1,x2,x3,x4),true) else some (([],[],[],[]),false))=some r:=h;obtain⟨hw,h⟩:=gd_some h;obtain⟨bw,hbw⟩:=Option.isSome_iff_exists.1 hw.1;rw[hbw,vS] at h;obtain⟨p1,n1,rfl⟩:=o1.1.len;obtain⟨p2,n2,rfl⟩:=o2.1.len;obtain⟨p3,n3,rfl⟩:=o3.1.len;obtain⟨p4,n4,rfl⟩:=o4.1.len;have B2':Blk w3 b2 [.slice p1 x1.length n1,.slice p2 x2.length n2,.slice p3 x3.length n3,.slice p4 x4.length n4] 184:=B2;clear B2 O1;have B2:=B2';clear B2';have zz:=B2.lt;have d1:∀{g:Option Nat} {v:Value} {x:List Int} {w':World},OwnI w' 2 g v x->RT (fun k=>k<w'.heap.size) w' (.sl i64) [v] x:=fun {g v x w'} h=>own_dat h.1 (cells_allR h.2) h.1.lt
 (repeat (first | refine vo_pure rfl rfl ?_ | refine vo_guard_take rfl rfl ?_ | refine vo_guard_skip rfl rfl rfl rfl ?_ | refine vo_guard_undef rfl rfl rfl ?_ | refine vs_seq ?_ | refine vs_region ?_ | refine oN ?_ | refine nQ ?_ | refine vs_skip ?_ | refine vs_block ?_ | refine vs_ret ?_ | refine fin_seq_ret ?_ | refine fin_blk_ret ?_ | refine fin_loop_ret ?_ | refine vs_cond_true rfl ?_ | refine vs_cond_false rfl ?_ | refine fin_blk ?_ | refine vs_exit ?_ | refine fin_seq_exit ?_ | refine fin_loop_exit ?_ | refine fin_blk_exit rfl ?_ | refine fin_blk_other rfl ?_ | refine vo_fieldAddr rfl rfl ?_ | refine vo_loadB rfl (by assumption) rfl rfl ?_ | refine vo_load rfl (by assumption) rfl ?_ | refine vo_loadA rfl (by assumption) rfl rfl ?_ | refine vo_loadAt rfl (by assumption) rfl rfl ?_ | refine vo_val _ (runs_lenS rfl) rfl ?_ | refine vo_val _ (runs_lenL rfl) rfl ?_ | refine vo_val _ (runs_add rfl rfl (by omega)) rfl ?_ | refine vo_val _ (runs_sub rfl rfl (by omega)) rfl ?_ | refine vo_val _ (runs_catL rfl rfl (by ((try simp only[List.length_append,List.length_cons,List.length_nil]); omega))) rfl ?_ | refine vq_val _ (fun _ _=>runs_catL rfl rfl (by ((try simp only[List.length_append,List.length_cons,List.length_nil]); omega))) rfl ?_ | refine vo_val _ (runs_eqB rfl rfl) rfl ?_ | refine vo_val _ (runs_neB rfl rfl) rfl ?_ | refine vo_build rfl rfl rfl ?_ | refine vo_val _ (runs_index0 rfl (by omega)) rfl ?_ | refine vo_val _ (runs_index rfl rfl (by omega)) rfl ?_ | refine vs_drawn (by kernel_rfl) ?_ | refine vq_pure rfl rfl ?_ | refine vo_val _ (runs_nilCheck rfl) rfl ?_ | refine vq_val _ (fun _ _=>runs_nilCheck rfl) rfl ?_ | refine vq_guard_take rfl rfl ?_ | refine vq_guard_skip rfl rfl rfl rfl ?_ | refine vq_guard_undef rfl rfl rfl ?_ | refine vq_fieldAddr rfl rfl ?_ | refine vq_loadB rfl (by assumption) rfl rfl ?_ | refine vq_load rfl (by assumption) rfl rfl ?_ | refine vq_loadA rfl (by assumption) rfl rfl ?_ | refine vq_loadAt rfl (by assumption) rfl rfl ?_ | refine vq_val _ (fun _ _=>runs_lenS rfl) rfl ?_ | refine vq_val _ (fun _ _=>runs_lenL rfl) rfl ?_ | refine vq_val _ (fun _ _=>runs_add rfl rfl (by omega)) rfl ?_ | refine vq_val _ (fun _ _=>runs_sub rfl rfl (by omega)) rfl ?_ | refine vq_val _ (fun _ _=>runs_eqB rfl rfl) rfl ?_ | refine vq_val _ (fun _ _=>runs_neB rfl rfl) rfl ?_ | refine vq_build rfl rfl rfl ?_ | refine vq_val _ (fun _ _=>runs_index0 rfl (by omega)) rfl ?_ | refine vq_val _ (fun _ _=>runs_index rfl rfl (by omega)) rfl ?_ | refine vs_label ?_))
 refine vo_val _ (runs_idxA (k:=0) rfl rfl (by omega)) rfl ?_;refine vo_loadB rfl B2 rfl rfl ?_;refine vo_val _ (runs_idxA (k:=1) rfl rfl (by omega)) rfl ?_;refine vo_loadB rfl B2 rfl rfl ?_;refine vo_val _ (runs_idxA (k:=2) rfl rfl (by omega)) rfl ?_;refine vo_loadB rfl B2 rfl rfl ?_;refine vo_val _ (runs_idxA (k:=3) rfl rfl (by omega)) rfl ?_;refine vo_loadB rfl B2 rfl rfl ?_
 (repeat (first | refine vo_pure rfl rfl ?_ | refine vo_guard_take rfl rfl ?_ | refine vo_guard_skip rfl rfl rfl rfl ?_ | refine vo_guard_undef rfl rfl rfl ?_ | refine vs_seq ?_ | refine vs_region ?_ | refine oN ?_ | refine nQ ?_ | refine vs_skip ?_ | refine vs_block ?_ | refine vs_ret ?_ | refine fin_seq_ret ?_ | refine fin_blk_ret ?_ | refine fin_loop_ret ?_ | refine vs_cond_true rfl ?_ | refine vs_cond_false rfl ?_ | refine fin_blk ?_ | refine vs_exit ?_ | refine fin_seq_exit ?_ | refine fin_loop_exit ?_ | refine fin_blk_exit rfl ?_ | refine fin_blk_other rfl ?_ | refine vo_fieldAddr rfl rfl ?_ | refine vo_loadB rfl (by assumption) rfl rfl ?_ | refine vo_load rfl (by assumption) rfl ?_ | refine vo_loadA rfl (by assumption) rfl rfl ?_ | refine vo_loadAt rfl (by assumption) rfl rfl ?_ | refine vo_val _ (runs_lenS rfl) rfl ?_ | refine vo_val _ (runs_lenL rfl) rfl ?_ | refine vo_val _ (runs_add rfl rfl (by omega)) rfl ?_ | refine vo_val _ (runs_sub rfl rfl (by omega)) rfl ?_ | refine vo_val _ (runs_catL rfl rfl (by ((try simp only[List.length_append,List.length_cons,List.length_nil]); omega))) rfl ?_ | refine vq_val _ (fun _ _=>runs_catL rfl rfl (by ((try simp only[List.length_append,List.length_cons,List.length_nil]); omega))) rfl ?_ | refine vo_val _ (runs_eqB rfl rfl) rfl ?_ | refine vo_val _ (runs_neB rfl rfl) rfl ?_ | refine vo_build rfl rfl rfl ?_ | refine vo_val _ (runs_index0 rfl (by omega)) rfl ?_ | refine vo_val _ (runs_index rfl rfl (by omega)) rfl ?_ | refine vs_drawn (by kernel_rfl) ?_ | refine vq_pure rfl rfl ?_ | refine vo_val _ (runs_nilCheck rfl) rfl ?_ | refine vq_val _ (fun _ _=>runs_nilCheck rfl) rfl ?_ | refine vq_guard_take rfl rfl ?_ | refine vq_guard_skip rfl rfl rfl rfl ?_ | refine vq_guard_undef rfl rfl rfl ?_ | refine vq_fieldAddr rfl rfl ?_ | refine vq_loadB rfl (by assumption) rfl rfl ?_ | refine vq_load rfl (by assumption) rfl rfl ?_ | refine vq_loadA rfl (by assumption) rfl rfl ?_ | refine vq_loadAt rfl (by assumption) rfl rfl ?_ | refine vq_val _ (fun _ _=>runs_lenS rfl) rfl ?_ | refine vq_val _ (fun _ _=>runs_lenL rfl) rfl ?_ | refine vq_val _ (fun _ _=>runs_add rfl rfl (by omega)) rfl ?_ | refine vq_val _ (fun _ _=>runs_sub rfl rfl (by omega)) rfl ?_ | refine vq_val _ (fun _ _=>runs_eqB rfl rfl) rfl ?_ | refine vq_val _ (fun _ _=>runs_neB rfl rfl) rfl ?_ | refine vq_build rfl rfl rfl ?_ | refine vq_val _ (fun _ _=>runs_index0 rfl (by omega)) rfl ?_ | refine vq_val _ (fun _ _=>runs_index rfl rfl (by omega)) rfl ?_ | refine vs_label ?_))
 refine vo_alloc rfl rfl ?_;intro b4 w4 hN4 B4;have hE:=hN4.ext;have e4:=hN4.eq;have z4:=hN4.size;have l1:=o1.1.lt;have l2:=o2.1.lt;have l3:=o3.1.lt;have l4:=o4.1.lt;have m1:∀i,g1=some i->b2+1<=i:=fun i e=>hls i (by rw[e]; simp);have m2:∀i,g2=some i->b2+1<=i:=fun i e=>hls i (by rw[e]; simp);have m3:∀i,g3=some i->b2+1<=i:=fun i e=>hls i (by rw[e]; simp);have m4:∀i,g4=some i->b2+1<=i:=fun i e=>hls i (by rw[e]; simp);have b1lt3:=B1.lt
 replace B1:=B1.up hE
 replace o1:=OwnI.ext o1 hE
 replace o2:=OwnI.ext o2 hE
 replace o3:=OwnI.ext o3 hE
 replace o4:=OwnI.ext o4 hE
 replace hb:=hb.trans (hE.mono hb.size)
 clear hE
 (repeat (first | refine vo_pure rfl rfl ?_ | refine vo_guard_take rfl rfl ?_ | refine vo_guard_skip rfl rfl rfl rfl ?_ | refine vo_guard_undef rfl rfl rfl ?_ | refine vs_seq ?_ | refine vs_region ?_ | refine oN ?_ | refine nQ ?_ | refine vs_skip ?_ | refine vs_block ?_ | refine vs_ret ?_ | refine fin_seq_ret ?_ | refine fin_blk_ret ?_ | refine fin_loop_ret ?_ | refine vs_cond_true rfl ?_ | refine vs_cond_false rfl ?_ | refine fin_blk ?_ | refine vs_exit ?_ | refine fin_seq_exit ?_ | refine fin_loop_exit ?_ | refine fin_blk_exit rfl ?_ | refine fin_blk_other rfl ?_ | refine vo_fieldAddr rfl rfl ?_ | refine vo_loadB rfl (by assumption) rfl rfl ?_ | refine vo_load rfl (by assumption) rfl ?_ | refine vo_loadA rfl (by assumption) rfl rfl ?_ | refine vo_loadAt rfl (by assumption) rfl rfl ?_ | refine vo_val _ (runs_lenS rfl) rfl ?_ | refine vo_val _ (runs_lenL rfl) rfl ?_ | refine vo_val _ (runs_add rfl rfl (by omega)) rfl ?_ | refine vo_val _ (runs_sub rfl rfl (by omega)) rfl ?_ | refine vo_val _ (runs_catL rfl rfl (by ((try simp only[List.length_append,List.length_cons,List.length_nil]); omega))) rfl ?_ | refine vq_val _ (fun _ _=>runs_catL rfl rfl (by ((try simp only[List.length_append,List.length_cons,List.length_nil]); omega))) rfl ?_ | refine vo_val _ (runs_eqB rfl rfl) rfl ?_ | refine vo_val _ (runs_neB rfl rfl) rfl ?_ | refine vo_build rfl rfl rfl ?_ | refine vo_val _ (runs_index0 rfl (by omega)) rfl ?_ | refine vo_val _ (runs_index rfl rfl (by omega)) rfl ?_ | refine vs_drawn (by kernel_rfl) ?_ | refine vq_pure rfl rfl ?_ | refine vo_val _ (runs_nilCheck rfl) rfl ?_ | refine vq_val _ (fun _ _=>runs_nilCheck rfl) rfl ?_ | refine vq_guard_take rfl rfl ?_ | refine vq_guard_skip rfl rfl rfl rfl ?_ | refine vq_guard_undef rfl rfl rfl ?_ | refine vq_fieldAddr rfl rfl ?_ | refine vq_loadB rfl (by assumption) rfl rfl ?_ | refine vq_load rfl (by assumption) rfl rfl ?_ | refine vq_loadA rfl (by assumption) rfl rfl ?_ | refine vq_loadAt rfl (by assumption) rfl rfl ?_ | refine vq_val _ (fun _ _=>runs_lenS rfl) rfl ?_ | refine vq_val _ (fun _ _=>runs_lenL rfl) rfl ?_ | refine vq_val _ (fun _ _=>runs_add rfl rfl (by omega)) rfl ?_ | refine vq_val _ (fun _ _=>runs_sub rfl rfl (by omega)) rfl ?_ | refine vq_val _ (fun _ _=>runs_eqB rfl rfl) rfl ?_ | refine vq_val _ (fun _ _=>runs_neB rfl rfl) rfl ?_ | refine vq_build rfl rfl rfl ?_ | refine vq_val _ (fun _ _=>runs_index0 rfl (by omega)) rfl ?_ | refine vq_val _ (fun _ _=>runs_index rfl rfl (by omega)) rfl ?_ | refine vs_label ?_))
 refine vo_store rfl rfl B4 rfl rfl rfl rfl ?_;intro w5 hW hN5;have z5:=hW.size
 replace B1:=B1.wr hW (by omega)
 replace o1:=o1.wr hW (fun e=>by have:=l1 _ e; omega)
 replace o2:=o2.wr hW (fun e=>by have:=l2 _ e; omega)
 replace o3:=o3.wr hW (fun e=>by have:=l3 _ e; omega)
 replace o4:=o4.wr hW (fun e=>by have:=l4 _ e; omega)
 replace hb:=hb.trans (hW.below (by omega))
 have B4:Blk w5 b4 [.slice p1 x1.length n1,.slice p2 x2.length n2,.slice p3 x3.length n3,.slice p4 x4.length n4] 36:=hN5
 (repeat (first | refine vo_pure rfl rfl ?_ | refine vo_guard_take rfl rfl ?_ | refine vo_guard_skip rfl rfl rfl rfl ?_ | refine vo_guard_undef rfl rfl rfl ?_ | refine vs_seq ?_ | refine vs_region ?_ | refine oN ?_ | refine nQ ?_ | refine vs_skip ?_ | refine vs_block ?_ | refine vs_ret ?_ | refine fin_seq_ret ?_ | refine fin_blk_ret ?_ | refine fin_loop_ret ?_ | refine vs_cond_true rfl ?_ | refine vs_cond_false rfl ?_ | refine fin_blk ?_ | refine vs_exit ?_ | refine fin_seq_exit ?_ | refine fin_loop_exit ?_ | refine fin_blk_exit rfl ?_ | refine fin_blk_other rfl ?_ | refine vo_fieldAddr rfl rfl ?_ | refine vo_loadB rfl (by assumption) rfl rfl ?_ | refine vo_load rfl (by assumption) rfl ?_ | refine vo_loadA rfl (by assumption) rfl rfl ?_ | refine vo_loadAt rfl (by assumption) rfl rfl ?_ | refine vo_val _ (runs_lenS rfl) rfl ?_ | refine vo_val _ (runs_lenL rfl) rfl ?_ | refine vo_val _ (runs_add rfl rfl (by omega)) rfl ?_ | refine vo_val _ (runs_sub rfl rfl (by omega)) rfl ?_ | refine vo_val _ (runs_catL rfl rfl (by ((try simp only[List.length_append,List.length_cons,List.length_nil]); omega))) rfl ?_ | refine vq_val _ (fun _ _=>runs_catL rfl rfl (by ((try simp only[List.length_append,List.length_cons,List.length_nil]); omega))) rfl ?_ | refine vo_val _ (runs_eqB rfl rfl) rfl ?_ | refine vo_val _ (runs_neB rfl rfl) rfl ?_ | refine vo_build rfl rfl rfl ?_ | refine vo_val _ (runs_index0 rfl (by omega)) rfl ?_ | refine vo_val _ (runs_index rfl rfl (by omega)) rfl ?_ | refine vs_drawn (by kernel_rfl) ?_ | refine vq_pure rfl rfl ?_ | refine vo_val _ (runs_nilCheck rfl) rfl ?_ | refine vq_val _ (fun _ _=>runs_nilCheck rfl) rfl ?_ | refine vq_guard_take rfl rfl ?_ | refine vq_guard_skip rfl rfl rfl rfl ?_ | refine vq_guard_undef rfl rfl rfl ?_ | refine vq_fieldAddr rfl rfl ?_ | refine vq_loadB rfl (by assumption) rfl rfl ?_ | refine vq_load rfl (by assumption) rfl rfl ?_ | refine vq_loadA rfl (by assumption) rfl rfl ?_ | refine vq_loadAt rfl (by assumption) rfl rfl ?_ | refine vq_val _ (fun _ _=>runs_lenS rfl) rfl ?_ | refine vq_val _ (fun _ _=>runs_lenL rfl) rfl ?_ | refine vq_val _ (fun _ _=>runs_add rfl rfl (by omega)) rfl ?_ | refine vq_val _ (fun _ _=>runs_sub rfl rfl (by omega)) rfl ?_ | refine vq_val _ (fun _ _=>runs_eqB rfl rfl) rfl ?_ | refine vq_val _ (fun _ _=>runs_neB rfl rfl) rfl ?_ | refine vq_build rfl rfl rfl ?_ | refine vq_val _ (fun _ _=>runs_index0 rfl (by omega)) rfl ?_ | refine vq_val _ (fun _ _=>runs_index rfl rfl (by omega)) rfl ?_ | refine vs_label ?_))
 refine vo_call rfl rfl (Calls.mono (ok_call o76 (fun _=>rfl) rfl (x:=((x1,x2,x3,x4),n,())) hbw ⟨_,_,rfl,⟨[_],[_,_,_],rfl,d1 o1,[_],[_,_],rfl,d1 o2,[_],[_],rfl,d1 o3,d1 o4⟩,⟨_,_,rfl,⟨rfl,hn⟩,⟨rfl,rfl⟩⟩⟩ (hF.up hb)) ?_);rintro _ w6 ⟨v,rfl,hE,hr⟩;obtain rfl:=rr_bool hr;refine⟨_,rfl,?_⟩;have z6:=hE.size
 replace B1:=B1.up hE
 replace B4:=B4.up hE
 replace o1:=OwnI.ext o1 hE
 replace o2:=OwnI.ext o2 hE
 replace o3:=OwnI.ext o3 hE
 replace o4:=OwnI.ext o4 hE
 replace hb:=hb.trans (hE.mono hb.size)
 clear hE
 (repeat (first | refine vo_pure rfl rfl ?_ | refine vo_guard_take rfl rfl ?_ | refine vo_guard_skip rfl rfl rfl rfl ?_ | refine vo_guard_undef rfl rfl rfl ?_ | refine vs_seq ?_ | refine vs_region ?_ | refine oN ?_ | refine nQ ?_ | refine vs_skip ?_ | refine vs_block ?_ | refine vs_ret ?_ | refine fin_seq_ret ?_ | refine fin_blk_ret ?_ | refine fin_loop_ret ?_ | refine vs_cond_true rfl ?_ | refine vs_cond_false rfl ?_ | refine fin_blk ?_ | refine vs_exit ?_ | refine fin_seq_exit ?_ | refine fin_loop_exit ?_ | refine fin_blk_exit rfl ?_ | refine fin_blk_other rfl ?_ | refine vo_fieldAddr rfl rfl ?_ | refine vo_loadB rfl (by assumption) rfl rfl ?_ | refine vo_load rfl (by assumption) rfl ?_ | refine vo_loadA rfl (by assumption) rfl rfl ?_ | refine vo_loadAt rfl (by assumption) rfl rfl ?_ | refine vo_val _ (runs_lenS rfl) rfl ?_ | refine vo_val _ (runs_lenL rfl) rfl ?_ | refine vo_val _ (runs_add rfl rfl (by omega)) rfl ?_ | refine vo_val _ (runs_sub rfl rfl (by omega)) rfl ?_ | refine vo_val _ (runs_catL rfl rfl (by ((try simp only[List.length_append,List.length_cons,List.length_nil]); omega))) rfl ?_ | refine vq_val _ (fun _ _=>runs_catL rfl rfl (by ((try simp only[List.length_append,List.length_cons,List.length_nil]); omega))) rfl ?_ | refine vo_val _ (runs_eqB rfl rfl) rfl ?_ | refine vo_val _ (runs_neB rfl rfl) rfl ?_ | refine vo_build rfl rfl rfl ?_ | refine vo_val _ (runs_index0 rfl (by omega)) rfl ?_ | refine vo_val _ (runs_index rfl rfl (by omega)) rfl ?_ | refine vs_drawn (by kernel_rfl) ?_ | refine vq_pure rfl rfl ?_ | refine vo_val _ (runs_nilCheck rfl) rfl ?_ | refine vq_val _ (fun _ _=>runs_nilCheck rfl) rfl ?_ | refine vq_guard_take rfl rfl ?_ | refine vq_guard_skip rfl rfl rfl rfl ?_ | refine vq_guard_undef rfl rfl rfl ?_ | refine vq_fieldAddr rfl rfl ?_ | refine vq_loadB rfl (by assumption) rfl rfl ?_ | refine vq_load rfl (by assumption) rfl rfl ?_ | refine vq_loadA rfl (by assumption) rfl rfl ?_ | refine vq_loadAt rfl (by assumption) rfl rfl ?_ | refine vq_val _ (fun _ _=>runs_lenS rfl) rfl ?_ | refine vq_val _ (fun _ _=>runs_lenL rfl) rfl ?_ | refine vq_val _ (fun _ _=>runs_add rfl rfl (by omega)) rfl ?_ | refine vq_val _ (fun _ _=>runs_sub rfl rfl (by omega)) rfl ?_ | refine vq_val _ (fun _ _=>runs_eqB rfl rfl) rfl ?_ | refine vq_val _ (fun _ _=>runs_neB rfl rfl) rfl ?_ | refine vq_build rfl rfl rfl ?_ | refine vq_val _ (fun _ _=>runs_index0 rfl (by omega)) rfl ?_ | refine vq_val _ (fun _ _=>runs_index rfl rfl (by omega)) rfl ?_ | refine vs_label ?_))
 refine vs_cond rfl (fun hc=>?_) (fun hc=>?_)
 ·have hf:bw=false:=by simpa using hc
  rw[hf,if_neg (by decide)] at h;cases h
  (repeat (first | refine vo_pure rfl rfl ?_ | refine vo_guard_take rfl rfl ?_ | refine vo_guard_skip rfl rfl rfl rfl ?_ | refine vo_guard_undef rfl rfl rfl ?_ | refine vs_seq ?_ | refine vs_region ?_ | refine oN ?_ | refine nQ ?_ | refine vs_skip ?_ | refine vs_block ?_ | refine vs_ret ?_ | refine fin_seq_ret ?_ | refine fin_blk_ret ?_ | refine fin_loop_ret ?_ | refine vs_cond_true rfl ?_ | refine vs_cond_false rfl ?_ | refine fin_blk ?_ | refine vs_exit ?_ | refine fin_seq_exit ?_ | refine fin_loop_exit ?_ | refine fin_blk_exit rfl ?_ | refine fin_blk_other rfl ?_ | refine vo_fieldAddr rfl rfl ?_ | refine vo_loadB rfl (by assumption) rfl rfl ?_ | refine vo_load rfl (by assumption) rfl ?_ | refine vo_loadA rfl (by assumption) rfl rfl ?_ | refine vo_loadAt rfl (by assumption) rfl rfl ?_ | refine vo_val _ (runs_lenS rfl) rfl ?_ | refine vo_val _ (runs_lenL rfl) rfl ?_ | refine vo_val _ (runs_add rfl rfl (by omega)) rfl ?_ | refine vo_val _ (runs_sub rfl rfl (by omega)) rfl ?_ | refine vo_val _ (runs_catL rfl rfl (by ((try simp only[List.length_append,List.length_cons,List.length_nil]); omega))) rfl ?_ | refine vq_val _ (fun _ _=>runs_catL rfl rfl (by ((try simp only[List.length_append,List.length_cons,List.length_nil]); omega))) rfl ?_ | refine vo_val _ (runs_eqB rfl rfl) rfl ?_ | refine vo_val _ (runs_neB rfl rfl) rfl ?_ | refine vo_build rfl rfl rfl ?_ | refine vo_val _ (runs_index0 rfl (by omega)) rfl ?_ | refine vo_val _ (runs_index rfl rfl (by omega)) rfl ?_ | refine vs_drawn (by kernel_rfl) ?_ | refine vq_pure rfl rfl ?_ | refine vo_val _ (runs_nilCheck rfl) rfl ?_ | refine vq_val _ (fun _ _=>runs_nilCheck rfl) rfl ?_ | refine vq_guard_take rfl rfl ?_ | refine vq_guard_skip rfl rfl rfl rfl ?_ | refine vq_guard_undef rfl rfl rfl ?_ | refine vq_fieldAddr rfl rfl ?_ | refine vq_loadB rfl (by assumption) rfl rfl ?_ | refine vq_load rfl (by assumption) rfl rfl ?_ | refine vq_loadA rfl (by assumption) rfl rfl ?_ | refine vq_loadAt rfl (by assumption) rfl rfl ?_ | refine vq_val _ (fun _ _=>runs_lenS rfl) rfl ?_ | refine vq_val _ (fun _ _=>runs_lenL rfl) rfl ?_ | refine vq_val _ (fun _ _=>runs_add rfl rfl (by omega)) rfl ?_ | refine vq_val _ (fun _ _=>runs_sub rfl rfl (by omega)) rfl ?_ | refine vq_val _ (fun _ _=>runs_eqB rfl rfl) rfl ?_ | refine vq_val _ (fun _ _=>runs_neB rfl rfl) rfl ?_ | refine vq_build rfl rfl rfl ?_ | refine vq_val _ (fun _ _=>runs_index0 rfl (by omega)) rfl ?_ | refine vq_val _ (fun _ _=>runs_index rfl rfl (by omega)) rfl ?_ | refine vs_label ?_))
  (refine vo_store rfl rfl B1 rfl rfl rfl rfl ?_; intro w1 hW hN; have zz:=hW.size; (first | replace hb:=hb.trans (hW.below (by assumption)) | replace hb:=hb.trans (WE.of_wr hW) | replace hb:=hb.thenWr hW (by omega)); (try replace h1:=h1.wr hW (by omega)); (try replace h2:=h2.wr hW (by omega)); (try replace h3:=h3.wr hW (by omega)); (try replace h4:=h4.wr hW (by omega)); (try replace h5:=h5.wr hW (by omega)); (try replace h6:=h6.wr hW (by omega)); (try replace h7:=h7.wr hW (by omega)); (try replace h8:=h8.wr hW (by omega)); (try replace h9:=h9.wr hW (by omega)); (try replace B2:=B2.wr hW (by omega)); (try replace B3:=B3.wr hW (by omega)); (try replace B4:=B4.wr hW (by omega)); (try replace B5:=B5.wr hW (by omega)); (try replace B6:=B6.wr hW (by omega)); (try replace O1:=O1.wr hW (by intro e2; cases e2; omega)); clear B1; have B1:=hN; clear hN hW; (try dsimp at B1))
  (repeat (first | refine vo_pure rfl rfl ?_ | refine vo_guard_take rfl rfl ?_ | refine vo_guard_skip rfl rfl rfl rfl ?_ | refine vo_guard_undef rfl rfl rfl ?_ | refine vs_seq ?_ | refine vs_region ?_ | refine oN ?_ | refine nQ ?_ | refine vs_skip ?_ | refine vs_block ?_ | refine vs_ret ?_ | refine fin_seq_ret ?_ | refine fin_blk_ret ?_ | refine fin_loop_ret ?_ | refine vs_cond_true rfl ?_ | refine vs_cond_false rfl ?_ | refine fin_blk ?_ | refine vs_exit ?_ | refine fin_seq_exit ?_ | refine fin_loop_exit ?_ | refine fin_blk_exit rfl ?_ | refine fin_blk_other rfl ?_ | refine vo_fieldAddr rfl rfl ?_ | refine vo_loadB rfl (by assumption) rfl rfl ?_ | refine vo_load rfl (by assumption) rfl ?_ | refine vo_loadA rfl (by assumption) rfl rfl ?_ | refine vo_loadAt rfl (by assumption) rfl rfl ?_ | refine vo_val _ (runs_lenS rfl) rfl ?_ | refine vo_val _ (runs_lenL rfl) rfl ?_ | refine vo_val _ (runs_add rfl rfl (by omega)) rfl ?_ | refine vo_val _ (runs_sub rfl rfl (by omega)) rfl ?_ | refine vo_val _ (runs_catL rfl rfl (by ((try simp only[List.length_append,List.length_cons,List.length_nil]); omega))) rfl ?_ | refine vq_val _ (fun _ _=>runs_catL rfl rfl (by ((try simp only[List.length_append,List.length_cons,List.length_nil]); omega))) rfl ?_ | refine vo_val _ (runs_eqB rfl rfl) rfl ?_ | refine vo_val _ (runs_neB rfl rfl) rfl ?_ | refine vo_build rfl rfl rfl ?_ | refine vo_val _ (runs_index0 rfl (by omega)) rfl ?_ | refine vo_val _ (runs_index rfl rfl (by omega)) rfl ?_ | refine vs_drawn (by kernel_rfl) ?_ | refine vq_pure rfl rfl ?_ | refine vo_val _ (runs_nilCheck rfl) rfl ?_ | refine vq_val _ (fun _ _=>runs_nilCheck rfl) rfl ?_ | refine vq_guard_take rfl rfl ?_ | refine vq_guard_skip rfl rfl rfl rfl ?_ | refine vq_guard_undef rfl rfl rfl ?_ | refine vq_fieldAddr rfl rfl ?_ | refine vq_loadB rfl (by assumption) rfl rfl ?_ | refine vq_load rfl (by assumption) rfl rfl ?_ | refine vq_loadA rfl (by assumption) rfl rfl ?_ | refine vq_loadAt rfl (by assumption) rfl rfl ?_ | refine vq_val _ (fun _ _=>runs_lenS rfl) rfl ?_ | refine vq_val _ (fun _ _=>runs_lenL rfl) rfl ?_ | refine vq_val _ (fun _ _=>runs_add rfl rfl (by omega)) rfl ?_ | refine vq_val _ (fun _ _=>runs_sub rfl rfl (by omega)) rfl ?_ | refine vq_val _ (fun _ _=>runs_eqB rfl rfl) rfl ?_ | refine vq_val _ (fun _ _=>runs_neB rfl rfl) rfl ?_ | refine vq_build rfl rfl rfl ?_ | refine vq_val _ (fun _ _=>runs_index0 rfl (by omega)) rfl ?_ | refine vq_val _ (fun _ _=>runs_index rfl rfl (by omega)) rfl ?_ | refine vs_label ?_))
  (first | refine fin_ret1 Tryz.results78 rfl ?_ | refine fin_end1 Tryz.results78 rfl ?_ | refine fin_ret2 Tryz.results78 rfl rfl ?_ | refine fin_retC1 Tryz.results78 rfl (by assumption) rfl rfl ?_ | refine fin_retC Tryz.results78 rfl (by assumption) rfl ?_)
  exact ff _ hb
 have ht:bw=true:=by simpa using hc
 rw[ht,if_pos rfl] at h;cases h
 (repeat (first | refine vo_pure rfl rfl ?_ | refine vo_guard_take rfl rfl ?_ | refine vo_guard_skip rfl rfl rfl rfl ?_ | refine vo_guard_undef rfl rfl rfl ?_ | refine vs_seq ?_ | refine vs_region ?_ | refine oN ?_ | refine nQ ?_ | refine vs_skip ?_ | refine vs_block ?_ | refine vs_ret ?_ | refine fin_seq_ret ?_ | refine fin_blk_ret ?_ | refine fin_loop_ret ?_ | refine vs_cond_true rfl ?_ | refine vs_cond_false rfl ?_ | refine fin_blk ?_ | refine vs_exit ?_ | refine fin_seq_exit ?_ | refine fin_loop_exit ?_ | refine fin_blk_exit rfl ?_ | refine fin_blk_other rfl ?_ | refine vo_fieldAddr rfl rfl ?_ | refine vo_loadB rfl (by assumption) rfl rfl ?_ | refine vo_load rfl (by assumption) rfl ?_ | refine vo_loadA rfl (by assumption) rfl rfl ?_ | refine vo_loadAt rfl (by assumption) rfl rfl ?_ | refine vo_val _ (runs_lenS rfl) rfl ?_ | refine vo_val _ (runs_lenL rfl) rfl ?_ | refine vo_val _ (runs_add rfl rfl (by omega)) rfl ?_ | refine vo_val _ (runs_sub rfl rfl (by omega)) rfl ?_ | refine vo_val _ (runs_catL rfl rfl (by ((try simp only[List.length_append,List.length_cons,List.length_nil]); omega))) rfl ?_ | refine vq_val _ (fun _ _=>runs_catL rfl rfl (by ((try simp only[List.length_append,List.length_cons,List.length_nil]); omega))) rfl ?_ | refine vo_val _ (runs_eqB rfl rfl) rfl ?_ | refine vo_val _ (runs_neB rfl rfl) rfl ?_ | refine vo_build rfl rfl rfl ?_ | refine vo_val _ (runs_index0 rfl (by omega)) rfl ?_ | refine vo_val _ (runs_index rfl rfl (by omega)) rfl ?_ | refine vs_drawn (by kernel_rfl) ?_ | refine vq_pure rfl rfl ?_ | refine vo_val _ (runs_nilCheck rfl) rfl ?_ | refine vq_val _ (fun _ _=>runs_nilCheck rfl) rfl ?_ | refine vq_guard_take rfl rfl ?_ | refine vq_guard_skip rfl rfl rfl rfl ?_ | refine vq_guard_undef rfl rfl rfl ?_ | refine vq_fieldAddr rfl rfl ?_ | refine vq_loadB rfl (by assumption) rfl rfl ?_ | refine vq_load rfl (by assumption) rfl rfl ?_ | refine vq_loadA rfl (by assumption) rfl rfl ?_ | refine vq_loadAt rfl (by assumption) rfl rfl ?_ | refine vq_val _ (fun _ _=>runs_lenS rfl) rfl ?_ | refine vq_val _ (fun _ _=>runs_lenL rfl) rfl ?_ | refine vq_val _ (fun _ _=>runs_add rfl rfl (by omega)) rfl ?_ | refine vq_val _ (fun _ _=>runs_sub rfl rfl (by omega)) rfl ?_ | refine vq_val _ (fun _ _=>runs_eqB rfl rfl) rfl ?_ | refine vq_val _ (fun _ _=>runs_neB rfl rfl) rfl ?_ | refine vq_build rfl rfl rfl ?_ | refine vq_val _ (fun _ _=>runs_index0 rfl (by omega)) rfl ?_ | refine vq_val _ (fun _ _=>runs_index rfl rfl (by omega)) rfl ?_ | refine vs_label ?_))
 refine vo_store rfl rfl B1 rfl rfl rfl rfl ?_;intro w7 hW hN7
 replace o1:=o1.wr hW (fun e=>by have:=m1 _ e; omega)
 replace o2:=o2.wr hW (fun e=>by have:=m2 _ e; omega)
 replace o3:=o3.wr hW (fun e=>by have:=m3 _ e; omega)
 replace o4:=o4.wr hW (fun e=>by have:=m4 _ e; omega)
 replace hb:=hb.trans (hW.below (by omega))
 clear B1;have B1:Blk w7 b1 [.slice p1 x1.length n1,.slice p2 x2.length n2,.slice p3 x3.length n3,.slice p4 x4.length n4] 36:=hN7
 (repeat (first | refine vo_pure rfl rfl ?_ | refine vo_guard_take rfl rfl ?_ | refine vo_guard_skip rfl rfl rfl rfl ?_ | refine vo_guard_undef rfl rfl rfl ?_ | refine vs_seq ?_ | refine vs_region ?_ | refine oN ?_ | refine nQ ?_ | refine vs_skip ?_ | refine vs_block ?_ | refine vs_ret ?_ | refine fin_seq_ret ?_ | refine fin_blk_ret ?_ | refine fin_loop_ret ?_ | refine vs_cond_true rfl ?_ | refine vs_cond_false rfl ?_ | refine fin_blk ?_ | refine vs_exit ?_ | refine fin_seq_exit ?_ | refine fin_loop_exit ?_ | refine fin_blk_exit rfl ?_ | refine fin_blk_other rfl ?_ | refine vo_fieldAddr rfl rfl ?_ | refine vo_loadB rfl (by assumption) rfl rfl ?_ | refine vo_load rfl (by assumption) rfl ?_ | refine vo_loadA rfl (by assumption) rfl rfl ?_ | refine vo_loadAt rfl (by assumption) rfl rfl ?_ | refine vo_val _ (runs_lenS rfl) rfl ?_ | refine vo_val _ (runs_lenL rfl) rfl ?_ | refine vo_val _ (runs_add rfl rfl (by omega)) rfl ?_ | refine vo_val _ (runs_sub rfl rfl (by omega)) rfl ?_ | refine vo_val _ (runs_catL rfl rfl (by ((try simp only[List.length_append,List.length_cons,List.length_nil]); omega))) rfl ?_ | refine vq_val _ (fun _ _=>runs_catL rfl rfl (by ((try simp only[List.length_append,List.length_cons,List.length_nil]); omega))) rfl ?_ | refine vo_val _ (runs_eqB rfl rfl) rfl ?_ | refine vo_val _ (runs_neB rfl rfl) rfl ?_ | refine vo_build rfl rfl rfl ?_ | refine vo_val _ (runs_index0 rfl (by omega)) rfl ?_ | refine vo_val _ (runs_index rfl rfl (by omega)) rfl ?_ | refine vs_drawn (by kernel_rfl) ?_ | refine vq_pure rfl rfl ?_ | refine vo_val _ (runs_nilCheck rfl) rfl ?_ | refine vq_val _ (fun _ _=>runs_nilCheck rfl) rfl ?_ | refine vq_guard_take rfl rfl ?_ | refine vq_guard_skip rfl rfl rfl rfl ?_ | refine vq_guard_undef rfl rfl rfl ?_ | refine vq_fieldAddr rfl rfl ?_ | refine vq_loadB rfl (by assumption) rfl rfl ?_ | refine vq_load rfl (by assumption) rfl rfl ?_ | refine vq_loadA rfl (by assumption) rfl rfl ?_ | refine vq_loadAt rfl (by assumption) rfl rfl ?_ | refine vq_val _ (fun _ _=>runs_lenS rfl) rfl ?_ | refine vq_val _ (fun _ _=>runs_lenL rfl) rfl ?_ | refine vq_val _ (fun _ _=>runs_add rfl rfl (by omega)) rfl ?_ | refine vq_val _ (fun _ _=>runs_sub rfl rfl (by omega)) rfl ?_ | refine vq_val _ (fun _ _=>runs_eqB rfl rfl) rfl ?_ | refine vq_val _ (fun _ _=>runs_neB rfl rfl) rfl ?_ | refine vq_build rfl rfl rfl ?_ | refine vq_val _ (fun _ _=>runs_index0 rfl (by omega)) rfl ?_ | refine vq_val _ (fun _ _=>runs_index rfl rfl (by omega)) rfl ?_ | refine vs_label ?_))
 (first | refine fin_ret1 Tryz.results78 rfl ?_ | refine fin_end1 Tryz.results78 rfl ?_ | refine fin_ret2 Tryz.results78 rfl rfl ?_ | refine fin_retC1 Tryz.results78 rfl (by assumption) rfl rfl ?_ | refine fin_retC Tryz.results78 rfl (by assumption) rfl ?_)
 exact⟨_,[g1,g2,g3,g4],rfl,hb,hN,fun i hi=>by have:=hls i hi; omega,resW (x:=(x1,x2,x3,x4)) o1 o2 o3 o4⟩
end
def k78:Ct:=lct 78 [.dat .str,.dat i64] (fun x=>u78 x.1 x.2.1) (fun r:Y36×Bool=>AV.tup [AV.agg [AV.ow 2 true i64 r.1.1,AV.ow 2 true i64 r.1.2.1,AV.ow 2 true i64 r.1.2.2.1,AV.ow 2 true i64 r.1.2.2.2],B r.2]) (fun _=>())
theorem o78:Ok Tryz.prog k78:=by
 unfold k78;refine ok_fac (ps:=[.dat .str,.dat i64]) rfl (by kernel_rfl) (fun _=>rfl) ?_;rintro⟨s,n,_⟩ r w h hw hF;exact c78 hw.1 hw.2.1 h hF
end Go.Proofs.YtfggbbnnalflhaaGreatDoor
end
section
namespace Go.Proofs.YtfggbbnnalflhaaGreatDoor
open Go Go.Proofs Go.Proofs.Sv Go.Proofs.Xv Go.Proofs.Xl Go.RowKit
def u30J0(v0:Int):List Int×List Int×List Int×List Int->Option (Y38)
 | (v2,v3,v4,v5) =>
 some (((5:Int),(0:Int),(0:Int),v0,(0:Int),ByteArray.mk #[],v5,v4,v3,v2))
def u30J1(v6:Int):Int×Int×ByteArray×Int×Int->Option (Y38)
 | (v11,v12,v13,v14,v15) =>
 some (v12,v6,v11,v14,v15,v13,[],[],[],[])
def u30(a0:Y50)(a1:List ByteArray):Option (Y38) :=
 gd (ix 0 a1.length/\True) <|
 if(decide (a1.getD (Int.toNat (0:Int)) (dflt Ty.str)=ByteArray.mk #[(117:UInt8),(110:UInt8),(98:UInt8),(117:UInt8),(102:UInt8),(102:UInt8),(101:UInt8),(114:UInt8)]))=true then
  some (((3:Int),(0:Int),(0:Int),(0:Int),(0:Int),ByteArray.mk #[],[],[],[],[]))
 else
  gd (ix 0 a1.length/\True) <|
  if(decide (a1.getD (Int.toNat (0:Int)) (dflt Ty.str)=ByteArray.mk #[(119:UInt8),(105:UInt8),(114:UInt8),(101:UInt8)])&&(a1.length:Int)==(3:Int))=true then
   gd (ix (1:Int) a1.length/\(u77 a0.2.1 (a1.getD (Int.toNat (1:Int)) (dflt Ty.str))).isSome=true/\True)<|lt (vl (u77 a0.2.1 (a1.getD (Int.toNat (1:Int)) (dflt Ty.str)))) fun v0 =>
   if(decide (0<=v0))=true then
    gd (ix (2:Int) a1.length/\ix v0 a0.2.2.length/\(u79 (a0.2.2.getD v0.toNat (dflt y36)).2.2.2).isSome=true/\(u78 (a1.getD (Int.toNat (2:Int)) (dflt Ty.str)) (vl (u79 (a0.2.2.getD v0.toNat (dflt y36)).2.2.2))).isSome=true/\True)<|lt (vl (u78 (a1.getD (Int.toNat (2:Int)) (dflt Ty.str)) (vl (u79 (a0.2.2.getD v0.toNat (dflt y36)).2.2.2)))) fun v1 =>
    u30J0 v0 (v1.1.2.2.2,v1.1.2.2.1,v1.1.2.1,v1.1.1)
   else
    u30J0 v0 ([],[],[],[])
  else
   if(decide ((a1.length:Int)<3))=true then
    some (((0:Int),(0:Int),(0:Int),(0:Int),(0:Int),ByteArray.mk #[],[],[],[],[]))
   else
    gd (ix (1:Int) a1.length/\(u80 a0.2.1 a0.1 (a1.getD (Int.toNat (1:Int)) (dflt Ty.str))).isSome=true/\True)<|lt (vl (u80 a0.2.1 a0.1 (a1.getD (Int.toNat (1:Int)) (dflt Ty.str)))) fun v6 =>
    gd (ix 0 a1.length/\True) <|
    if(decide (a1.getD (Int.toNat (0:Int)) (dflt Ty.str)=ByteArray.mk #[(115:UInt8),(119:UInt8),(97:UInt8),(112:UInt8)]))=true then
     gd (ix (2:Int) a1.length/\(u81 a0.1 (a1.getD (Int.toNat (2:Int)) (dflt Ty.str))).isSome=true/\True)<|lt (vl (u81 a0.1 (a1.getD (Int.toNat (2:Int)) (dflt Ty.str)))) fun v7 =>
     u30J1 v6 (v7,1,ByteArray.mk #[],0,0)
    else
     gd (ix 0 a1.length/\True) <|
     if(decide (a1.getD (Int.toNat (0:Int)) (dflt Ty.str)=ByteArray.mk #[(98:UInt8),(117:UInt8),(102:UInt8),(102:UInt8),(101:UInt8),(114:UInt8)])&&(a1.length:Int)==(4:Int))=true then
      gd (ix (2:Int) a1.length/\(u81 a0.1 (a1.getD (Int.toNat (2:Int)) (dflt Ty.str))).isSome=true/\ix (3:Int) a1.length/\True)<|lt (vl (u81 a0.1 (a1.getD (Int.toNat (2:Int)) (dflt Ty.str)))) fun v8 =>
      u30J1 v6 ((v8,2,a1.getD (Int.toNat (3:Int)) (dflt Ty.str),0,0))
     else
      gd (ix 0 a1.length/\True) <|
      if(decide (a1.getD (Int.toNat (0:Int)) (dflt Ty.str)=ByteArray.mk #[(109:UInt8),(111:UInt8),(118:UInt8),(101:UInt8)])&&(a1.length:Int)==(4:Int))=true then
       gd (ix (2:Int) a1.length/\(u77 a0.2.1 (a1.getD (Int.toNat (2:Int)) (dflt Ty.str))).isSome=true/\True)<|lt (vl (u77 a0.2.1 (a1.getD (Int.toNat (2:Int)) (dflt Ty.str)))) fun v9 =>
       gd (ix (3:Int) a1.length/\(u82 (a1.getD (Int.toNat (3:Int)) (dflt Ty.str))).isSome=true/\True)<|lt (vl (u82 (a1.getD (Int.toNat (3:Int)) (dflt Ty.str)))) fun v10 =>
       u30J1 v6 (0,4,ByteArray.mk #[],v9,v10.1)
      else
       u30J1 v6 (0,0,ByteArray.mk #[],0,0)
def k30:Ct:=lct 30 [.agg y50,.dat Ty.str.sl] (fun x=>u30 x.1 x.2.1) (fun r:Y38=>AV.agg [I r.1,I r.2.1,I r.2.2.1,I r.2.2.2.1,I r.2.2.2.2.1,S r.2.2.2.2.2.1,AV.ow 2 true i64 r.2.2.2.2.2.2.1,AV.ow 2 true i64 r.2.2.2.2.2.2.2.1,AV.ow 2 true i64 r.2.2.2.2.2.2.2.2.1,AV.ow 2 true i64 r.2.2.2.2.2.2.2.2.2]) (fun _=>())
theorem o30:Ok Tryz.prog k30:=by
 refine okl tok [.cell 4 38] Tryz.func30 Tryz.ntmps30 rfl Tryz.results30 (by kernel_rfl) rfl ?_;intro y ⟨a0,a1,_⟩ r H Q hn hr;have hT:=tc o82 (tc o77 (tc o81 (tc o80 (tc o78 (tc o79 tn)))));refine qa tok hT [1,2,4] (St.mk [p 1 (L Ty.str a1),p 2 (AV.ptr 2 0),p 4 (AV.ptr 4 0)] [(4,Ob.box 38 [I 0,I 0,I 0,I 0,I 0,S (ByteArray.mk #[]),AV.v (Value.slice none 0 0),AV.v (Value.slice none 0 0),AV.v (Value.slice none 0 0),AV.v (Value.slice none 0 0)]),(2,Ob.box 50 (cellsD false y50 a0))]) (by kernel_rfl) ?_;refine vQ<|vB<|?_
 refine qb tok hT [1,2,4,7] (St.mk [p (1:Nat) (L Ty.str a1),p (2:Nat) (AV.ptr (2:Nat) (0:Nat)),p (4:Nat) (AV.ptr (4:Nat) (0:Nat)),p (7:Nat) (B (decide (a1.getD (Int.toNat (0:Int)) (dflt Ty.str)=ByteArray.mk #[(117:UInt8),(110:UInt8),(98:UInt8),(117:UInt8),(102:UInt8),(102:UInt8),(101:UInt8),(114:UInt8)])))] [((4:Nat),Ob.box (nat_lit 38) [I (0:Int),I (0:Int),I (0:Int),I (0:Int),I (0:Int),S (ByteArray.mk #[]),AV.v (Value.slice none (0:Nat) (0:Nat)),AV.v (Value.slice none (0:Nat) (0:Nat)),AV.v (Value.slice none (0:Nat) (0:Nat)),AV.v (Value.slice none (0:Nat) (0:Nat))]),((2:Nat),Ob.box (nat_lit 50) (cellsD false y50 a0))]) H (by kernel_rfl) fun H=>?_;refine cd H (by kernel_rfl) (fun H=>?_) (fun H=>?_)
 ·refine qa tok hT [4] (St.mk [p 4 (AV.ptr 4 0)] [(4,Ob.box 38 [I 3,I 0,I 0,I 0,I 0,S (ByteArray.mk #[]),AV.v (Value.slice none 0 0),AV.v (Value.slice none 0 0),AV.v (Value.slice none 0 0),AV.v (Value.slice none 0 0)]),(2,Ob.box 50 (cellsD false y50 a0))]) (by kernel_rfl) ?_;exact vTT<|fDD<|fR<|hr H (by kernel_rfl)
 refine qb tok hT [1,2,4,13] (St.mk [p (1:Nat) (L Ty.str a1),p (2:Nat) (AV.ptr (2:Nat) (0:Nat)),p (4:Nat) (AV.ptr (4:Nat) (0:Nat)),p (13:Nat) (B (decide (a1.getD (Int.toNat (0:Int)) (dflt Ty.str)=ByteArray.mk #[(119:UInt8),(105:UInt8),(114:UInt8),(101:UInt8)])&&(a1.length:Int)==(3:Int)))] [((4:Nat),Ob.box (nat_lit 38) [I (0:Int),I (0:Int),I (0:Int),I (0:Int),I (0:Int),S (ByteArray.mk #[]),AV.v (Value.slice none (0:Nat) (0:Nat)),AV.v (Value.slice none (0:Nat) (0:Nat)),AV.v (Value.slice none (0:Nat) (0:Nat)),AV.v (Value.slice none (0:Nat) (0:Nat))]),((2:Nat),Ob.box (nat_lit 50) (cellsD false y50 a0))]) H (by kernel_rfl) fun H=>?_;refine cd H (by kernel_rfl) (fun H=>?_) (fun H=>?_)
 ·refine qd tok hT [1,2,4,5] (fun v0=>St.mk [p 1 (L Ty.str a1),p 2 (AV.ptr 2 0),p 4 (AV.ptr 4 0),p 5 (AV.ptr 5 0)] [(5,Ob.box 38 [I 5,I 0,I 0,I v0,I 0,S (ByteArray.mk #[]),AV.v (Value.slice none 0 0),AV.v (Value.slice none 0 0),AV.v (Value.slice none 0 0),AV.v (Value.slice none 0 0)]),(4,Ob.box 38 [I 0,I 0,I 0,I 0,I 0,S (ByteArray.mk #[]),AV.v (Value.slice none 0 0),AV.v (Value.slice none 0 0),AV.v (Value.slice none 0 0),AV.v (Value.slice none 0 0)]),(2,Ob.box 50 (cellsD false y50 a0))]) H (by kernel_rfl) fun v0 H=>?_;refine jn r (fun((v2,v3,v4,v5):List Int×List Int×List Int×List Int)=>St.mk [p 4 (AV.ptr 4 0),p 5 (AV.ptr 5 0)] [(5,Ob.box 38 [I 5,I 0,I 0,I v0,I 0,S (ByteArray.mk #[]),AV.os 45 0,AV.os 1045 0,AV.os 2045 0,AV.os 3045 0]),(3045,Ob.arr 2 true i64 v2 0),(2045,Ob.arr 2 true i64 v3 0),(1045,Ob.arr 2 true i64 v4 0),(45,Ob.arr 2 true i64 v5 0),(4,Ob.box 38 [I 0,I 0,I 0,I 0,I 0,S (ByteArray.mk #[]),AV.v (Value.slice none 0 0),AV.v (Value.slice none 0 0),AV.v (Value.slice none 0 0),AV.v (Value.slice none 0 0)])]) (u30J0 v0) (fun⟨v2,v3,v4,v5⟩ H=>?_) (fun _ n0 e0 t0=>?_)
  ·refine qa tok hT [4] (St.mk [p 4 (AV.ptr 4 0)] [(4,Ob.box 38 [I 5,I 0,I 0,I v0,I 0,S (ByteArray.mk #[]),AV.os 45 0,AV.os 1045 0,AV.os 2045 0,AV.os 3045 0]),(5,Ob.box 38 [I 5,I 0,I 0,I v0,I 0,S (ByteArray.mk #[]),AV.os 45 0,AV.os 1045 0,AV.os 2045 0,AV.os 3045 0]),(3045,Ob.arr 2 true i64 v2 0),(2045,Ob.arr 2 true i64 v3 0),(1045,Ob.arr 2 true i64 v4 0),(45,Ob.arr 2 true i64 v5 0)]) (by kernel_rfl) ?_;exact vTT<|fDD<|fR<|hr H (by kernel_rfl)
  refine qa tok hT [1,2,4,5,32] (St.mk [p 1 (L Ty.str a1),p 2 (AV.ptr 2 0),p 4 (AV.ptr 4 0),p 5 (AV.ptr 5 0),p 32 (B (decide (0<=v0)))] [(5,Ob.box 38 [I 5,I 0,I 0,I v0,I 0,S (ByteArray.mk #[]),AV.v (Value.slice none 0 0),AV.v (Value.slice none 0 0),AV.v (Value.slice none 0 0),AV.v (Value.slice none 0 0)]),(4,Ob.box 38 [I 0,I 0,I 0,I 0,I 0,S (ByteArray.mk #[]),AV.v (Value.slice none 0 0),AV.v (Value.slice none 0 0),AV.v (Value.slice none 0 0),AV.v (Value.slice none 0 0)]),(2,Ob.box 50 (cellsD false y50 a0))]) (by kernel_rfl) ?_;refine cd H (by kernel_rfl) (fun H=>?_) (fun H=>?_)
  ·refine zd tok hT [4,5] (fun v1=>St.mk [p 4 (AV.ptr 4 0),p 5 (AV.ptr 5 0)] [(5,Ob.box 38 [I 5,I 0,I 0,I v0,I 0,S (ByteArray.mk #[]),AV.os 45 0,AV.os 1045 0,AV.os 2045 0,AV.os 3045 0]),(3045,Ob.arr 2 true i64 v1.1.2.2.2 0),(2045,Ob.arr 2 true i64 v1.1.2.2.1 0),(1045,Ob.arr 2 true i64 v1.1.2.1 0),(45,Ob.arr 2 true i64 v1.1.1 0),(4,Ob.box 38 [I 0,I 0,I 0,I 0,I 0,S (ByteArray.mk #[]),AV.v (Value.slice none 0 0),AV.v (Value.slice none 0 0),AV.v (Value.slice none 0 0),AV.v (Value.slice none 0 0)]),(2,Ob.box 50 (cellsD false y50 a0))]) H (by kernel_rfl) fun v1 H=>?_;exact n0 H (by kernel_rfl)
  exact vK<|n0 H (by kernel_rfl)
 refine qa tok hT [1,2,4,50] (St.mk [p 1 (L Ty.str a1),p 2 (AV.ptr 2 0),p 4 (AV.ptr 4 0),p 50 (B (decide ((a1.length:Int)<3)))] [(4,Ob.box 38 [I 0,I 0,I 0,I 0,I 0,S (ByteArray.mk #[]),AV.v (Value.slice none 0 0),AV.v (Value.slice none 0 0),AV.v (Value.slice none 0 0),AV.v (Value.slice none 0 0)]),(2,Ob.box 50 (cellsD false y50 a0))]) (by kernel_rfl) ?_;refine cd H (by kernel_rfl) (fun H=>?_) (fun H=>?_)
 ·refine qa tok hT [4] (St.mk [p 4 (AV.ptr 4 0)] [(4,Ob.box 38 [I 0,I 0,I 0,I 0,I 0,S (ByteArray.mk #[]),AV.v (Value.slice none 0 0),AV.v (Value.slice none 0 0),AV.v (Value.slice none 0 0),AV.v (Value.slice none 0 0)]),(2,Ob.box 50 (cellsD false y50 a0))]) (by kernel_rfl) ?_;exact vTT<|fDD<|fR<|hr H (by kernel_rfl)
 refine vK<|fK<|fQ<|?_
 refine qd tok hT [1,2,4,6] (fun v6=>St.mk [p 1 (L Ty.str a1),p 2 (AV.ptr 2 0),p 4 (AV.ptr 4 0),p 6 (AV.ptr 6 0)] [(6,Ob.box 38 [I 0,I v6,I 0,I 0,I 0,S (ByteArray.mk #[]),AV.v (Value.slice none 0 0),AV.v (Value.slice none 0 0),AV.v (Value.slice none 0 0),AV.v (Value.slice none 0 0)]),(4,Ob.box 38 [I 0,I 0,I 0,I 0,I 0,S (ByteArray.mk #[]),AV.v (Value.slice none 0 0),AV.v (Value.slice none 0 0),AV.v (Value.slice none 0 0),AV.v (Value.slice none 0 0)]),(2,Ob.box 50 (cellsD false y50 a0))]) H (by kernel_rfl) fun v6 H=>?_;refine jn r (fun((v11,v12,v13,v14,v15):Int×Int×ByteArray×Int×Int)=>St.mk [p 4 (AV.ptr 4 0),p 6 (AV.ptr 6 0)] [(6,Ob.box 38 [I v12,I v6,I v11,I v14,I v15,U v13,AV.v (Value.slice none 0 0),AV.v (Value.slice none 0 0),AV.v (Value.slice none 0 0),AV.v (Value.slice none 0 0)]),(4,Ob.box 38 [I 0,I 0,I 0,I 0,I 0,S (ByteArray.mk #[]),AV.v (Value.slice none 0 0),AV.v (Value.slice none 0 0),AV.v (Value.slice none 0 0),AV.v (Value.slice none 0 0)])]) (u30J1 v6) (fun⟨v11,v12,v13,v14,v15⟩ H=>?_) (fun _ n1 e1 t1=>?_)
 ·refine qa tok hT [4] (St.mk [p 4 (AV.ptr 4 0)] [(4,Ob.box 38 [I v12,I v6,I v11,I v14,I v15,U v13,AV.v (Value.slice none 0 0),AV.v (Value.slice none 0 0),AV.v (Value.slice none 0 0),AV.v (Value.slice none 0 0)]),(6,Ob.box 38 [I v12,I v6,I v11,I v14,I v15,U v13,AV.v (Value.slice none 0 0),AV.v (Value.slice none 0 0),AV.v (Value.slice none 0 0),AV.v (Value.slice none 0 0)])]) (by kernel_rfl) ?_;exact vTT<|hr H (by kernel_rfl)
 refine vB<|?_
 refine qb tok hT [1,2,4,6,64] (St.mk [p (1:Nat) (L Ty.str a1),p (2:Nat) (AV.ptr (2:Nat) (0:Nat)),p (4:Nat) (AV.ptr (4:Nat) (0:Nat)),p (6:Nat) (AV.ptr (6:Nat) (0:Nat)),p (64:Nat) (B (decide (a1.getD (Int.toNat (0:Int)) (dflt Ty.str)=ByteArray.mk #[(115:UInt8),(119:UInt8),(97:UInt8),(112:UInt8)])))] [((6:Nat),Ob.box (nat_lit 38) [I (0:Int),I v6,I (0:Int),I (0:Int),I (0:Int),S (ByteArray.mk #[]),AV.v (Value.slice none (0:Nat) (0:Nat)),AV.v (Value.slice none (0:Nat) (0:Nat)),AV.v (Value.slice none (0:Nat) (0:Nat)),AV.v (Value.slice none (0:Nat) (0:Nat))]),((4:Nat),Ob.box (nat_lit 38) [I (0:Int),I (0:Int),I (0:Int),I (0:Int),I (0:Int),S (ByteArray.mk #[]),AV.v (Value.slice none (0:Nat) (0:Nat)),AV.v (Value.slice none (0:Nat) (0:Nat)),AV.v (Value.slice none (0:Nat) (0:Nat)),AV.v (Value.slice none (0:Nat) (0:Nat))]),((2:Nat),Ob.box (nat_lit 50) (cellsD false y50 a0))]) H (by kernel_rfl) fun H=>?_;refine cd H (by kernel_rfl) (fun H=>?_) (fun H=>?_)
 ·refine zd tok hT [4,6] (fun v7=>St.mk [p 4 (AV.ptr 4 0),p 6 (AV.ptr 6 0)] [(6,Ob.box 38 [I 1,I v6,I v7,I 0,I 0,S (ByteArray.mk #[]),AV.v (Value.slice none 0 0),AV.v (Value.slice none 0 0),AV.v (Value.slice none 0 0),AV.v (Value.slice none 0 0)]),(4,Ob.box 38 [I 0,I 0,I 0,I 0,I 0,S (ByteArray.mk #[]),AV.v (Value.slice none 0 0),AV.v (Value.slice none 0 0),AV.v (Value.slice none 0 0),AV.v (Value.slice none 0 0)]),(2,Ob.box 50 (cellsD false y50 a0))]) H (by kernel_rfl) fun v7 H=>?_;exact fK<|n1 H (by kernel_rfl)
 refine qb tok hT [1,2,4,6,77] (St.mk [p (1:Nat) (L Ty.str a1),p (2:Nat) (AV.ptr (2:Nat) (0:Nat)),p (4:Nat) (AV.ptr (4:Nat) (0:Nat)),p (6:Nat) (AV.ptr (6:Nat) (0:Nat)),p (77:Nat) (B (decide (a1.getD (Int.toNat (0:Int)) (dflt Ty.str)=ByteArray.mk #[(98:UInt8),(117:UInt8),(102:UInt8),(102:UInt8),(101:UInt8),(114:UInt8)])&&(a1.length:Int)==(4:Int)))] [((6:Nat),Ob.box (nat_lit 38) [I (0:Int),I v6,I (0:Int),I (0:Int),I (0:Int),S (ByteArray.mk #[]),AV.v (Value.slice none (0:Nat) (0:Nat)),AV.v (Value.slice none (0:Nat) (0:Nat)),AV.v (Value.slice none (0:Nat) (0:Nat)),AV.v (Value.slice none (0:Nat) (0:Nat))]),((4:Nat),Ob.box (nat_lit 38) [I (0:Int),I (0:Int),I (0:Int),I (0:Int),I (0:Int),S (ByteArray.mk #[]),AV.v (Value.slice none (0:Nat) (0:Nat)),AV.v (Value.slice none (0:Nat) (0:Nat)),AV.v (Value.slice none (0:Nat) (0:Nat)),AV.v (Value.slice none (0:Nat) (0:Nat))]),((2:Nat),Ob.box (nat_lit 50) (cellsD false y50 a0))]) H (by kernel_rfl) fun H=>?_;refine cd H (by kernel_rfl) (fun H=>?_) (fun H=>?_)
 ·refine zd tok hT [4,6] (fun v8=>St.mk [p (4:Nat) (AV.ptr (4:Nat) (0:Nat)),p (6:Nat) (AV.ptr (6:Nat) (0:Nat))] [((6:Nat),Ob.box (nat_lit 38) [I (2:Int),I v6,I v8,I (0:Int),I (0:Int),U (a1.getD (Int.toNat (3:Int)) (dflt Ty.str)),AV.v (Value.slice none (0:Nat) (0:Nat)),AV.v (Value.slice none (0:Nat) (0:Nat)),AV.v (Value.slice none (0:Nat) (0:Nat)),AV.v (Value.slice none (0:Nat) (0:Nat))]),((4:Nat),Ob.box (nat_lit 38) [I (0:Int),I (0:Int),I (0:Int),I (0:Int),I (0:Int),S (ByteArray.mk #[]),AV.v (Value.slice none (0:Nat) (0:Nat)),AV.v (Value.slice none (0:Nat) (0:Nat)),AV.v (Value.slice none (0:Nat) (0:Nat)),AV.v (Value.slice none (0:Nat) (0:Nat))]),((2:Nat),Ob.box (nat_lit 50) (cellsD false y50 a0))]) H (by kernel_rfl) fun v8 H=>?_;exact fK<|n1 H (by kernel_rfl)
 refine qb tok hT [1,2,4,6,99] (St.mk [p (1:Nat) (L Ty.str a1),p (2:Nat) (AV.ptr (2:Nat) (0:Nat)),p (4:Nat) (AV.ptr (4:Nat) (0:Nat)),p (6:Nat) (AV.ptr (6:Nat) (0:Nat)),p (99:Nat) (B (decide (a1.getD (Int.toNat (0:Int)) (dflt Ty.str)=ByteArray.mk #[(109:UInt8),(111:UInt8),(118:UInt8),(101:UInt8)])&&(a1.length:Int)==(4:Int)))] [((6:Nat),Ob.box (nat_lit 38) [I (0:Int),I v6,I (0:Int),I (0:Int),I (0:Int),S (ByteArray.mk #[]),AV.v (Value.slice none (0:Nat) (0:Nat)),AV.v (Value.slice none (0:Nat) (0:Nat)),AV.v (Value.slice none (0:Nat) (0:Nat)),AV.v (Value.slice none (0:Nat) (0:Nat))]),((4:Nat),Ob.box (nat_lit 38) [I (0:Int),I (0:Int),I (0:Int),I (0:Int),I (0:Int),S (ByteArray.mk #[]),AV.v (Value.slice none (0:Nat) (0:Nat)),AV.v (Value.slice none (0:Nat) (0:Nat)),AV.v (Value.slice none (0:Nat) (0:Nat)),AV.v (Value.slice none (0:Nat) (0:Nat))]),((2:Nat),Ob.box (nat_lit 50) (cellsD false y50 a0))]) H (by kernel_rfl) fun H=>?_;refine cd H (by kernel_rfl) (fun H=>?_) (fun H=>?_)
 ·refine qd tok hT [1,4,6] (fun v9=>St.mk [p 1 (L Ty.str a1),p 4 (AV.ptr 4 0),p 6 (AV.ptr 6 0)] [(6,Ob.box 38 [I 4,I v6,I 0,I v9,I 0,S (ByteArray.mk #[]),AV.v (Value.slice none 0 0),AV.v (Value.slice none 0 0),AV.v (Value.slice none 0 0),AV.v (Value.slice none 0 0)]),(4,Ob.box 38 [I 0,I 0,I 0,I 0,I 0,S (ByteArray.mk #[]),AV.v (Value.slice none 0 0),AV.v (Value.slice none 0 0),AV.v (Value.slice none 0 0),AV.v (Value.slice none 0 0)]),(2,Ob.box 50 (cellsD false y50 a0))]) H (by kernel_rfl) fun v9 H=>?_;refine zd tok hT [4,6] (fun v10=>St.mk [p 4 (AV.ptr 4 0),p 6 (AV.ptr 6 0)] [(6,Ob.box 38 [I 4,I v6,I 0,I v9,I v10.1,S (ByteArray.mk #[]),AV.v (Value.slice none 0 0),AV.v (Value.slice none 0 0),AV.v (Value.slice none 0 0),AV.v (Value.slice none 0 0)]),(4,Ob.box 38 [I 0,I 0,I 0,I 0,I 0,S (ByteArray.mk #[]),AV.v (Value.slice none 0 0),AV.v (Value.slice none 0 0),AV.v (Value.slice none 0 0),AV.v (Value.slice none 0 0)]),(2,Ob.box 50 (cellsD false y50 a0))]) H (by kernel_rfl) fun v10 H=>?_;exact fK<|n1 H (by kernel_rfl)
 exact vK<|fK<|n1 H (by kernel_rfl)
def u8(a0:Y50)(a1:ByteArray):Option (Y38×Int) :=
 gd ((u29 a0).isSome=true/\True) <|
 if(!vl (u29 a0))=true then
  some ((((0:Int),(0:Int),(0:Int),(0:Int),(0:Int),ByteArray.mk #[],[],[],[],[]),(1:Int)))
 else
  gd ((u31 a1 (ByteArray.mk #[32])).isSome=true/\(u30 a0 (vl (u31 a1 (ByteArray.mk #[32])))).isSome=true/\True)<|lt ((vl (u30 a0 (vl (u31 a1 (ByteArray.mk #[32])))),vl (u31 a1 (ByteArray.mk #[32])))) fun(v0,v1) =>
  gd ((u32 v0 a0).isSome=true/\((vl (u32 v0 a0) != 0)=false/\True->(u33 v0 a0).isSome=true)/\True)<|lt ((vl (u32 v0 a0),vl (u33 v0 a0))) fun(v2,v3) =>
  if(v2 != 0||!decide (v3=a1))=true then
   some ((((0:Int),(0:Int),(0:Int),(0:Int),(0:Int),ByteArray.mk #[],[],[],[],[]),(6:Int)))
  else
   some ((v0,(0:Int)))
def k8:Ct:=lct 8 [.agg y50,.dat Ty.str] (fun x=>u8 x.1 x.2.1) (fun r:Y38×Int=>AV.tup [AV.agg [I r.1.1,I r.1.2.1,I r.1.2.2.1,I r.1.2.2.2.1,I r.1.2.2.2.2.1,S r.1.2.2.2.2.2.1,AV.ow 2 true i64 r.1.2.2.2.2.2.2.1,AV.ow 2 true i64 r.1.2.2.2.2.2.2.2.1,AV.ow 2 true i64 r.1.2.2.2.2.2.2.2.2.1,AV.ow 2 true i64 r.1.2.2.2.2.2.2.2.2.2],I r.2]) (fun _=>())
theorem o8:Ok Tryz.prog k8:=by
 refine okl tok [.cell 4 38,.tmp 5] Tryz.func8 Tryz.ntmps8 rfl Tryz.results8 (by kernel_rfl) rfl ?_;intro y ⟨a0,a1,_⟩ r H Q hn hr;have hT:=tc o33 (tc o32 (tc o30 (tc o31 (tc o29 tn))));refine qa tok hT [1,2,4] (St.mk [p 1 (U a1),p 2 (AV.ptr 2 0),p 4 (AV.ptr 4 0)] [(4,Ob.box 38 [I 0,I 0,I 0,I 0,I 0,S (ByteArray.mk #[]),AV.v (Value.slice none 0 0),AV.v (Value.slice none 0 0),AV.v (Value.slice none 0 0),AV.v (Value.slice none 0 0)]),(2,Ob.box 50 (cellsD false y50 a0))]) (by kernel_rfl) ?_;refine vQ<|?_
 refine qb tok hT [1,2,4,9] (St.mk [p 1 (U a1),p 2 (AV.ptr 2 0),p 4 (AV.ptr 4 0),p 9 (B !vl (u29 a0))] [(4,Ob.box 38 [I 0,I 0,I 0,I 0,I 0,S (ByteArray.mk #[]),AV.v (Value.slice none 0 0),AV.v (Value.slice none 0 0),AV.v (Value.slice none 0 0),AV.v (Value.slice none 0 0)]),(2,Ob.box 50 (cellsD false y50 a0))]) H (by kernel_rfl) fun H=>?_;refine cd H (by kernel_rfl) (fun H=>?_) (fun H=>?_)
 ·refine qa tok hT [4,5] (St.mk [p 4 (AV.ptr 4 0),p 5 (I 1)] [(4,Ob.box 38 [I 0,I 0,I 0,I 0,I 0,S (ByteArray.mk #[]),AV.v (Value.slice none 0 0),AV.v (Value.slice none 0 0),AV.v (Value.slice none 0 0),AV.v (Value.slice none 0 0)]),(2,Ob.box 50 (cellsD false y50 a0))]) (by kernel_rfl) ?_;exact vTT<|fR<|hr H (by kernel_rfl)
 refine vK<|fQ<|?_
 refine qd tok hT [1,2,4,6] (fun(v0,v1)=>St.mk [p 1 (U a1),p 2 (AV.ptr 2 0),p 4 (AV.ptr 4 0),p 6 (AV.ptr 6 0)] [(6,Ob.box 38 [I v0.1,I v0.2.1,I v0.2.2.1,I v0.2.2.2.1,I v0.2.2.2.2.1,S v0.2.2.2.2.2.1,AV.os 14 0,AV.os 1014 0,AV.os 2014 0,AV.os 3014 0]),(3014,Ob.arr 2 true i64 v0.2.2.2.2.2.2.2.2.2 0),(2014,Ob.arr 2 true i64 v0.2.2.2.2.2.2.2.2.1 0),(1014,Ob.arr 2 true i64 v0.2.2.2.2.2.2.2.1 0),(14,Ob.arr 2 true i64 v0.2.2.2.2.2.2.1 0),(13,Ob.arr 9 true Ty.str v1 0),(4,Ob.box 38 [I 0,I 0,I 0,I 0,I 0,S (ByteArray.mk #[]),AV.v (Value.slice none 0 0),AV.v (Value.slice none 0 0),AV.v (Value.slice none 0 0),AV.v (Value.slice none 0 0)]),(2,Ob.box 50 (cellsD false y50 a0))]) H (by kernel_rfl) fun⟨v0,v1⟩ H=>?_;refine vQ<|?_
 refine qd tok hT [4,6,25] (fun(v2,v3)=>St.mk [p 4 (AV.ptr 4 0),p 6 (AV.ptr 6 0),p 25 (B (v2 != 0||!decide (v3=a1)))] [(6,Ob.box 38 [I v0.1,I v0.2.1,I v0.2.2.1,I v0.2.2.2.1,I v0.2.2.2.2.1,S v0.2.2.2.2.2.1,AV.os 14 0,AV.os 1014 0,AV.os 2014 0,AV.os 3014 0]),(3014,Ob.arr 2 true i64 v0.2.2.2.2.2.2.2.2.2 0),(2014,Ob.arr 2 true i64 v0.2.2.2.2.2.2.2.2.1 0),(1014,Ob.arr 2 true i64 v0.2.2.2.2.2.2.2.1 0),(14,Ob.arr 2 true i64 v0.2.2.2.2.2.2.1 0),(13,Ob.arr 9 true Ty.str v1 0),(4,Ob.box 38 [I 0,I 0,I 0,I 0,I 0,S (ByteArray.mk #[]),AV.v (Value.slice none 0 0),AV.v (Value.slice none 0 0),AV.v (Value.slice none 0 0),AV.v (Value.slice none 0 0)]),(2,Ob.box 50 (cellsD false y50 a0))]) H (by kernel_rfl) fun⟨v2,v3⟩ H=>?_;refine cd H (by kernel_rfl) (fun H=>?_) (fun H=>?_)
 ·refine qa tok hT [4,5] (St.mk [p 4 (AV.ptr 4 0),p 5 (I 6)] [(4,Ob.box 38 [I 0,I 0,I 0,I 0,I 0,S (ByteArray.mk #[]),AV.v (Value.slice none 0 0),AV.v (Value.slice none 0 0),AV.v (Value.slice none 0 0),AV.v (Value.slice none 0 0)]),(6,Ob.box 38 [I v0.1,I v0.2.1,I v0.2.2.1,I v0.2.2.2.1,I v0.2.2.2.2.1,S v0.2.2.2.2.2.1,AV.os 14 0,AV.os 1014 0,AV.os 2014 0,AV.os 3014 0]),(3014,Ob.arr 2 true i64 v0.2.2.2.2.2.2.2.2.2 0),(2014,Ob.arr 2 true i64 v0.2.2.2.2.2.2.2.2.1 0),(1014,Ob.arr 2 true i64 v0.2.2.2.2.2.2.2.1 0),(14,Ob.arr 2 true i64 v0.2.2.2.2.2.2.1 0),(13,Ob.arr 9 true Ty.str v1 0),(2,Ob.box 50 (cellsD false y50 a0))]) (by kernel_rfl) ?_;exact vTT<|fR<|hr H (by kernel_rfl)
 refine vK<|fQ<|?_
 refine qa tok hT [4,5] (St.mk [p 4 (AV.ptr 4 0),p 5 (I 0)] [(4,Ob.box 38 [I v0.1,I v0.2.1,I v0.2.2.1,I v0.2.2.2.1,I v0.2.2.2.2.1,S v0.2.2.2.2.2.1,AV.os 14 0,AV.os 1014 0,AV.os 2014 0,AV.os 3014 0]),(6,Ob.box 38 [I v0.1,I v0.2.1,I v0.2.2.1,I v0.2.2.2.1,I v0.2.2.2.2.1,S v0.2.2.2.2.2.1,AV.os 14 0,AV.os 1014 0,AV.os 2014 0,AV.os 3014 0]),(3014,Ob.arr 2 true i64 v0.2.2.2.2.2.2.2.2.2 0),(2014,Ob.arr 2 true i64 v0.2.2.2.2.2.2.2.2.1 0),(1014,Ob.arr 2 true i64 v0.2.2.2.2.2.2.2.1 0),(14,Ob.arr 2 true i64 v0.2.2.2.2.2.2.1 0),(13,Ob.arr 9 true Ty.str v1 0),(2,Ob.box 50 (cellsD false y50 a0))]) (by kernel_rfl) ?_;exact vTT<|hr H (by kernel_rfl)
end Go.Proofs.YtfggbbnnalflhaaGreatDoor
end
section
namespace Go.Proofs.YtfggbbnnalflhaaGreatDoor
open Go Go.Proofs Go.Proofs.Sv
instance:AggT Tryz.prog 32:=⟨by kernel_rfl⟩
instance:FieldAt Tryz.prog 32 0 0:=⟨by kernel_rfl⟩
instance:FieldAt Tryz.prog 32 1 1:=⟨by kernel_rfl⟩
instance:FieldAt Tryz.prog 32 2 4:=⟨by kernel_rfl⟩
instance:Info Tryz.prog 32 5 120 (.agg #[.slice none 0 0,.slice none 0 0,.slice none 0 0,.slice none 0 0,.slice none 0 0]):=⟨by kernel_rfl⟩
instance:AggT Tryz.prog 38:=⟨by kernel_rfl⟩
instance:FieldAt Tryz.prog 38 0 0:=⟨by kernel_rfl⟩
instance:FieldAt Tryz.prog 38 1 1:=⟨by kernel_rfl⟩
instance:FieldAt Tryz.prog 38 2 2:=⟨by kernel_rfl⟩
instance:FieldAt Tryz.prog 38 3 3:=⟨by kernel_rfl⟩
instance:FieldAt Tryz.prog 38 4 4:=⟨by kernel_rfl⟩
instance:FieldAt Tryz.prog 38 5 5:=⟨by kernel_rfl⟩
instance:FieldAt Tryz.prog 38 6 6:=⟨by kernel_rfl⟩
instance:Info Tryz.prog 38 10 152 (.agg #[.int .i64 0,.int .i64 0,.int .i64 0,.int .i64 0,.int .i64 0,.string ⟨#[]⟩,.slice none 0 0,.slice none 0 0,.slice none 0 0,.slice none 0 0]):=⟨by kernel_rfl⟩
instance:NotAgg Tryz.prog 41:=⟨by kernel_rfl⟩
instance:SliceOf Tryz.prog 41 115:=⟨by kernel_rfl⟩
instance:Info Tryz.prog 41 1 24 (.slice none 0 0):=⟨by kernel_rfl⟩
instance:AggT Tryz.prog 43:=⟨by kernel_rfl⟩
instance:FieldAt Tryz.prog 43 0 0:=⟨by kernel_rfl⟩
instance:Info Tryz.prog 43 1 24 (.agg #[.slice none 0 0]):=⟨by kernel_rfl⟩
instance:NotAgg Tryz.prog 44:=⟨by kernel_rfl⟩
instance:SliceOf Tryz.prog 44 152:=⟨by kernel_rfl⟩
instance:Info Tryz.prog 44 1 24 (.slice none 0 0):=⟨by kernel_rfl⟩
instance:NotAgg Tryz.prog 45:=⟨by kernel_rfl⟩
instance:SliceOf Tryz.prog 45 166:=⟨by kernel_rfl⟩
instance:Info Tryz.prog 45 1 24 (.slice none 0 0):=⟨by kernel_rfl⟩
instance:AggT Tryz.prog 47:=⟨by kernel_rfl⟩
instance:FieldAt Tryz.prog 47 0 0:=⟨by kernel_rfl⟩
instance:FieldAt Tryz.prog 47 1 1:=⟨by kernel_rfl⟩
instance:FieldAt Tryz.prog 47 2 2:=⟨by kernel_rfl⟩
instance:Info Tryz.prog 47 3 72 (.agg #[.slice none 0 0,.slice none 0 0,.slice none 0 0]):=⟨by kernel_rfl⟩
instance:NotAgg Tryz.prog 48:=⟨by kernel_rfl⟩
instance:SliceOf Tryz.prog 48 36:=⟨by kernel_rfl⟩
instance:Info Tryz.prog 48 1 24 (.slice none 0 0):=⟨by kernel_rfl⟩
instance:AggT Tryz.prog 50:=⟨by kernel_rfl⟩
instance:FieldAt Tryz.prog 50 0 0:=⟨by kernel_rfl⟩
instance:FieldAt Tryz.prog 50 1 1:=⟨by kernel_rfl⟩
instance:FieldAt Tryz.prog 50 2 4:=⟨by kernel_rfl⟩
instance:Info Tryz.prog 50 5 120 (.agg #[.slice none 0 0,.slice none 0 0,.slice none 0 0,.slice none 0 0,.slice none 0 0]):=⟨by kernel_rfl⟩
instance:NotAgg Tryz.prog 112:=⟨by kernel_rfl⟩
instance:SliceOf Tryz.prog 112 170:=⟨by kernel_rfl⟩
instance:Info Tryz.prog 112 1 24 (.slice none 0 0):=⟨by kernel_rfl⟩
instance:NotAgg Tryz.prog 113:=⟨by kernel_rfl⟩
instance:SliceOf Tryz.prog 113 243:=⟨by kernel_rfl⟩
instance:Info Tryz.prog 113 1 24 (.slice none 0 0):=⟨by kernel_rfl⟩
instance:AggT Tryz.prog 115:=⟨by kernel_rfl⟩
instance:FieldAt Tryz.prog 115 0 0:=⟨by kernel_rfl⟩
instance:FieldAt Tryz.prog 115 1 1:=⟨by kernel_rfl⟩
instance:FieldAt Tryz.prog 115 2 2:=⟨by kernel_rfl⟩
instance:FieldAt Tryz.prog 115 3 3:=⟨by kernel_rfl⟩
instance:FieldAt Tryz.prog 115 4 4:=⟨by kernel_rfl⟩
instance:FieldAt Tryz.prog 115 5 5:=⟨by kernel_rfl⟩
instance:FieldAt Tryz.prog 115 6 6:=⟨by kernel_rfl⟩
instance:Info Tryz.prog 115 7 112 (.agg #[.string ⟨#[]⟩,.int .i64 0,.slice none 0 0,.slice none 0 0,.slice none 0 0,.int .i64 0,.int .i64 0]):=⟨by kernel_rfl⟩
instance:AggT Tryz.prog 152:=⟨by kernel_rfl⟩
instance:FieldAt Tryz.prog 152 0 0:=⟨by kernel_rfl⟩
instance:FieldAt Tryz.prog 152 1 1:=⟨by kernel_rfl⟩
instance:FieldAt Tryz.prog 152 2 2:=⟨by kernel_rfl⟩
instance:Info Tryz.prog 152 3 48 (.agg #[.string ⟨#[]⟩,.int .i64 0,.slice none 0 0]):=⟨by kernel_rfl⟩
instance:AggT Tryz.prog 166:=⟨by kernel_rfl⟩
instance:FieldAt Tryz.prog 166 0 0:=⟨by kernel_rfl⟩
instance:FieldAt Tryz.prog 166 1 1:=⟨by kernel_rfl⟩
instance:FieldAt Tryz.prog 166 2 2:=⟨by kernel_rfl⟩
instance:Info Tryz.prog 166 3 32 (.agg #[.string ⟨#[]⟩,.int .i64 0,.int .i64 0]):=⟨by kernel_rfl⟩
instance:AggT Tryz.prog 170:=⟨by kernel_rfl⟩
instance:FieldAt Tryz.prog 170 0 0:=⟨by kernel_rfl⟩
instance:FieldAt Tryz.prog 170 1 1:=⟨by kernel_rfl⟩
instance:FieldAt Tryz.prog 170 2 2:=⟨by kernel_rfl⟩
instance:FieldAt Tryz.prog 170 3 3:=⟨by kernel_rfl⟩
instance:Info Tryz.prog 170 4 40 (.agg #[.string ⟨#[]⟩,.int .i64 0,.int .i64 0,.bool false]):=⟨by kernel_rfl⟩
instance:NotAgg Tryz.prog 241:=⟨by kernel_rfl⟩
instance:SliceOf Tryz.prog 241 291:=⟨by kernel_rfl⟩
instance:Info Tryz.prog 241 1 24 (.slice none 0 0):=⟨by kernel_rfl⟩
instance:AggT Tryz.prog 243:=⟨by kernel_rfl⟩
instance:FieldAt Tryz.prog 243 0 0:=⟨by kernel_rfl⟩
instance:FieldAt Tryz.prog 243 1 1:=⟨by kernel_rfl⟩
instance:FieldAt Tryz.prog 243 2 2:=⟨by kernel_rfl⟩
instance:FieldAt Tryz.prog 243 3 3:=⟨by kernel_rfl⟩
instance:FieldAt Tryz.prog 243 4 4:=⟨by kernel_rfl⟩
instance:FieldAt Tryz.prog 243 5 5:=⟨by kernel_rfl⟩
instance:Info Tryz.prog 243 6 80 (.agg #[.int .i64 0,.int .i64 0,.int .i64 0,.int .i64 0,.slice none 0 0,.slice none 0 0]):=⟨by kernel_rfl⟩
instance:AggT Tryz.prog 291:=⟨by kernel_rfl⟩
instance:FieldAt Tryz.prog 291 0 0:=⟨by kernel_rfl⟩
instance:FieldAt Tryz.prog 291 1 1:=⟨by kernel_rfl⟩
instance:FieldAt Tryz.prog 291 2 2:=⟨by kernel_rfl⟩
instance:Info Tryz.prog 291 3 72 (.agg #[.slice none 0 0,.slice none 0 0,.slice none 0 0]):=⟨by kernel_rfl⟩
instance:HasBody Tryz.prog 5:=⟨by kernel_rfl⟩
instance:HasBody Tryz.prog 6:=⟨by kernel_rfl⟩
instance:HasBody Tryz.prog 7:=⟨by kernel_rfl⟩
instance:HasBody Tryz.prog 8:=⟨by kernel_rfl⟩
instance:HasBody Tryz.prog 9:=⟨by kernel_rfl⟩
instance:HasBody Tryz.prog 10:=⟨by kernel_rfl⟩
instance:HasBody Tryz.prog 11:=⟨by kernel_rfl⟩
instance:HasBody Tryz.prog 12:=⟨by kernel_rfl⟩
instance:HasBody Tryz.prog 13:=⟨by kernel_rfl⟩
instance:HasBody Tryz.prog 38:=⟨by kernel_rfl⟩
instance:HasBody Tryz.prog 39:=⟨by kernel_rfl⟩
instance:HasBody Tryz.prog 40:=⟨by kernel_rfl⟩
instance:HasBody Tryz.prog 41:=⟨by kernel_rfl⟩
instance:HasBody Tryz.prog 95:=⟨by kernel_rfl⟩
instance:HasBody Tryz.prog 96:=⟨by kernel_rfl⟩
instance:HasBody Tryz.prog 97:=⟨by kernel_rfl⟩
instance:HasBody Tryz.prog 98:=⟨by kernel_rfl⟩
instance:HasBody Tryz.prog 99:=⟨by kernel_rfl⟩
instance:HasBody Tryz.prog 158:=⟨by kernel_rfl⟩
instance:HasBody Tryz.prog 159:=⟨by kernel_rfl⟩
instance:HasBody Tryz.prog 160:=⟨by kernel_rfl⟩
instance:HasBody Tryz.prog 201:=⟨by kernel_rfl⟩
end Go.Proofs.YtfggbbnnalflhaaGreatDoor
end
section
namespace Go.Proofs.YtfggbbnnalflhaaGreatDoor
open Go Go.Proofs Go.Proofs.Sv Go.Proofs.Xv Go.RowKit
attribute [local irreducible] VS VO VQ VH FinS seqQ blkQ loopQ RunsOp RunsU
attribute [local simp] spl reps Value.cells
instance:IntT Tryz.prog 3:=⟨by kernel_rfl⟩
theorem pow_step{k:Int}{n:Nat}(hk:0<k)(h:k*(10:Int) ^ n<=9223372036854775807):n<=18/\k.tdiv 10*(10:Int) ^ (n+1)<=9223372036854775807:=by
 have hp:(0:Int) < (10:Int) ^ n:=Int.pow_pos (by decide);constructor
 ·rcases Nat.lt_or_ge 18 n with hn | hn
  ·have h19:(10:Int) ^ 19<=(10:Int) ^ n:=by
    have h0:10 ^ 19<=10 ^ n:=Nat.pow_le_pow_right (n:=10) (by decide) (by omega:19<=n)
    exact_mod_cast h0
   have h1:(1:Int)*(10:Int) ^ n<=k*(10:Int) ^ n:=Int.mul_le_mul_of_nonneg_right (by omega) (by omega);have:(10:Int) ^ 19=10000000000000000000:=by decide
   omega
  ·exact hn
 ·have e:k.tdiv 10*(10:Int) ^ (n+1)=(k.tdiv 10*10)*(10:Int) ^ n:=by rw[Int.pow_succ,Int.mul_comm ((10:Int) ^ n) 10,<- Int.mul_assoc]
  have h2:k.tdiv 10*10<=k:=by
   rw[Int.tdiv_eq_ediv_of_nonneg (by omega)];omega
  rw[e];exact Int.le_trans (Int.mul_le_mul_of_nonneg_right h2 (by omega)) h
set_option maxHeartbeats 2000000 in
theorem cText{k:Int}{w:World}(hk:InI k):Calls Tryz.prog 158 #[.int .i64 k] w fun en w'=>∃s,en=.returned (.string s)/\s.size<=9223372036854775807/\Ext w w':=by
 have hb:Below w.heap.size w w:=Below.refl _ _;refine calls_vs Tryz.func158 Tryz.ntmps158 rfl rfl ?_
 (repeat (first | refine vo_pure rfl rfl ?_ | refine vs_seq ?_ | refine vs_region ?_ | refine oN ?_ | refine nQ ?_ | refine vs_skip ?_ | refine vs_block ?_ | refine vs_ret ?_ | refine fin_seq_ret ?_ | refine fin_blk ?_ | refine vs_exit ?_ | refine fin_seq_exit ?_ | refine fin_loop_exit ?_ | refine fin_blk_exit rfl ?_))
 refine vs_cond rfl (fun hc=>?_) (fun hc=>?_)
 · (repeat (first | refine vo_pure rfl rfl ?_ | refine vs_seq ?_ | refine vs_region ?_ | refine oN ?_ | refine nQ ?_ | refine vs_skip ?_ | refine vs_block ?_ | refine vs_ret ?_ | refine fin_seq_ret ?_ | refine fin_blk ?_ | refine vs_exit ?_ | refine fin_seq_exit ?_ | refine fin_loop_exit ?_ | refine fin_blk_exit rfl ?_))
   (first | refine fin_ret1 Tryz.results158 rfl ?_ | refine fin_end1 Tryz.results158 rfl ?_ | refine fin_ret2 Tryz.results158 rfl rfl ?_ | refine fin_retC1 Tryz.results158 rfl (by assumption) rfl rfl ?_ | refine fin_retC Tryz.results158 rfl (by assumption) rfl ?_)
   exact⟨_,rfl,by decide,hb⟩
 · (repeat (first | refine vo_pure rfl rfl ?_ | refine vs_seq ?_ | refine vs_region ?_ | refine oN ?_ | refine nQ ?_ | refine vs_skip ?_ | refine vs_block ?_ | refine vs_ret ?_ | refine fin_seq_ret ?_ | refine fin_blk ?_ | refine vs_exit ?_ | refine fin_seq_exit ?_ | refine fin_loop_exit ?_ | refine fin_blk_exit rfl ?_))
   have hk0:0<k:=by simp at hc; omega
   refine vs_loop (fun s:Int×ByteArray=>(3,.string s.2) :: (0,.int .i64 s.1) :: []) (fun s w'=>0<=s.1/\s.1<=9223372036854775807/\s.1*(10:Int) ^ s.2.size<=9223372036854775807/\(s.1=0->s.2.size<=19)/\Below w.heap.size w w') (fun s=>s.1.toNat) (k,⟨#[]⟩) ⟨by omega,hk.2,by show k*(10:Int) ^ 0<=_; rw[Int.pow_zero,Int.mul_one]; exact hk.2,fun _=>Nat.zero_le _,hb⟩ (by ((repeat (refine sub_cons rfl ?_)); exact sub_nil)) ?_;rintro⟨m,s⟩ w1 ⟨h1,h2,h3,h4,hb⟩;dsimp only at h1 h2 h3 h4
   (repeat (first | refine vo_pure rfl rfl ?_ | refine vs_seq ?_ | refine vs_region ?_ | refine oN ?_ | refine nQ ?_ | refine vs_skip ?_ | refine vs_block ?_ | refine vs_ret ?_ | refine fin_seq_ret ?_ | refine fin_blk ?_ | refine vs_exit ?_ | refine fin_seq_exit ?_ | refine fin_loop_exit ?_ | refine fin_blk_exit rfl ?_))
   refine vs_cond rfl (fun hc=>?_) (fun hc=>?_)
   ·have hm:0<m:=by simpa using hc
    obtain⟨q1,q2⟩:=pow_step hm h3
    (repeat (first | refine vo_pure rfl rfl ?_ | refine vs_seq ?_ | refine vs_region ?_ | refine oN ?_ | refine nQ ?_ | refine vs_skip ?_ | refine vs_block ?_ | refine vs_ret ?_ | refine fin_seq_ret ?_ | refine fin_blk ?_ | refine vs_exit ?_ | refine fin_seq_exit ?_ | refine fin_loop_exit ?_ | refine fin_blk_exit rfl ?_))
    have r1:=Int.tmod_nonneg 10 h1;have r2:=Int.tmod_lt_of_pos m (show(0:Int)<10 by decide);have d1:0<=m.tdiv 10:=Int.tdiv_nonneg h1 (by decide);have d2:m.tdiv 10<m:=by
     rw[Int.tdiv_eq_ediv_of_nonneg h1];omega
    refine vo_val _ (runs_rem (a:=m) rfl rfl (show(10:Int)≠0 by decide)) rfl ?_;refine vo_val _ (runs_add rfl rfl (by omega)) rfl ?_;refine vo_val _ (runs_toByte rfl) rfl ?_
    (refine vo_buildSlice rfl rfl rfl rfl rfl ?_; intro b1 w1 hN B1; have zz:=hN.eq; have zz:=hN.size; have hE:=hN.ext; replace hb:=hb.trans (hE.mono hb.size))
    refine vo_val _ (runs_toStr (ms:=[((48:Int)+m.tmod 10) % 256]) rfl rfl B1.at) rfl ?_;have hz:(strOfNums [((48:Int)+m.tmod 10) % 256]).size=1:=rfl;generalize strOfNums [((48:Int)+m.tmod 10) % 256]=c at hz
    (repeat (first | refine vo_pure rfl rfl ?_ | refine vs_seq ?_ | refine vs_region ?_ | refine oN ?_ | refine nQ ?_ | refine vs_skip ?_ | refine vs_block ?_ | refine vs_ret ?_ | refine fin_seq_ret ?_ | refine fin_blk ?_ | refine vs_exit ?_ | refine fin_seq_exit ?_ | refine fin_loop_exit ?_ | refine fin_blk_exit rfl ?_))
    refine vo_val _ (runs_cat rfl rfl (by show c.size+s.size<=_; omega)) rfl ?_
    (repeat (first | refine vo_pure rfl rfl ?_ | refine vs_seq ?_ | refine vs_region ?_ | refine oN ?_ | refine nQ ?_ | refine vs_skip ?_ | refine vs_block ?_ | refine vs_ret ?_ | refine fin_seq_ret ?_ | refine fin_blk ?_ | refine vs_exit ?_ | refine fin_seq_exit ?_ | refine fin_loop_exit ?_ | refine fin_blk_exit rfl ?_))
    refine vo_val _ (runs_quo rfl rfl ⟨by omega,h2⟩ (show(0:Int)<10 by decide)) rfl ?_
    (repeat (first | refine vo_pure rfl rfl ?_ | refine vs_seq ?_ | refine vs_region ?_ | refine oN ?_ | refine nQ ?_ | refine vs_skip ?_ | refine vs_block ?_ | refine vs_ret ?_ | refine fin_seq_ret ?_ | refine fin_blk ?_ | refine vs_exit ?_ | refine fin_seq_exit ?_ | refine fin_loop_exit ?_ | refine fin_blk_exit rfl ?_))
    refine fin_loop (m.tdiv 10,c++s) ⟨d1,by show m.tdiv 10<=_; omega,?_,?_,hb⟩ (by show(m.tdiv 10).toNat<m.toNat; omega) (by ((repeat (refine sub_cons rfl ?_)); exact sub_nil))
    ·show m.tdiv 10*(10:Int) ^ (c++s).size<=_;rw[ByteArray.size_append,hz,Nat.add_comm];exact q2
    ·intro _;show(c++s).size<=19;rw[ByteArray.size_append,hz];omega
   ·have hm:m=0:=by
     have:¬(0<m):=by simpa using hc
     omega
    have hs:=h4 hm
    (repeat (first | refine vo_pure rfl rfl ?_ | refine vs_seq ?_ | refine vs_region ?_ | refine oN ?_ | refine nQ ?_ | refine vs_skip ?_ | refine vs_block ?_ | refine vs_ret ?_ | refine fin_seq_ret ?_ | refine fin_blk ?_ | refine vs_exit ?_ | refine fin_seq_exit ?_ | refine fin_loop_exit ?_ | refine fin_blk_exit rfl ?_))
    refine vo_val _ (runs_cat rfl rfl (by show(ByteArray.mk #[109]).size+s.size<=_; have:(ByteArray.mk #[109]).size=1:=rfl; omega)) rfl ?_
    (repeat (first | refine vo_pure rfl rfl ?_ | refine vs_seq ?_ | refine vs_region ?_ | refine oN ?_ | refine nQ ?_ | refine vs_skip ?_ | refine vs_block ?_ | refine vs_ret ?_ | refine fin_seq_ret ?_ | refine fin_blk ?_ | refine vs_exit ?_ | refine fin_seq_exit ?_ | refine fin_loop_exit ?_ | refine fin_blk_exit rfl ?_))
    (first | refine fin_ret1 Tryz.results158 rfl ?_ | refine fin_end1 Tryz.results158 rfl ?_ | refine fin_ret2 Tryz.results158 rfl rfl ?_ | refine fin_retC1 Tryz.results158 rfl (by assumption) rfl rfl ?_ | refine fin_retC Tryz.results158 rfl (by assumption) rfl ?_)
    refine⟨_,rfl,?_,hb⟩;show(ByteArray.mk #[109]++s).size<=_;rw[ByteArray.size_append];have:(ByteArray.mk #[109]).size=1:=rfl;omega
theorem tC:TxC Tryz.prog 158:=fun _ _ h=>cText h
set_option maxHeartbeats 2000000 in
theorem m99:MkS Tryz.prog 99 (.sl (.int .i64)):=by
 intro F w u x k hF0 hS h0 hk;have hS0:=hS;obtain⟨p,cap,hu,hcap,hmax,_⟩:=hS0;simp only[List.cons.injEq,and_true] at hu;subst hu;have hall:=cntP_all (.int .i64) x;refine calls_vs Tryz.func99 Tryz.ntmps99 rfl rfl ?_;refine ra ?_;refine pu ?_;refine oN (nQ (vs_seq (ra ?_)));refine pu ?_;refine oN (nQ (vs_block ?_));refine vs_loop (fun i:Nat=>(1,.int .i64 (k+(cntP (.int .i64) x i:Int))) :: (5,.int .i64 (i:Int)) :: (0,.slice p x.length cap) :: []) (fun i w'=>i<=x.length/\WM F w w') (fun i=>x.length-i) 0 ⟨Nat.zero_le _,WM.refl F w⟩ (by rw[cntP_zero]; simp only[Int.natCast_zero,Int.add_zero]; ((repeat (refine sub_cons rfl ?_)); exact sub_nil)) ?_;rintro i w1 ⟨hi,hm⟩;have hle:=cntP_le (.int .i64) x i hi;refine vs_seq (ra ?_);refine pu ?_;refine pu ?_;refine vo_val _ (runs_lenL rfl) rfl ?_;refine pu ?_;refine oN (nQ ?_);refine vs_cond rfl (fun hc=>?_) (fun hc=>?_)
 ·have hlt:i<x.length:=by simpa using hc
  obtain⟨_,b,o,c,rfl,hF,hU,hat,hs⟩:=SH.get hS hlt;have hsu:=cntP_succ (e:=(.int .i64)) (xs:=x) hlt;have hle1:=cntP_le (.int .i64) x (i+1) (by omega);generalize x[i]=y at hs hsu;obtain⟨z0,rfl,_,_⟩:=hs;have hy:cntM (.int .i64) y=1:=rfl;refine vs_skip (nQ (vs_seq (vs_block ?_)));refine ra ?_;refine pu ?_;refine pu ?_;refine pu ?_;refine im hlt ?_;refine si hm hF hU (hat 0 _ rfl) fun w2 hm=>?_;refine rc ?_;refine pu ?_;refine ad ?_;refine pu ?_;refine rd' ?_;refine pu ?_;refine ad ?_;refine pu ?_;refine oN ?_;have he:k+((cntP (.int .i64) x (i+1):Nat):Int)=((k+(cntP (.int .i64) x i:Int))+1):=by rw[hsu,hy]; omega
  refine fin_loop (i+1) ⟨by omega,hm⟩ (by omega) (by rw[he,Int.natCast_succ]; ((repeat (refine sub_cons rfl ?_)); exact sub_nil))
 ·have hge:i=x.length:=by
   have:¬i<x.length:=by simpa using hc
   omega
  subst hge;refine vs_exit (fin_seq_exit (fin_loop_exit (fin_blk_exit rfl (nQ (ra ?_)))));refine pu ?_;refine pu ?_;refine oN (nQ (vs_ret ?_));refine fin_ret1 Tryz.results99 rfl ?_;rw[hall];exact⟨rfl,hm⟩
set_option maxHeartbeats 2000000 in
theorem m201:MkS Tryz.prog 201 (.sl y291):=by
 intro F w u x k hF0 hS h0 hk;have hS0:=hS;obtain⟨p,cap,hu,hcap,hmax,_⟩:=hS0;simp only[List.cons.injEq,and_true] at hu;subst hu;have hall:=cntP_all y291 x;refine calls_vs Tryz.func201 Tryz.ntmps201 rfl rfl ?_;refine ra ?_;refine pu ?_;refine oN (nQ (vs_seq (ra ?_)));refine pu ?_;refine oN (nQ (vs_block ?_));refine vs_loop (fun i:Nat=>(1,.int .i64 (k+(cntP y291 x i:Int))) :: (5,.int .i64 (i:Int)) :: (0,.slice p x.length cap) :: []) (fun i w'=>i<=x.length/\WM F w w') (fun i=>x.length-i) 0 ⟨Nat.zero_le _,WM.refl F w⟩ (by rw[cntP_zero]; simp only[Int.natCast_zero,Int.add_zero]; ((repeat (refine sub_cons rfl ?_)); exact sub_nil)) ?_;rintro i w1 ⟨hi,hm⟩;have hle:=cntP_le y291 x i hi;refine vs_seq (ra ?_);refine pu ?_;refine pu ?_;refine vo_val _ (runs_lenL rfl) rfl ?_;refine pu ?_;refine oN (nQ ?_);refine vs_cond rfl (fun hc=>?_) (fun hc=>?_)
 ·have hlt:i<x.length:=by simpa using hc
  obtain⟨_,b,o,c,rfl,hF,hU,hat,hs⟩:=SH.get hS hlt;have hsu:=cntP_succ (e:=y291) (xs:=x) hlt;have hle1:=cntP_le y291 x (i+1) (by omega);generalize x[i]=y at hs hsu;obtain⟨_,_,rfl,q0,⟨_,_,rfl,q1,q2⟩⟩:=hs;have r0:=q0;obtain⟨_,_,rfl,_⟩:=r0;have r1:=q1;obtain⟨_,_,rfl,_⟩:=r1;have r2:=q2;obtain⟨_,_,rfl,_⟩:=r2;have hy:cntM y291 y=(cntM (.sl (.int .i64)) y.1+(cntM (.sl (.int .i64)) y.2.1+cntM (.sl (.int .i64)) y.2.2)):=rfl;refine vs_skip (nQ (vs_seq (vs_block ?_)));refine ra ?_;refine pu ?_;refine pu ?_;refine im hlt ?_;refine fm ?_;refine lm hm hF (hat 0 _ rfl) ?_;refine pu ?_;refine mc m99 hF0 hm q0 fun w2 hm _=>?_;refine pu ?_;refine rb ?_;refine pu ?_;refine pu ?_;refine im hlt ?_;refine fm ?_;refine lm hm hF (hat 1 _ rfl) ?_;refine pu ?_;refine mc m99 hF0 hm q1 fun w2 hm _=>?_;refine pu ?_;refine rc ?_;refine pu ?_;refine pu ?_;refine im hlt ?_;refine fm ?_;refine lm hm hF (hat 2 _ rfl) ?_;refine pu ?_;refine mc m99 hF0 hm q2 fun w2 hm _=>?_;refine pu ?_;refine rd' ?_;refine pu ?_;refine ad ?_;refine pu ?_;refine oN ?_;have he:k+((cntP y291 x (i+1):Nat):Int)=((((k+(cntP y291 x i:Int))+(cntM (.sl (.int .i64)) y.1:Int))+(cntM (.sl (.int .i64)) y.2.1:Int))+(cntM (.sl (.int .i64)) y.2.2:Int)):=by rw[hsu,hy]; omega
  refine fin_loop (i+1) ⟨by omega,hm⟩ (by omega) (by rw[he,Int.natCast_succ]; ((repeat (refine sub_cons rfl ?_)); exact sub_nil))
 ·have hge:i=x.length:=by
   have:¬i<x.length:=by simpa using hc
   omega
  subst hge;refine vs_exit (fin_seq_exit (fin_loop_exit (fin_blk_exit rfl (nQ (ra ?_)))));refine pu ?_;refine pu ?_;refine oN (nQ (vs_ret ?_));refine fin_ret1 Tryz.results201 rfl ?_;rw[hall];exact⟨rfl,hm⟩
set_option maxHeartbeats 2000000 in
theorem m160:MkS Tryz.prog 160 (.sl y243):=by
 intro F w u x k hF0 hS h0 hk;have hS0:=hS;obtain⟨p,cap,hu,hcap,hmax,_⟩:=hS0;simp only[List.cons.injEq,and_true] at hu;subst hu;have hall:=cntP_all y243 x;refine calls_vs Tryz.func160 Tryz.ntmps160 rfl rfl ?_;refine ra ?_;refine pu ?_;refine oN (nQ (vs_seq (ra ?_)));refine pu ?_;refine oN (nQ (vs_block ?_));refine vs_loop (fun i:Nat=>(1,.int .i64 (k+(cntP y243 x i:Int))) :: (5,.int .i64 (i:Int)) :: (0,.slice p x.length cap) :: []) (fun i w'=>i<=x.length/\WM F w w') (fun i=>x.length-i) 0 ⟨Nat.zero_le _,WM.refl F w⟩ (by rw[cntP_zero]; simp only[Int.natCast_zero,Int.add_zero]; ((repeat (refine sub_cons rfl ?_)); exact sub_nil)) ?_;rintro i w1 ⟨hi,hm⟩;have hle:=cntP_le y243 x i hi;refine vs_seq (ra ?_);refine pu ?_;refine pu ?_;refine vo_val _ (runs_lenL rfl) rfl ?_;refine pu ?_;refine oN (nQ ?_);refine vs_cond rfl (fun hc=>?_) (fun hc=>?_)
 ·have hlt:i<x.length:=by simpa using hc
  obtain⟨_,b,o,c,rfl,hF,hU,hat,hs⟩:=SH.get hS hlt;have hsu:=cntP_succ (e:=y243) (xs:=x) hlt;have hle1:=cntP_le y243 x (i+1) (by omega);generalize x[i]=y at hs hsu;obtain⟨_,_,rfl,⟨z0,rfl,_,_⟩,⟨_,_,rfl,⟨z1,rfl,_,_⟩,⟨_,_,rfl,⟨z2,rfl,_,_⟩,⟨_,_,rfl,⟨z3,rfl,_,_⟩,⟨_,_,rfl,q4,q5⟩⟩⟩⟩⟩:=hs;have r4:=q4;obtain⟨_,_,rfl,_⟩:=r4;have r5:=q5;obtain⟨_,_,rfl,_⟩:=r5;have hy:cntM y243 y=(1+(1+(1+(1+(cntM (.sl y291) y.2.2.2.2.1+cntM (.sl y291) y.2.2.2.2.2))))):=rfl;refine vs_skip (nQ (vs_seq (vs_block ?_)));refine ra ?_;refine pu ?_;refine pu ?_;refine pu ?_;refine im hlt ?_;refine fm ?_;refine si hm hF hU (hat 0 _ rfl) fun w2 hm=>?_;refine rb ?_;refine pu ?_;refine ad ?_;refine pu ?_;refine rb ?_;refine pu ?_;refine pu ?_;refine pu ?_;refine im hlt ?_;refine fm ?_;refine si hm hF hU (hat 1 _ rfl) fun w2 hm=>?_;refine rb ?_;refine pu ?_;refine ad ?_;refine pu ?_;refine rb ?_;refine pu ?_;refine pu ?_;refine pu ?_;refine im hlt ?_;refine fm ?_;refine si hm hF hU (hat 2 _ rfl) fun w2 hm=>?_;refine rb ?_;refine pu ?_;refine ad ?_;refine pu ?_;refine rb ?_;refine pu ?_;refine pu ?_;refine pu ?_;refine im hlt ?_;refine fm ?_;refine si hm hF hU (hat 3 _ rfl) fun w2 hm=>?_;refine rb ?_;refine pu ?_;refine ad ?_;refine pu ?_;refine rb ?_;refine pu ?_;refine pu ?_;refine im hlt ?_;refine fm ?_;refine lm hm hF (hat 4 _ rfl) ?_;refine pu ?_;refine mc m201 hF0 hm q4 fun w2 hm _=>?_;refine pu ?_;refine rc ?_;refine pu ?_;refine pu ?_;refine im hlt ?_;refine fm ?_;refine lm hm hF (hat 5 _ rfl) ?_;refine pu ?_;refine mc m201 hF0 hm q5 fun w2 hm _=>?_;refine pu ?_;refine rd' ?_;refine pu ?_;refine ad ?_;refine pu ?_;refine oN ?_;have he:k+((cntP y243 x (i+1):Nat):Int)=(((((((k+(cntP y243 x i:Int))+1)+1)+1)+1)+(cntM (.sl y291) y.2.2.2.2.1:Int))+(cntM (.sl y291) y.2.2.2.2.2:Int)):=by rw[hsu,hy]; omega
  refine fin_loop (i+1) ⟨by omega,hm⟩ (by omega) (by rw[he,Int.natCast_succ]; ((repeat (refine sub_cons rfl ?_)); exact sub_nil))
 ·have hge:i=x.length:=by
   have:¬i<x.length:=by simpa using hc
   omega
  subst hge;refine vs_exit (fin_seq_exit (fin_loop_exit (fin_blk_exit rfl (nQ (ra ?_)))));refine pu ?_;refine pu ?_;refine oN (nQ (vs_ret ?_));refine fin_ret1 Tryz.results160 rfl ?_;rw[hall];exact⟨rfl,hm⟩
set_option maxHeartbeats 2000000 in
theorem m159:MkS Tryz.prog 159 (.sl y170):=by
 intro F w u x k hF0 hS h0 hk;have hS0:=hS;obtain⟨p,cap,hu,hcap,hmax,_⟩:=hS0;simp only[List.cons.injEq,and_true] at hu;subst hu;have hall:=cntP_all y170 x;refine calls_vs Tryz.func159 Tryz.ntmps159 rfl rfl ?_;refine ra ?_;refine pu ?_;refine oN (nQ (vs_seq (ra ?_)));refine pu ?_;refine oN (nQ (vs_block ?_));refine vs_loop (fun i:Nat=>(1,.int .i64 (k+(cntP y170 x i:Int))) :: (5,.int .i64 (i:Int)) :: (0,.slice p x.length cap) :: []) (fun i w'=>i<=x.length/\WM F w w') (fun i=>x.length-i) 0 ⟨Nat.zero_le _,WM.refl F w⟩ (by rw[cntP_zero]; simp only[Int.natCast_zero,Int.add_zero]; ((repeat (refine sub_cons rfl ?_)); exact sub_nil)) ?_;rintro i w1 ⟨hi,hm⟩;have hle:=cntP_le y170 x i hi;refine vs_seq (ra ?_);refine pu ?_;refine pu ?_;refine vo_val _ (runs_lenL rfl) rfl ?_;refine pu ?_;refine oN (nQ ?_);refine vs_cond rfl (fun hc=>?_) (fun hc=>?_)
 ·have hlt:i<x.length:=by simpa using hc
  obtain⟨_,b,o,c,rfl,hF,hU,hat,hs⟩:=SH.get hS hlt;have hsu:=cntP_succ (e:=y170) (xs:=x) hlt;have hle1:=cntP_le y170 x (i+1) (by omega);generalize x[i]=y at hs hsu;obtain⟨_,_,rfl,⟨z0,rfl,_⟩,⟨_,_,rfl,⟨z1,rfl,_,_⟩,⟨_,_,rfl,⟨z2,rfl,_,_⟩,⟨z3,rfl⟩⟩⟩⟩:=hs;have hy:cntM y170 y=(1+(1+(1+1))):=rfl;refine vs_skip (nQ (vs_seq (vs_block ?_)));refine ra ?_;refine pu ?_;refine pu ?_;refine pu ?_;refine tc' tC hm fun w2 s1 hs1 hm=>?_;refine im hlt ?_;refine fm ?_;refine ss hm hF hU (hat 0 _ rfl) hs1 fun w2 hm=>?_;refine rb ?_;refine pu ?_;refine ad ?_;refine pu ?_;refine rb ?_;refine pu ?_;refine pu ?_;refine pu ?_;refine im hlt ?_;refine fm ?_;refine si hm hF hU (hat 1 _ rfl) fun w2 hm=>?_;refine rb ?_;refine pu ?_;refine ad ?_;refine pu ?_;refine rb ?_;refine pu ?_;refine pu ?_;refine pu ?_;refine im hlt ?_;refine fm ?_;refine si hm hF hU (hat 2 _ rfl) fun w2 hm=>?_;refine rb ?_;refine pu ?_;refine ad ?_;refine pu ?_;refine rb ?_;refine pu ?_;refine pu ?_;refine pu ?_;refine vo_val _ (runs_rem rfl rfl (show(3:Int)≠0 by decide)) rfl ?_;refine pu ?_;refine im hlt ?_;refine fm ?_;refine sb hm hF hU (hat 3 _ rfl) fun w2 hm=>?_;refine rc ?_;refine pu ?_;refine ad ?_;refine pu ?_;refine rd' ?_;refine pu ?_;refine ad ?_;refine pu ?_;refine oN ?_;have he:k+((cntP y170 x (i+1):Nat):Int)=(((((k+(cntP y170 x i:Int))+1)+1)+1)+1):=by rw[hsu,hy]; omega
  refine fin_loop (i+1) ⟨by omega,hm⟩ (by omega) (by rw[he,Int.natCast_succ]; ((repeat (refine sub_cons rfl ?_)); exact sub_nil))
 ·have hge:i=x.length:=by
   have:¬i<x.length:=by simpa using hc
   omega
  subst hge;refine vs_exit (fin_seq_exit (fin_loop_exit (fin_blk_exit rfl (nQ (ra ?_)))));refine pu ?_;refine pu ?_;refine oN (nQ (vs_ret ?_));refine fin_ret1 Tryz.results159 rfl ?_;rw[hall];exact⟨rfl,hm⟩
set_option maxHeartbeats 2000000 in
theorem m97:MkS Tryz.prog 97 (.sl .str):=by
 intro F w u x k hF0 hS h0 hk;have hS0:=hS;obtain⟨p,cap,hu,hcap,hmax,_⟩:=hS0;simp only[List.cons.injEq,and_true] at hu;subst hu;have hall:=cntP_all .str x;refine calls_vs Tryz.func97 Tryz.ntmps97 rfl rfl ?_;refine ra ?_;refine pu ?_;refine oN (nQ (vs_seq (ra ?_)));refine pu ?_;refine oN (nQ (vs_block ?_));refine vs_loop (fun i:Nat=>(1,.int .i64 (k+(cntP .str x i:Int))) :: (5,.int .i64 (i:Int)) :: (0,.slice p x.length cap) :: []) (fun i w'=>i<=x.length/\WM F w w') (fun i=>x.length-i) 0 ⟨Nat.zero_le _,WM.refl F w⟩ (by rw[cntP_zero]; simp only[Int.natCast_zero,Int.add_zero]; ((repeat (refine sub_cons rfl ?_)); exact sub_nil)) ?_;rintro i w1 ⟨hi,hm⟩;have hle:=cntP_le .str x i hi;refine vs_seq (ra ?_);refine pu ?_;refine pu ?_;refine vo_val _ (runs_lenL rfl) rfl ?_;refine pu ?_;refine oN (nQ ?_);refine vs_cond rfl (fun hc=>?_) (fun hc=>?_)
 ·have hlt:i<x.length:=by simpa using hc
  obtain⟨_,b,o,c,rfl,hF,hU,hat,hs⟩:=SH.get hS hlt;have hsu:=cntP_succ (e:=.str) (xs:=x) hlt;have hle1:=cntP_le .str x (i+1) (by omega);generalize x[i]=y at hs hsu;obtain⟨z0,rfl,_⟩:=hs;have hy:cntM .str y=1:=rfl;refine vs_skip (nQ (vs_seq (vs_block ?_)));refine ra ?_;refine pu ?_;refine pu ?_;refine pu ?_;refine tc' tC hm fun w2 s1 hs1 hm=>?_;refine im hlt ?_;refine ss hm hF hU (hat 0 _ rfl) hs1 fun w2 hm=>?_;refine rc ?_;refine pu ?_;refine ad ?_;refine pu ?_;refine rd' ?_;refine pu ?_;refine ad ?_;refine pu ?_;refine oN ?_;have he:k+((cntP .str x (i+1):Nat):Int)=((k+(cntP .str x i:Int))+1):=by rw[hsu,hy]; omega
  refine fin_loop (i+1) ⟨by omega,hm⟩ (by omega) (by rw[he,Int.natCast_succ]; ((repeat (refine sub_cons rfl ?_)); exact sub_nil))
 ·have hge:i=x.length:=by
   have:¬i<x.length:=by simpa using hc
   omega
  subst hge;refine vs_exit (fin_seq_exit (fin_loop_exit (fin_blk_exit rfl (nQ (ra ?_)))));refine pu ?_;refine pu ?_;refine oN (nQ (vs_ret ?_));refine fin_ret1 Tryz.results97 rfl ?_;rw[hall];exact⟨rfl,hm⟩
set_option maxHeartbeats 2000000 in
theorem m98:MkS Tryz.prog 98 (.sl y166):=by
 intro F w u x k hF0 hS h0 hk;have hS0:=hS;obtain⟨p,cap,hu,hcap,hmax,_⟩:=hS0;simp only[List.cons.injEq,and_true] at hu;subst hu;have hall:=cntP_all y166 x;refine calls_vs Tryz.func98 Tryz.ntmps98 rfl rfl ?_;refine ra ?_;refine pu ?_;refine oN (nQ (vs_seq (ra ?_)));refine pu ?_;refine oN (nQ (vs_block ?_));refine vs_loop (fun i:Nat=>(1,.int .i64 (k+(cntP y166 x i:Int))) :: (5,.int .i64 (i:Int)) :: (0,.slice p x.length cap) :: []) (fun i w'=>i<=x.length/\WM F w w') (fun i=>x.length-i) 0 ⟨Nat.zero_le _,WM.refl F w⟩ (by rw[cntP_zero]; simp only[Int.natCast_zero,Int.add_zero]; ((repeat (refine sub_cons rfl ?_)); exact sub_nil)) ?_;rintro i w1 ⟨hi,hm⟩;have hle:=cntP_le y166 x i hi;refine vs_seq (ra ?_);refine pu ?_;refine pu ?_;refine vo_val _ (runs_lenL rfl) rfl ?_;refine pu ?_;refine oN (nQ ?_);refine vs_cond rfl (fun hc=>?_) (fun hc=>?_)
 ·have hlt:i<x.length:=by simpa using hc
  obtain⟨_,b,o,c,rfl,hF,hU,hat,hs⟩:=SH.get hS hlt;have hsu:=cntP_succ (e:=y166) (xs:=x) hlt;have hle1:=cntP_le y166 x (i+1) (by omega);generalize x[i]=y at hs hsu;obtain⟨_,_,rfl,⟨z0,rfl,_⟩,⟨_,_,rfl,⟨z1,rfl,_,_⟩,⟨z2,rfl,_,_⟩⟩⟩:=hs;have hy:cntM y166 y=(1+(1+1)):=rfl;refine vs_skip (nQ (vs_seq (vs_block ?_)));refine ra ?_;refine pu ?_;refine pu ?_;refine pu ?_;refine tc' tC hm fun w2 s1 hs1 hm=>?_;refine im hlt ?_;refine fm ?_;refine ss hm hF hU (hat 0 _ rfl) hs1 fun w2 hm=>?_;refine rb ?_;refine pu ?_;refine ad ?_;refine pu ?_;refine rb ?_;refine pu ?_;refine pu ?_;refine pu ?_;refine im hlt ?_;refine fm ?_;refine si hm hF hU (hat 1 _ rfl) fun w2 hm=>?_;refine rb ?_;refine pu ?_;refine ad ?_;refine pu ?_;refine rb ?_;refine pu ?_;refine pu ?_;refine pu ?_;refine im hlt ?_;refine fm ?_;refine si hm hF hU (hat 2 _ rfl) fun w2 hm=>?_;refine rc ?_;refine pu ?_;refine ad ?_;refine pu ?_;refine rd' ?_;refine pu ?_;refine ad ?_;refine pu ?_;refine oN ?_;have he:k+((cntP y166 x (i+1):Nat):Int)=((((k+(cntP y166 x i:Int))+1)+1)+1):=by rw[hsu,hy]; omega
  refine fin_loop (i+1) ⟨by omega,hm⟩ (by omega) (by rw[he,Int.natCast_succ]; ((repeat (refine sub_cons rfl ?_)); exact sub_nil))
 ·have hge:i=x.length:=by
   have:¬i<x.length:=by simpa using hc
   omega
  subst hge;refine vs_exit (fin_seq_exit (fin_loop_exit (fin_blk_exit rfl (nQ (ra ?_)))));refine pu ?_;refine pu ?_;refine oN (nQ (vs_ret ?_));refine fin_ret1 Tryz.results98 rfl ?_;rw[hall];exact⟨rfl,hm⟩
set_option maxHeartbeats 2000000 in
theorem m96:MkS Tryz.prog 96 (.sl y152):=by
 intro F w u x k hF0 hS h0 hk;have hS0:=hS;obtain⟨p,cap,hu,hcap,hmax,_⟩:=hS0;simp only[List.cons.injEq,and_true] at hu;subst hu;have hall:=cntP_all y152 x;refine calls_vs Tryz.func96 Tryz.ntmps96 rfl rfl ?_;refine ra ?_;refine pu ?_;refine oN (nQ (vs_seq (ra ?_)));refine pu ?_;refine oN (nQ (vs_block ?_));refine vs_loop (fun i:Nat=>(1,.int .i64 (k+(cntP y152 x i:Int))) :: (5,.int .i64 (i:Int)) :: (0,.slice p x.length cap) :: []) (fun i w'=>i<=x.length/\WM F w w') (fun i=>x.length-i) 0 ⟨Nat.zero_le _,WM.refl F w⟩ (by rw[cntP_zero]; simp only[Int.natCast_zero,Int.add_zero]; ((repeat (refine sub_cons rfl ?_)); exact sub_nil)) ?_;rintro i w1 ⟨hi,hm⟩;have hle:=cntP_le y152 x i hi;refine vs_seq (ra ?_);refine pu ?_;refine pu ?_;refine vo_val _ (runs_lenL rfl) rfl ?_;refine pu ?_;refine oN (nQ ?_);refine vs_cond rfl (fun hc=>?_) (fun hc=>?_)
 ·have hlt:i<x.length:=by simpa using hc
  obtain⟨_,b,o,c,rfl,hF,hU,hat,hs⟩:=SH.get hS hlt;have hsu:=cntP_succ (e:=y152) (xs:=x) hlt;have hle1:=cntP_le y152 x (i+1) (by omega);generalize x[i]=y at hs hsu;obtain⟨_,_,rfl,⟨z0,rfl,_⟩,⟨_,_,rfl,⟨z1,rfl,_,_⟩,q2⟩⟩:=hs;have r2:=q2;obtain⟨_,_,rfl,_⟩:=r2;have hy:cntM y152 y=(1+(1+cntM (.sl (.int .i64)) y.2.2)):=rfl;refine vs_skip (nQ (vs_seq (vs_block ?_)));refine ra ?_;refine pu ?_;refine pu ?_;refine pu ?_;refine tc' tC hm fun w2 s1 hs1 hm=>?_;refine im hlt ?_;refine fm ?_;refine ss hm hF hU (hat 0 _ rfl) hs1 fun w2 hm=>?_;refine rb ?_;refine pu ?_;refine ad ?_;refine pu ?_;refine rb ?_;refine pu ?_;refine pu ?_;refine pu ?_;refine im hlt ?_;refine fm ?_;refine si hm hF hU (hat 1 _ rfl) fun w2 hm=>?_;refine rb ?_;refine pu ?_;refine ad ?_;refine pu ?_;refine rc ?_;refine pu ?_;refine pu ?_;refine im hlt ?_;refine fm ?_;refine lm hm hF (hat 2 _ rfl) ?_;refine pu ?_;refine mc m99 hF0 hm q2 fun w2 hm _=>?_;refine pu ?_;refine rd' ?_;refine pu ?_;refine ad ?_;refine pu ?_;refine oN ?_;have he:k+((cntP y152 x (i+1):Nat):Int)=((((k+(cntP y152 x i:Int))+1)+1)+(cntM (.sl (.int .i64)) y.2.2:Int)):=by rw[hsu,hy]; omega
  refine fin_loop (i+1) ⟨by omega,hm⟩ (by omega) (by rw[he,Int.natCast_succ]; ((repeat (refine sub_cons rfl ?_)); exact sub_nil))
 ·have hge:i=x.length:=by
   have:¬i<x.length:=by simpa using hc
   omega
  subst hge;refine vs_exit (fin_seq_exit (fin_loop_exit (fin_blk_exit rfl (nQ (ra ?_)))));refine pu ?_;refine pu ?_;refine oN (nQ (vs_ret ?_));refine fin_ret1 Tryz.results96 rfl ?_;rw[hall];exact⟨rfl,hm⟩
set_option maxHeartbeats 2000000 in
theorem m95:MkS Tryz.prog 95 (.sl y115):=by
 intro F w u x k hF0 hS h0 hk;have hS0:=hS;obtain⟨p,cap,hu,hcap,hmax,_⟩:=hS0;simp only[List.cons.injEq,and_true] at hu;subst hu;have hall:=cntP_all y115 x;refine calls_vs Tryz.func95 Tryz.ntmps95 rfl rfl ?_;refine ra ?_;refine pu ?_;refine oN (nQ (vs_seq (ra ?_)));refine pu ?_;refine oN (nQ (vs_block ?_));refine vs_loop (fun i:Nat=>(1,.int .i64 (k+(cntP y115 x i:Int))) :: (5,.int .i64 (i:Int)) :: (0,.slice p x.length cap) :: []) (fun i w'=>i<=x.length/\WM F w w') (fun i=>x.length-i) 0 ⟨Nat.zero_le _,WM.refl F w⟩ (by rw[cntP_zero]; simp only[Int.natCast_zero,Int.add_zero]; ((repeat (refine sub_cons rfl ?_)); exact sub_nil)) ?_;rintro i w1 ⟨hi,hm⟩;have hle:=cntP_le y115 x i hi;refine vs_seq (ra ?_);refine pu ?_;refine pu ?_;refine vo_val _ (runs_lenL rfl) rfl ?_;refine pu ?_;refine oN (nQ ?_);refine vs_cond rfl (fun hc=>?_) (fun hc=>?_)
 ·have hlt:i<x.length:=by simpa using hc
  obtain⟨_,b,o,c,rfl,hF,hU,hat,hs⟩:=SH.get hS hlt;have hsu:=cntP_succ (e:=y115) (xs:=x) hlt;have hle1:=cntP_le y115 x (i+1) (by omega);generalize x[i]=y at hs hsu;obtain⟨_,_,rfl,⟨z0,rfl,_⟩,⟨_,_,rfl,⟨z1,rfl,_,_⟩,⟨_,_,rfl,q2,⟨_,_,rfl,q3,⟨_,_,rfl,q4,⟨_,_,rfl,⟨z5,rfl,_,_⟩,⟨z6,rfl,_,_⟩⟩⟩⟩⟩⟩⟩:=hs;have r2:=q2;obtain⟨_,_,rfl,_⟩:=r2;have r3:=q3;obtain⟨_,_,rfl,_⟩:=r3;have r4:=q4;obtain⟨_,_,rfl,_⟩:=r4;have hy:cntM y115 y=(1+(1+(cntM (.sl y170) y.2.2.1+(cntM (.sl y243) y.2.2.2.1+(cntM (.sl (.int .i64)) y.2.2.2.2.1+(1+1)))))):=rfl;refine vs_skip (nQ (vs_seq (vs_block ?_)));refine ra ?_;refine pu ?_;refine pu ?_;refine pu ?_;refine tc' tC hm fun w2 s1 hs1 hm=>?_;refine im hlt ?_;refine fm ?_;refine ss hm hF hU (hat 0 _ rfl) hs1 fun w2 hm=>?_;refine rb ?_;refine pu ?_;refine ad ?_;refine pu ?_;refine rb ?_;refine pu ?_;refine pu ?_;refine pu ?_;refine im hlt ?_;refine fm ?_;refine si hm hF hU (hat 1 _ rfl) fun w2 hm=>?_;refine rb ?_;refine pu ?_;refine ad ?_;refine pu ?_;refine rb ?_;refine pu ?_;refine pu ?_;refine im hlt ?_;refine fm ?_;refine lm hm hF (hat 2 _ rfl) ?_;refine pu ?_;refine mc m159 hF0 hm q2 fun w2 hm _=>?_;refine pu ?_;refine rb ?_;refine pu ?_;refine pu ?_;refine im hlt ?_;refine fm ?_;refine lm hm hF (hat 3 _ rfl) ?_;refine pu ?_;refine mc m160 hF0 hm q3 fun w2 hm _=>?_;refine pu ?_;refine rb ?_;refine pu ?_;refine pu ?_;refine im hlt ?_;refine fm ?_;refine lm hm hF (hat 4 _ rfl) ?_;refine pu ?_;refine mc m99 hF0 hm q4 fun w2 hm _=>?_;refine pu ?_;refine rb ?_;refine pu ?_;refine pu ?_;refine pu ?_;refine im hlt ?_;refine fm ?_;refine si hm hF hU (hat 5 _ rfl) fun w2 hm=>?_;refine rb ?_;refine pu ?_;refine ad ?_;refine pu ?_;refine rb ?_;refine pu ?_;refine pu ?_;refine pu ?_;refine im hlt ?_;refine fm ?_;refine si hm hF hU (hat 6 _ rfl) fun w2 hm=>?_;refine rc ?_;refine pu ?_;refine ad ?_;refine pu ?_;refine rd' ?_;refine pu ?_;refine ad ?_;refine pu ?_;refine oN ?_;have he:k+((cntP y115 x (i+1):Nat):Int)=((((((((k+(cntP y115 x i:Int))+1)+1)+(cntM (.sl y170) y.2.2.1:Int))+(cntM (.sl y243) y.2.2.2.1:Int))+(cntM (.sl (.int .i64)) y.2.2.2.2.1:Int))+1)+1):=by rw[hsu,hy]; omega
  refine fin_loop (i+1) ⟨by omega,hm⟩ (by omega) (by rw[he,Int.natCast_succ]; ((repeat (refine sub_cons rfl ?_)); exact sub_nil))
 ·have hge:i=x.length:=by
   have:¬i<x.length:=by simpa using hc
   omega
  subst hge;refine vs_exit (fin_seq_exit (fin_loop_exit (fin_blk_exit rfl (nQ (ra ?_)))));refine pu ?_;refine pu ?_;refine oN (nQ (vs_ret ?_));refine fin_ret1 Tryz.results95 rfl ?_;rw[hall];exact⟨rfl,hm⟩
set_option maxHeartbeats 2000000 in
theorem m40:MkS Tryz.prog 40 (.sl y36):=by
 intro F w u x k hF0 hS h0 hk;have hS0:=hS;obtain⟨p,cap,hu,hcap,hmax,_⟩:=hS0;simp only[List.cons.injEq,and_true] at hu;subst hu;have hall:=cntP_all y36 x;refine calls_vs Tryz.func40 Tryz.ntmps40 rfl rfl ?_;refine ra ?_;refine pu ?_;refine oN (nQ (vs_seq (ra ?_)));refine pu ?_;refine oN (nQ (vs_block ?_));refine vs_loop (fun i:Nat=>(1,.int .i64 (k+(cntP y36 x i:Int))) :: (5,.int .i64 (i:Int)) :: (0,.slice p x.length cap) :: []) (fun i w'=>i<=x.length/\WM F w w') (fun i=>x.length-i) 0 ⟨Nat.zero_le _,WM.refl F w⟩ (by rw[cntP_zero]; simp only[Int.natCast_zero,Int.add_zero]; ((repeat (refine sub_cons rfl ?_)); exact sub_nil)) ?_;rintro i w1 ⟨hi,hm⟩;have hle:=cntP_le y36 x i hi;refine vs_seq (ra ?_);refine pu ?_;refine pu ?_;refine vo_val _ (runs_lenL rfl) rfl ?_;refine pu ?_;refine oN (nQ ?_);refine vs_cond rfl (fun hc=>?_) (fun hc=>?_)
 ·have hlt:i<x.length:=by simpa using hc
  obtain⟨_,b,o,c,rfl,hF,hU,hat,hs⟩:=SH.get hS hlt;have hsu:=cntP_succ (e:=y36) (xs:=x) hlt;have hle1:=cntP_le y36 x (i+1) (by omega);generalize x[i]=y at hs hsu;obtain⟨_,_,rfl,q0,⟨_,_,rfl,q1,⟨_,_,rfl,q2,q3⟩⟩⟩:=hs;have r0:=q0;obtain⟨_,_,rfl,_⟩:=r0;have r1:=q1;obtain⟨_,_,rfl,_⟩:=r1;have r2:=q2;obtain⟨_,_,rfl,_⟩:=r2;have r3:=q3;obtain⟨_,_,rfl,_⟩:=r3;have hy:cntM y36 y=(cntM (.sl (.int .i64)) y.1+(cntM (.sl (.int .i64)) y.2.1+(cntM (.sl (.int .i64)) y.2.2.1+cntM (.sl (.int .i64)) y.2.2.2))):=rfl;refine vs_skip (nQ (vs_seq (vs_block ?_)));refine ra ?_;refine pu ?_;refine pu ?_;refine im hlt ?_;refine fm ?_;refine lm hm hF (hat 0 _ rfl) ?_;refine pu ?_;refine mc m99 hF0 hm q0 fun w2 hm _=>?_;refine pu ?_;refine rb ?_;refine pu ?_;refine pu ?_;refine im hlt ?_;refine fm ?_;refine lm hm hF (hat 1 _ rfl) ?_;refine pu ?_;refine mc m99 hF0 hm q1 fun w2 hm _=>?_;refine pu ?_;refine rb ?_;refine pu ?_;refine pu ?_;refine im hlt ?_;refine fm ?_;refine lm hm hF (hat 2 _ rfl) ?_;refine pu ?_;refine mc m99 hF0 hm q2 fun w2 hm _=>?_;refine pu ?_;refine rc ?_;refine pu ?_;refine pu ?_;refine im hlt ?_;refine fm ?_;refine lm hm hF (hat 3 _ rfl) ?_;refine pu ?_;refine mc m99 hF0 hm q3 fun w2 hm _=>?_;refine pu ?_;refine rd' ?_;refine pu ?_;refine ad ?_;refine pu ?_;refine oN ?_;have he:k+((cntP y36 x (i+1):Nat):Int)=(((((k+(cntP y36 x i:Int))+(cntM (.sl (.int .i64)) y.1:Int))+(cntM (.sl (.int .i64)) y.2.1:Int))+(cntM (.sl (.int .i64)) y.2.2.1:Int))+(cntM (.sl (.int .i64)) y.2.2.2:Int)):=by rw[hsu,hy]; omega
  refine fin_loop (i+1) ⟨by omega,hm⟩ (by omega) (by rw[he,Int.natCast_succ]; ((repeat (refine sub_cons rfl ?_)); exact sub_nil))
 ·have hge:i=x.length:=by
   have:¬i<x.length:=by simpa using hc
   omega
  subst hge;refine vs_exit (fin_seq_exit (fin_loop_exit (fin_blk_exit rfl (nQ (ra ?_)))));refine pu ?_;refine pu ?_;refine oN (nQ (vs_ret ?_));refine fin_ret1 Tryz.results40 rfl ?_;rw[hall];exact⟨rfl,hm⟩
set_option maxHeartbeats 2000000 in
theorem m38:MkA Tryz.prog 38 (.sl y115):=by
 intro F w cs x k hF0 hS h0 hk;have hc:cntM (.sl y115) x=cntM (.sl y115) x:=rfl;have q0:=hS;have r0:=q0;obtain⟨_,_,rfl,_⟩:=r0;refine calls_vs Tryz.func38 Tryz.ntmps38 rfl rfl ?_;refine vs_seq ?_;refine vs_region ?_;refine vo_box rfl rfl rfl ?_;intro b w1 hN B;have hm:WM F w w1:=WM.of_ext hN.ext;have hbF:¬F b:=by intro hb; have h1:=hF0 b hb; have h2:=hN.eq; have h3:=hN.size; omega
 refine pu ?_;refine oN ?_;refine nQ ?_;refine ra ?_;refine fm ?_;refine vo_loadB rfl B rfl rfl ?_;refine pu ?_;refine mc m95 hF0 hm q0 fun w2 hm hm2=>?_
 replace B:=blk_wm B hm2 hbF
 refine pu ?_;refine oN (nQ ?_);refine vs_seq ?_;refine vs_region ?_;refine pu ?_;refine pu ?_;refine oN ?_;refine nQ ?_;refine vs_ret ?_;refine fin_ret1 Tryz.results38 rfl ?_;refine⟨?_,hm⟩;rw[show k+(cntM (.sl y115) x:Int)=(k+(cntM (.sl y115) x:Int)) by omega]
set_option maxHeartbeats 2000000 in
theorem m39:MkA Tryz.prog 39 y47:=by
 intro F w cs x k hF0 hS h0 hk;have hc:cntM y47 x=(cntM (.sl y152) x.1+(cntM (.sl .str) x.2.1+cntM (.sl y166) x.2.2)):=rfl;obtain⟨_,_,rfl,q0,⟨_,_,rfl,q1,q2⟩⟩:=hS;have r0:=q0;obtain⟨_,_,rfl,_⟩:=r0;have r1:=q1;obtain⟨_,_,rfl,_⟩:=r1;have r2:=q2;obtain⟨_,_,rfl,_⟩:=r2;refine calls_vs Tryz.func39 Tryz.ntmps39 rfl rfl ?_;refine vs_seq ?_;refine vs_region ?_;refine vo_box rfl rfl rfl ?_;intro b w1 hN B;have hm:WM F w w1:=WM.of_ext hN.ext;have hbF:¬F b:=by intro hb; have h1:=hF0 b hb; have h2:=hN.eq; have h3:=hN.size; omega
 refine pu ?_;refine oN ?_;refine nQ ?_;refine ra ?_;refine fm ?_;refine vo_loadB rfl B rfl rfl ?_;refine pu ?_;refine mc m96 hF0 hm q0 fun w2 hm hm2=>?_
 replace B:=blk_wm B hm2 hbF
 refine pu ?_;refine oN (nQ ?_);refine ra ?_;refine fm ?_;refine vo_loadB rfl B rfl rfl ?_;refine pu ?_;refine mc m97 hF0 hm q1 fun w2 hm hm2=>?_
 replace B:=blk_wm B hm2 hbF
 refine pu ?_;refine oN (nQ ?_);refine ra ?_;refine fm ?_;refine vo_loadB rfl B rfl rfl ?_;refine pu ?_;refine mc m98 hF0 hm q2 fun w2 hm hm2=>?_
 replace B:=blk_wm B hm2 hbF
 refine pu ?_;refine oN (nQ ?_);refine vs_seq ?_;refine vs_region ?_;refine pu ?_;refine pu ?_;refine oN ?_;refine nQ ?_;refine vs_ret ?_;refine fin_ret1 Tryz.results39 rfl ?_;refine⟨?_,hm⟩;rw[show k+(cntM y47 x:Int)=(((k+(cntM (.sl y152) x.1:Int))+(cntM (.sl .str) x.2.1:Int))+(cntM (.sl y166) x.2.2:Int)) by omega]
set_option maxHeartbeats 2000000 in
theorem m11:MkA Tryz.prog 11 y50:=by
 intro F w cs x k hF0 hS h0 hk;have hc:cntM y50 x=(cntM (.sl y115) x.1+((cntM (.sl y152) x.2.1.1+(cntM (.sl .str) x.2.1.2.1+cntM (.sl y166) x.2.1.2.2))+cntM (.sl y36) x.2.2)):=rfl;obtain⟨_,_,rfl,q0,⟨_,_,rfl,⟨_,_,rfl,q1,⟨_,_,rfl,q2,q3⟩⟩,q4⟩⟩:=hS;have r0:=q0;obtain⟨_,_,rfl,_⟩:=r0;have r1:=q1;obtain⟨_,_,rfl,_⟩:=r1;have r2:=q2;obtain⟨_,_,rfl,_⟩:=r2;have r3:=q3;obtain⟨_,_,rfl,_⟩:=r3;have r4:=q4;obtain⟨_,_,rfl,_⟩:=r4;refine calls_vs Tryz.func11 Tryz.ntmps11 rfl rfl ?_;refine vs_seq ?_;refine vs_region ?_;refine vo_box rfl rfl rfl ?_;intro b w1 hN B;have hm:WM F w w1:=WM.of_ext hN.ext;have hbF:¬F b:=by intro hb; have h1:=hF0 b hb; have h2:=hN.eq; have h3:=hN.size; omega
 refine pu ?_;refine oN ?_;refine nQ ?_;refine ra ?_;refine fm ?_;refine vo_loadAt (cs:=[_]) rfl (B.at.mid (pre:=[]) (c:=[_]) (post:=[_,_,_,_])) rfl rfl ?_;refine pu ?_;have g0:SH F w (.sl y115) [_] x.1:=q0;have hn0:cntM (.sl y115) x.1=cntM (.sl y115) x.1:=rfl;refine ma m38 hF0 hm g0 fun w2 hm hm2=>?_
 replace B:=blk_wm B hm2 hbF
 refine pu ?_;refine oN (nQ ?_);refine ra ?_;refine fm ?_;refine vo_loadAt (cs:=[_,_,_]) rfl (B.at.mid (pre:=[_]) (c:=[_,_,_]) (post:=[_])) rfl rfl ?_;refine pu ?_;have g1:SH F w y47 [_,_,_] x.2.1:=⟨_,_,rfl,q1,⟨_,_,rfl,q2,q3⟩⟩;have hn1:cntM y47 x.2.1=(cntM (.sl y152) x.2.1.1+(cntM (.sl .str) x.2.1.2.1+cntM (.sl y166) x.2.1.2.2)):=rfl;refine ma m39 hF0 hm g1 fun w2 hm hm2=>?_
 replace B:=blk_wm B hm2 hbF
 refine pu ?_;refine oN (nQ ?_);refine ra ?_;refine fm ?_;refine vo_loadB rfl B rfl rfl ?_;refine pu ?_;refine mc m40 hF0 hm q4 fun w2 hm hm2=>?_
 replace B:=blk_wm B hm2 hbF
 refine pu ?_;refine oN (nQ ?_);refine vs_seq ?_;refine vs_region ?_;refine pu ?_;refine pu ?_;refine oN ?_;refine nQ ?_;refine vs_ret ?_;refine fin_ret1 Tryz.results11 rfl ?_;refine⟨?_,hm⟩;rw[show k+(cntM y50 x:Int)=(((k+(cntM (.sl y115) x.1:Int))+(cntM y47 x.2.1:Int))+(cntM (.sl y36) x.2.2:Int)) by omega]
set_option maxHeartbeats 2000000 in
theorem x99:MkE Tryz.prog 99 (.int .i64) 1 mkI:=by
 intro K w u x k hU hS h0 hk;obtain⟨p,cap,rfl,b,o,ds,hp,hat,hl,hcl⟩:=hS.row;have hsz:ds.length=x.length*1:=hl;refine calls_vs Tryz.func99 Tryz.ntmps99 rfl rfl ?_;refine vs_seq ?_;refine vs_region ?_;refine vo_pure rfl rfl ?_;refine oN ?_;refine nQ ?_;refine vs_seq ?_;refine vs_seq ?_;refine vs_region ?_;refine vo_pure rfl rfl ?_;refine oN ?_;refine nQ ?_;refine vs_block ?_;refine vs_loop (fun i:Nat=>(1,.int .i64 (k+((1*i:Nat):Int))) :: (5,.int .i64 (i:Int)) :: (0,.slice p x.length cap) :: []) (fun i w'=>i<=x.length/\WO K w w'/\(∀j,UF w j->UF w' j)/\At w' b o (mks k (1*i)++ds.drop (1*i))) (fun i=>x.length-i) 0 ⟨Nat.zero_le _,WO.refl K w,fun _ h=>h,hat⟩ (by simp only[Nat.mul_zero,Int.natCast_zero,Int.add_zero]; ((repeat (refine sub_cons rfl ?_)); exact sub_nil)) ?_;rintro i w1 ⟨hi,hm,hu,hat⟩;refine vs_seq ?_;refine vs_seq ?_;refine vs_region ?_;refine vo_pure rfl rfl ?_;refine vo_pure rfl rfl ?_;refine vo_val _ (runs_lenL rfl) rfl ?_;refine vo_pure rfl rfl ?_;refine oN ?_;refine nQ ?_;refine vs_cond rfl (fun hc=>?_) (fun hc=>?_)
 ·have hlt:i<x.length:=by simpa using hc
  obtain⟨rfl,hK⟩:=hp (by omega);have hUb:=hU b hK;refine vs_skip ?_;refine nQ ?_;refine vs_seq ?_;refine vs_block ?_;refine vs_seq ?_;refine vs_region ?_;refine vo_pure rfl rfl ?_;refine vo_pure rfl rfl ?_;refine vo_pure rfl rfl ?_;refine vo_idxN rfl rfl hlt rfl ?_;refine vo_storeK (j:=1*i+0) (k:=k) (ds:=ds) rfl rfl (by omega) (by omega) (by omega) hat (hu b hUb) ?_;intro w2 hm2 hu2 hat
  replace hm:=hm.trans (hm2.up (fun j e=>by rw[e]; exact hK))
  replace hu:∀j,UF w j->UF w2 j:=fun j h=>hu2 j (hu j h)
  refine oN ?_;refine nQ ?_;refine vs_region ?_;refine vo_pure rfl rfl ?_;refine vo_val _ (runs_add rfl rfl (by omega)) rfl ?_;refine vo_pure rfl rfl ?_;refine oN ?_;refine fin_blk ?_;refine nQ ?_;refine vs_region ?_;refine vo_pure rfl rfl ?_;refine vo_val _ (runs_add rfl rfl (by omega)) rfl ?_;refine vo_pure rfl rfl ?_;refine oN ?_;have he:k+((1*(i+1):Nat):Int)=k+((1*i:Nat):Int)+1:=by omega
  refine fin_loop (i+1) ⟨by omega,hm,hu,hat⟩ (by omega) (by rw[he,Int.natCast_succ]; ((repeat (refine sub_cons rfl ?_)); exact sub_nil))
 ·have hge:i=x.length:=by
   have:¬i<x.length:=by simpa using hc
   omega
  subst hge;refine vs_exit ?_;refine fin_seq_exit ?_;refine fin_loop_exit ?_;refine fin_blk_exit rfl ?_;refine nQ ?_;refine vs_seq ?_;refine vs_region ?_;refine vo_pure rfl rfl ?_;refine vo_pure rfl rfl ?_;refine oN ?_;refine nQ ?_;refine vs_ret ?_;refine fin_ret1 Tryz.results99 rfl ?_;refine⟨rfl,hm,hu,hcl _ _ (mkI_len _ _) (mks k (1*x.length)) ?_ (by rw[Nat.one_mul]; exact mkI_all _ _ h0 (by omega))⟩;rw[List.drop_eq_nil_of_le (by omega),List.append_nil] at hat;exact hat
end Go.Proofs.YtfggbbnnalflhaaGreatDoor
end
section
namespace Go.Proofs.YtfggbbnnalflhaaGreatDoor
open Go Go.Proofs Go.Proofs.Sv Go.Proofs.Xv Go.Proofs.Xl Go.RowKit
theorem cTo7{p:Prop}{n m:Nat}{w:World}{cs:List Value}{x:Y32}{r:Y50}(f:Fa p n m w y32 cs x)(h:u7 x=some r)(hW:Fac Tryz.prog w):Calls Tryz.prog 7 #[.agg cs.toArray] w fun en w'=>∃x0 x1 x2 x3 x4,en=.returned (.agg #[x0,x1,x2,x3,x4])/\Ext w w'/\Fa True w.heap.size w'.heap.size w' y50 [x0,x1,x2,x3,x4] r:=by
 refine Calls.mono (ok_call o7 (fun _=>rfl) rfl (x:=(x,())) h ⟨_,_,rfl,f.arg,rfl,rfl⟩ hW) ?_;rintro _ w' ⟨v,rfl,hE,us,rfl,hr⟩;obtain⟨x0,_,rfl,h0,hr⟩:=rrs_cons hr;obtain⟨x1,_,rfl,h1,hr⟩:=rrs_cons hr;obtain⟨x2,_,rfl,h2,hr⟩:=rrs_cons hr;obtain⟨x3,_,rfl,h3,hr⟩:=rrs_cons hr;obtain⟨x4,_,rfl,h4,hr⟩:=rrs_cons hr;obtain⟨rfl,_⟩:=hr;exact⟨x0,x1,x2,x3,x4,rfl,hE,[x0],[x1,x2,x3,x4],rfl,RT.up h0.1 (fun _ h=>h rfl),[x1,x2,x3],[x4],rfl,⟨[x1],[x2,x3],rfl,RT.up h1.1 (fun _ h=>h rfl),[x2],[x3],rfl,RT.up h2.1 (fun _ h=>h rfl),RT.up h3.1 (fun _ h=>h rfl)⟩,RT.up h4.1 (fun _ h=>h rfl)⟩
end Go.Proofs.YtfggbbnnalflhaaGreatDoor
end
section
namespace Go.Proofs.YtfggbbnnalflhaaGreatDoor
open Go Go.Proofs Go.Proofs.Sv Go.Proofs.Xv Go.RowKit
attribute [local irreducible] VS VO VQ VH FinS seqQ blkQ loopQ RunsOp RunsU
attribute [local simp] spl reps Value.cells
set_option maxHeartbeats 2000000 in
theorem xw41:MkW Tryz.prog 41:=by
 intro n m w u1 u2 u3 u4 x k hA h0 hk;unfold wiN at hk;obtain⟨g1,g2,g3,g4,hg,d1,d2,d3,r1,r2,r3,r4⟩:=hA;refine calls_vs Tryz.func41 Tryz.ntmps41 rfl rfl ?_;refine vs_seq ?_;refine vs_region ?_;refine vo_box rfl rfl rfl ?_;intro b w1 hN B;have i1:=hN.ext;have e1:=hN.eq;have s1:=hN.size;have hlt:∀i,(g1=some i∨g2=some i∨g3=some i∨g4=some i)->i<w.heap.size:=fun i h=>(hg i h).2.2.lt;have hU1:∀i,(g1=some i∨g2=some i∨g3=some i∨g4=some i)->UF w1 i:=fun i h=>(hg i h).2.2.same (i1.block i (hlt i h));have l1:∀{i},g1=some i->(g1=some i∨g2=some i∨g3=some i∨g4=some i):=fun h=>.inl h;have l2:∀{i},g2=some i->(g1=some i∨g2=some i∨g3=some i∨g4=some i):=fun h=>.inr (.inl h);have l3:∀{i},g3=some i->(g1=some i∨g2=some i∨g3=some i∨g4=some i):=fun h=>.inr (.inr (.inl h));have l4:∀{i},g4=some i->(g1=some i∨g2=some i∨g3=some i∨g4=some i):=fun h=>.inr (.inr (.inr h))
 replace r1:=RT.same (K':=fun k=>g1=some k) (w':=w1) (fun i e hl=>⟨e,i1.block i hl⟩) r1
 replace r2:=RT.same (K':=fun k=>g2=some k) (w':=w1) (fun i e hl=>⟨e,i1.block i hl⟩) r2
 replace r3:=RT.same (K':=fun k=>g3=some k) (w':=w1) (fun i e hl=>⟨e,i1.block i hl⟩) r3
 replace r4:=RT.same (K':=fun k=>g4=some k) (w':=w1) (fun i e hl=>⟨e,i1.block i hl⟩) r4
 refine pu ?_;refine oN ?_;refine nQ ?_;refine ra ?_;refine fm ?_;refine vo_loadB rfl B rfl rfl ?_;refine pu ?_;refine vo_call rfl rfl (Calls.mono (x99 _ _ _ _ _ (fun i e=>hU1 i (l1 e)) r1 h0 (by omega)) ?_);rintro _ w2 ⟨rfl,o2,v2,q1⟩;refine⟨_,rfl,?_⟩
 replace B:=blk_wo B o2 (fun e=>by have:=hlt b (l1 e); omega)
 replace r2:=RT.same (K':=fun k=>g2=some k) (w':=w2) (fun i e hl=>⟨e,o2.block i hl fun e'=>(d1 i e').1 e⟩) r2
 replace r3:=RT.same (K':=fun k=>g3=some k) (w':=w2) (fun i e hl=>⟨e,o2.block i hl fun e'=>(d1 i e').2.1 e⟩) r3
 replace r4:=RT.same (K':=fun k=>g4=some k) (w':=w2) (fun i e hl=>⟨e,o2.block i hl fun e'=>(d1 i e').2.2 e⟩) r4
 refine pu ?_;refine oN (nQ ?_);refine ra ?_;refine fm ?_;refine vo_loadB rfl B rfl rfl ?_;refine pu ?_;refine vo_call rfl rfl (Calls.mono (x99 _ _ _ _ _ (fun i e=>v2 i (hU1 i (l2 e))) r2 (by omega) (by omega)) ?_);rintro _ w3 ⟨rfl,o3,v3,q2⟩;refine⟨_,rfl,?_⟩
 replace B:=blk_wo B o3 (fun e=>by have:=hlt b (l2 e); omega)
 replace q1:=RT.same (K':=fun k=>g1=some k) (w':=w3) (fun i e hl=>⟨e,o3.block i hl fun e'=>(d1 i e).1 e'⟩) q1
 replace r3:=RT.same (K':=fun k=>g3=some k) (w':=w3) (fun i e hl=>⟨e,o3.block i hl fun e'=>(d2 i e').1 e⟩) r3
 replace r4:=RT.same (K':=fun k=>g4=some k) (w':=w3) (fun i e hl=>⟨e,o3.block i hl fun e'=>(d2 i e').2 e⟩) r4
 refine pu ?_;refine oN (nQ ?_);refine ra ?_;refine fm ?_;refine vo_loadB rfl B rfl rfl ?_;refine pu ?_;refine vo_call rfl rfl (Calls.mono (x99 _ _ _ _ _ (fun i e=>v3 i (v2 i (hU1 i (l3 e)))) r3 (by omega) (by omega)) ?_);rintro _ w4 ⟨rfl,o4,v4,q3⟩;refine⟨_,rfl,?_⟩
 replace B:=blk_wo B o4 (fun e=>by have:=hlt b (l3 e); omega)
 replace q1:=RT.same (K':=fun k=>g1=some k) (w':=w4) (fun i e hl=>⟨e,o4.block i hl fun e'=>(d1 i e).2.1 e'⟩) q1
 replace q2:=RT.same (K':=fun k=>g2=some k) (w':=w4) (fun i e hl=>⟨e,o4.block i hl fun e'=>(d2 i e).1 e'⟩) q2
 replace r4:=RT.same (K':=fun k=>g4=some k) (w':=w4) (fun i e hl=>⟨e,o4.block i hl fun e'=>d3 i e' e⟩) r4
 refine pu ?_;refine oN (nQ ?_);refine ra ?_;refine fm ?_;refine vo_loadB rfl B rfl rfl ?_;refine pu ?_;refine vo_call rfl rfl (Calls.mono (x99 _ _ _ _ _ (fun i e=>v4 i (v3 i (v2 i (hU1 i (l4 e))))) r4 (by omega) (by omega)) ?_);rintro _ w5 ⟨rfl,o5,v5,q4⟩;refine⟨_,rfl,?_⟩
 replace q1:=RT.same (K':=fun k=>g1=some k) (w':=w5) (fun i e hl=>⟨e,o5.block i hl fun e'=>(d1 i e).2.2 e'⟩) q1
 replace q2:=RT.same (K':=fun k=>g2=some k) (w':=w5) (fun i e hl=>⟨e,o5.block i hl fun e'=>(d2 i e).2 e'⟩) q2
 replace q3:=RT.same (K':=fun k=>g3=some k) (w':=w5) (fun i e hl=>⟨e,o5.block i hl fun e'=>d3 i e e'⟩) q3
 refine pu ?_;refine oN (nQ ?_);refine vs_seq ?_;refine vs_region ?_;refine pu ?_;refine pu ?_;refine oN ?_;refine nQ ?_;refine vs_ret ?_;refine fin_ret1 Tryz.results41 rfl ?_;have z1:k+((1*x.1.length:Nat):Int)=k+(x.1.length:Int):=by omega
 have z2:k+((1*x.1.length:Nat):Int)+((1*x.2.1.length:Nat):Int)=k+((x.1.length+x.2.1.length:Nat):Int):=by omega
 have z3:k+((1*x.1.length:Nat):Int)+((1*x.2.1.length:Nat):Int)+((1*x.2.2.1.length:Nat):Int)=k+((x.1.length+x.2.1.length+x.2.2.1.length:Nat):Int):=by omega
 have z4:k+((1*x.1.length:Nat):Int)+((1*x.2.1.length:Nat):Int)+((1*x.2.2.1.length:Nat):Int)+((1*x.2.2.2.length:Nat):Int)=k+(wiN x:Int):=by unfold wiN; omega
 rw[z1] at q2;rw[z2] at q3;rw[z3] at q4;refine⟨by rw[z4],?_,g1,g2,g3,g4,fun i h=>⟨(hg i h).1,(hg i h).2.1,v5 i (v4 i (v3 i (v2 i (hU1 i h))))⟩,d1,d2,d3,q1,q2,q3,q4⟩;have p1:WO (fun i=>n<=i/\i<m) w w1:=⟨i1.os,i1.tape,i1.output,i1.size,fun i hi _=>i1.block i hi⟩;exact(((p1.trans (o2.up fun i e=>⟨(hg i (l1 e)).1,(hg i (l1 e)).2.1⟩)).trans (o3.up fun i e=>⟨(hg i (l2 e)).1,(hg i (l2 e)).2.1⟩)).trans (o4.up fun i e=>⟨(hg i (l3 e)).1,(hg i (l3 e)).2.1⟩)).trans (o5.up fun i e=>⟨(hg i (l4 e)).1,(hg i (l4 e)).2.1⟩)
set_option maxHeartbeats 2000000 in
theorem xe12:MkEd Tryz.prog 12:=by
 intro n m w cs x k hA h0 hk;obtain⟨u1,u2,u3,u4,rfl,hI,hA⟩:=hA;refine calls_vs Tryz.func12 Tryz.ntmps12 rfl rfl ?_;refine vs_seq ?_;refine vs_region ?_;refine vo_box rfl rfl rfl ?_;intro b w1 hN B;have i1:=hN.ext;have e1:=hN.eq;have s1:=hN.size
 replace hA:=hA.wo (F:=fun _=>False) ⟨i1.os,i1.tape,i1.output,i1.size,fun i hi _=>i1.block i hi⟩ (fun _ _ _ h=>h)
 refine pu ?_;refine oN ?_;refine nQ ?_;refine ra ?_;refine fm ?_;refine vo_loadAt (cs:=[_,_,_,_]) rfl (B.at.mid (pre:=[_,_,_,_,_,_]) (c:=[_,_,_,_]) (post:=[])) rfl rfl ?_;refine pu ?_;refine vo_call rfl rfl (Calls.mono (xw41 n m w1 u1 u2 u3 u4 _ k hA h0 hk) ?_);rintro _ w2 ⟨rfl,o2,hB⟩;refine⟨_,rfl,?_⟩;refine pu ?_;refine oN (nQ ?_);refine vs_seq ?_;refine vs_region ?_;refine pu ?_;refine pu ?_;refine oN ?_;refine nQ ?_;refine vs_ret ?_;refine fin_ret1 Tryz.results12 rfl ?_;refine⟨rfl,(WO.trans ⟨i1.os,i1.tape,i1.output,i1.size,fun i hi _=>i1.block i hi⟩ o2),u1,u2,u3,u4,rfl,hI,hB⟩
end Go.Proofs.YtfggbbnnalflhaaGreatDoor
end
section
namespace Go.Proofs.YtfggbbnnalflhaaGreatDoor
open Go Go.Proofs Go.Proofs.Sv Go.Proofs.Xv Go.Proofs.Xl Go.RowKit
attribute [local irreducible] VS VO VQ VH FinS seqQ blkQ loopQ RunsOp RunsU
attribute [local simp] spl reps Value.cells
structure HL3(x0:Y32)(x1:ByteArray)(l:Y38)(c:Int):Prop where
 ht1:u7 x0=some x0
 hs2:u6 x0 x1=some (l,c)
 hs3:u8 x0 x1=some (l,c)
 he4:u9 l l=some true
 he5:u10 x0 x0=some true
 hk6:(1+(cntM y50 x0:Int))<=9223372036854775807
 hk7:(1+(wiN l.2.2.2.2.2.2:Int))<=9223372036854775807
 hh8:u13 (edM 1 l) (1:Int)=some (1+(wiN l.2.2.2.2.2.2:Int))
def GL3(x0:Y32)(x1:ByteArray):Prop:=∃L0:Int,u5 x0 (1048576:Int)=some L0/\L0<=1048576/\(0<=L0->(x1.size<=1048576)->∃(l:Y38) (c:Int),HL3 x0 x1 l c)
set_option maxRecDepth 100000 in
set_option maxHeartbeats 4000000 in
theorem law3{K:Nat->Prop}{w0:World}(hF0:Fac Tryz.prog w0){cs0:List Value}{x0:Y32}(a0:RT K w0 y32 cs0 x0){x1:ByteArray}(a1:x1.size<=9223372036854775807)(hg:GL3 x0 x1):Calls Tryz.prog 3 #[.agg cs0.toArray,.string x1] w0 fun en w'=>en=.returned (.bool true)/\Ext w0 w':=by
 obtain⟨L0,hz0,hL0,hG⟩:=hg;obtain⟨c0a,c0b,c0c,c0d,c0e,rfl⟩:=list5 (RT.len a0);have f1:=Fa.of a0;have hb:Ext w0 w0:=Ext.refl w0;refine calls_vs Tryz.func3 Tryz.ntmps3 rfl rfl ?_;refine ra ?_;refine vo_box rfl rfl rfl ?_;intro b2 w1 hN B2;have i1:=hN.ext;have e2:=hN.eq;have s1:=hN.size;have B2:Blk w1 b2 [c0a,c0b,c0c,c0d,c0e] 32:=B2;refine pu ?_;refine oN (nQ (vs_seq (ra ?_)));refine pu ?_;refine vo_val _ (runs_lenS rfl) rfl ?_;refine pu ?_;refine oN (nQ (vs_cond rfl (fun hc=>?_) (fun hc=>?_)))
 ·refine ra ?_;refine pu ?_;refine oN (nQ (vs_ret ?_))
  (repeat refine fin_seq_ret ?_)
  refine fin_ret1 Tryz.results3 rfl ?_;have hb:=hb.trans i1;exact⟨rfl,hb⟩
 have hl0:x1.size<=1048576:=by simp at hc; omega
 refine vs_skip (nQ (ra ?_));refine pu ?_;refine rb ?_;refine vo_loadA rfl B2 rfl rfl ?_;refine pu ?_;have hb:=hb.trans i1;have f1:=f1.ext i1;refine ciW (hF0.up hb) o5 (x:=(x0,(1048576:Int),())) hz0 ⟨_,_,rfl,f1.arg,⟨_,_,rfl,⟨rfl,by show lo .i64<=(1048576:Int); decide,by show(1048576:Int)<=hi .i64; decide⟩,⟨rfl,rfl⟩⟩⟩ fun w2 i2=>?_;have s2:=i2.size;refine pu ?_;refine oN (nQ (vs_seq (ra ?_)));refine pu ?_;refine pu ?_;refine oN (nQ (vs_cond rfl (fun hc=>?_) (fun hc=>?_)))
 ·refine ra ?_;refine pu ?_;refine oN (nQ (vs_ret ?_))
  (repeat refine fin_seq_ret ?_)
  refine fin_ret1 Tryz.results3 rfl ?_;have hb:=hb.trans i2;exact⟨rfl,hb⟩
 obtain⟨l,c,⟨ht1,hs2,hs3,he4,he5,hk6,hk7,hh8⟩⟩:=hG (by simpa using hc) hl0;refine vs_skip (nQ (ra ?_));have B2:=B2.ext i2;refine vo_loadA rfl B2 rfl rfl ?_;have hb:=hb.trans i2;have f1:=f1.ext i2;refine vo_call rfl rfl (Calls.mono (cTo7 f1 ht1 (hF0.up hb)) ?_);rintro _ w3 ⟨d2a,d2b,d2c,d2d,d2e,rfl,i3,g2⟩;refine⟨_,rfl,?_⟩;have s3:=i3.size;have f2:=g2;refine pu ?_;have hb:=hb.trans i3;refine vo_call rfl rfl (Calls.mono (ok_callA o6 (fun _=>rfl) rfl (x:=(x0,x1,())) hs2 ⟨_,_,rfl,f2.arg,⟨_,_,rfl,⟨rfl,a1⟩,⟨rfl,rfl⟩⟩⟩ (hF0.up hb)) ?_);rintro _ w4 ⟨v,gs,rfl,i4,hN,hg,hr⟩;refine⟨_,rfl,?_⟩;have s4:=i4.size;obtain⟨u3a,u3b,u3c,u3d,rfl,g3⟩:=apE_of (l:=l) hr hN hg;have f3:=g3;refine pu ?_;refine pu ?_;refine pu ?_;refine vo_alloc rfl rfl ?_;intro b6 w5 hN B6;have i5:=hN.ext;have e6:=hN.eq;have s5:=hN.size;have f3:=f3.ext i5;refine vo_store (vs:=[.int .i64 l.1,.int .i64 l.2.1,.int .i64 l.2.2.1,.int .i64 l.2.2.2.1,.int .i64 l.2.2.2.2.1,.string l.2.2.2.2.2.1,u3a,u3b,u3c,u3d]) rfl rfl B6 rfl rfl (ones_of (RT.one f3.fa)) rfl ?_;intro w6 hR hN;have i6:=wr_wo hR;have s6:=hR.size;have B6:Blk w6 b6 [.int .i64 l.1,.int .i64 l.2.1,.int .i64 l.2.2.1,.int .i64 l.2.2.2.1,.int .i64 l.2.2.2.2.1,.string l.2.2.2.2.2.1,u3a,u3b,u3c,u3d] 38:=hN;refine pu ?_;refine rb ?_;have B2:=blk_wo (B2.ext (i3.trans (i4.trans i5))) i6 fun h=>by omega
 refine vo_loadA rfl B2 rfl rfl ?_;have hb:=i6.ext ((hb.trans i4).trans i5) fun i h=>by omega
 have f1:=(f1.ext (i3.trans (i4.trans i5))).wo i6 fun i h1 h2 h3=>by omega
 refine vo_call rfl rfl (Calls.mono (cTo7 f1 ht1 (hF0.up hb)) ?_);rintro _ w7 ⟨d4a,d4b,d4c,d4d,d4e,rfl,i7,g4⟩;refine⟨_,rfl,?_⟩;have s7:=i7.size;have f4:=g4;refine vo_alloc rfl rfl ?_;intro b8 w8 hN B8;have i8:=hN.ext;have e8:=hN.eq;have s8:=hN.size;have f4:=f4.ext i8;refine vo_store (vs:=[d4a,d4b,d4c,d4d,d4e]) rfl rfl B8 rfl rfl (ones_of (RT.one f4)) rfl ?_;intro w9 hR hN;have i9:=wr_wo hR;have s9:=hR.size;have B8:Blk w9 b8 [d4a,d4b,d4c,d4d,d4e] 50:=hN;refine rb ?_;refine vo_loadA rfl B8 rfl rfl ?_;refine pu ?_;have hb:=i9.ext ((hb.trans i7).trans i8) fun i h=>by omega
 have f4:=f4.wo i9 fun i h1 h2 h3=>by omega
 refine vo_call rfl rfl (Calls.mono (ok_callA o8 (fun _=>rfl) rfl (x:=(x0,x1,())) hs3 ⟨_,_,rfl,f4.arg,⟨_,_,rfl,⟨rfl,a1⟩,⟨rfl,rfl⟩⟩⟩ (hF0.up hb)) ?_);rintro _ w10 ⟨v,gs,rfl,i10,hN,hg,hr⟩;refine⟨_,rfl,?_⟩;have s10:=i10.size;obtain⟨u5a,u5b,u5c,u5d,rfl,g5⟩:=apE_of (l:=l) hr hN hg;have f5:=g5;refine pu ?_;refine pu ?_;refine pu ?_;refine vo_alloc rfl rfl ?_;intro b9 w11 hN B9;have i11:=hN.ext;have e9:=hN.eq;have s11:=hN.size;have f5:=f5.ext i11;refine vo_store (vs:=[.int .i64 l.1,.int .i64 l.2.1,.int .i64 l.2.2.1,.int .i64 l.2.2.2.1,.int .i64 l.2.2.2.2.1,.string l.2.2.2.2.2.1,u5a,u5b,u5c,u5d]) rfl rfl B9 rfl rfl (ones_of (RT.one f5.fa)) rfl ?_;intro w12 hR hN;have i12:=wr_wo hR;have s12:=hR.size;have B9:Blk w12 b9 [.int .i64 l.1,.int .i64 l.2.1,.int .i64 l.2.2.1,.int .i64 l.2.2.2.1,.int .i64 l.2.2.2.2.1,.string l.2.2.2.2.2.1,u5a,u5b,u5c,u5d] 38:=hN;refine pu ?_;refine oN (nQ (vs_seq (ra ?_)));refine vo_loadA rfl B9 rfl rfl ?_;have B6:=blk_wo ((blk_wo (B6.ext (i7.trans i8)) i9 fun h=>by omega).ext (i10.trans i11)) i12 fun h=>by omega
 refine vo_loadA rfl B6 rfl rfl ?_;have hb:=i12.ext ((hb.trans i10).trans i11) fun i h=>by omega
 have f5:=f5.wo i12 fun i h1 h2 h3=>by omega
 have f3:=((((f3.wo i6 fun i h1 h2 h3=>by omega).ext (i7.trans i8)).wo i9 fun i h1 h2 h3=>by omega).ext (i10.trans i11)).wo i12 fun i h1 h2 h3=>by omega
 refine cbW (hF0.up hb) o9 (x:=(l,l,())) he4 ⟨_,_,rfl,f5.arg,⟨_,_,rfl,f3.arg,⟨rfl,rfl⟩⟩⟩ fun w13 i13=>?_;have s13:=i13.size;refine pu ?_;refine pu ?_;refine vo_guard_take rfl rfl ?_;refine pu ?_;refine vo_guard_take rfl rfl ?_;refine pu ?_;refine vo_guard_take rfl rfl ?_;refine pu ?_;refine vo_isF (bne_self_eq_false _) ?_;refine pu ?_;refine oN (nQ (vs_cond_false rfl ?_));refine vs_skip (nQ (vs_seq (vs_seq ?_)));refine vs_held ?_;intro w14 i14;have s14:=i14.size;have hS:=Ext.refl w14;have B8:=(blk_wo (B8.ext (i10.trans i11)) i12 fun h=>by omega).ext (i13.trans i14);have B2:=(blk_wo ((blk_wo (B2.ext (i7.trans i8)) i9 fun h=>by omega).ext (i10.trans i11)) i12 fun h=>by omega).ext (i13.trans i14);refine vh_take 0 rfl (fun _ hX=>runs_loadA rfl (lenIs_eq rfl) (B8.ext hX).at) rfl (by kernel_rfl) (by kernel_rfl) (by kernel_rfl) ?_;refine vh_take 1 rfl (fun _ hX=>runs_loadA rfl (lenIs_eq rfl) (B2.ext hX).at) rfl (by kernel_rfl) (by kernel_rfl) (by kernel_rfl) ?_;have hb:=(hb.trans i13).trans i14;have f1:=((((f1.ext (i7.trans i8)).wo i9 fun i h1 h2 h3=>by omega).ext (i10.trans i11)).wo i12 fun i h1 h2 h3=>by omega).ext (i13.trans i14);refine vh_one 2 (by kernel_rfl) (vho_call rfl rfl rfl (Calls.mono (cTo7 f1 ht1 (hF0.up hb)) ?_)) hS;rintro _ w15 ⟨d6a,d6b,d6c,d6d,d6e,rfl,i15,g6⟩;refine⟨_,rfl,?_⟩
 replace hS:=hS.trans i15
 have s15:=i15.size;have f6:=g6;have hb:=hb.trans i15;have f4:=((f4.ext (i10.trans i11)).wo i12 fun i h1 h2 h3=>by omega).ext (i13.trans (i14.trans i15));refine vh_one 3 (by kernel_rfl) (vho_call rfl rfl rfl (Calls.mono (ok_call o10 (fun _=>rfl) rfl (x:=(x0,x0,())) he5 ⟨_,_,rfl,f4.arg,⟨_,_,rfl,f6.arg,⟨rfl,rfl⟩⟩⟩ (hF0.up hb)) ?_)) hS;rintro _ w16 ⟨v,rfl,i16,hr⟩;obtain rfl:=rr_bool hr;refine⟨_,rfl,?_⟩
 replace hS:=hS.trans i16
 have s16:=i16.size;refine vh_only 4 rfl (by kernel_rfl) (runs_pure rfl) rfl ?_;refine vh_done (by kernel_rfl) ?_ hS;refine nQ (vs_cond_false rfl ?_);refine vs_skip (nQ (ra ?_));refine pu ?_;refine rb ?_;have B8:=B8.ext (i15.trans i16);refine vo_loadA rfl B8 rfl rfl ?_;refine pu ?_;have f4:=f4.ext i16;refine vo_call rfl rfl (Calls.mono (m11 (fun i=>w6.heap.size<=i/\i<w7.heap.size) _ _ _ _ (fun i hi=>by omega) (f4.sh rfl) (by omega) (by omega)) ?_);rintro _ w17 ⟨rfl,hM⟩;refine⟨_,rfl,?_⟩;have i17:=hM.wo;have s17:=i17.size;refine pu ?_;refine oN (nQ (vs_seq (ra ?_)));refine pu ?_;refine pu ?_;refine vo_isF (decide_eq_false (by omega)) ?_;refine pu ?_;refine vo_guard_take rfl rfl ?_;have B9:=blk_wo (B9.ext (i13.trans (i14.trans (i15.trans i16)))) i17 fun h=>by omega
 refine vo_loadA rfl B9 rfl rfl ?_;refine vo_guard_take rfl rfl ?_;have B6:=blk_wo (B6.ext (i13.trans (i14.trans (i15.trans i16)))) i17 fun h=>by omega
 refine vo_loadA rfl B6 rfl rfl ?_;refine vo_guard_take rfl rfl ?_;have hb:=i17.ext (hb.trans i16) fun i h=>by omega
 have f5:=(f5.ext (i13.trans (i14.trans (i15.trans i16)))).wo i17 fun i h1 h2 h3=>by omega
 have f3:=(f3.ext (i13.trans (i14.trans (i15.trans i16)))).wo i17 fun i h1 h2 h3=>by omega
 refine cbW (hF0.up hb) o9 (x:=(l,l,())) he4 ⟨_,_,rfl,f5.arg,⟨_,_,rfl,f3.arg,⟨rfl,rfl⟩⟩⟩ fun w18 i18=>?_;have s18:=i18.size;refine vo_guard_take rfl rfl ?_;refine pu ?_;refine pu ?_;refine pu ?_;refine vo_guard_take rfl rfl ?_;refine pu ?_;refine vo_guard_take rfl rfl ?_;refine pu ?_;refine vo_guard_take rfl rfl ?_;refine pu ?_;refine vo_isF (bne_self_eq_false _) ?_;refine pu ?_;refine oN (nQ (vs_cond_false rfl ?_));refine vs_skip (nQ (ra ?_));refine pu ?_;refine rb ?_;have B9:=B9.ext i18;refine vo_loadA rfl B9 rfl rfl ?_;refine pu ?_;have f5:=f5.ext i18;refine vo_call rfl rfl (Calls.mono (xe12 _ _ _ _ _ _ f5 (by omega) (by omega)) ?_);rintro _ w19 ⟨rfl,i19,g18⟩;refine⟨_,rfl,?_⟩;have s19:=i19.size;have f5:=g18;refine pu ?_;refine rb ?_;refine pu ?_;refine rb ?_;have B9:=blk_wo B9 i19 fun h=>by omega
 refine vo_loadA rfl B9 rfl rfl ?_;refine pu ?_;have hb:=i19.ext (hb.trans i18) fun i h=>by omega
 refine ciW (hF0.up hb) o13 (x:=((edM 1 l),(1:Int),())) hh8 ⟨_,_,rfl,f5.arg,⟨_,_,rfl,⟨rfl,by show lo .i64<=(1:Int); decide,by show(1:Int)<=hi .i64; decide⟩,⟨rfl,rfl⟩⟩⟩ fun w20 i20=>?_;have s20:=i20.size;refine pu ?_;refine oN (nQ (vs_seq (ra ?_)));refine pu ?_;refine pu ?_;refine vo_isF (decide_eq_false (by omega)) ?_;refine oN (nQ (vs_cond_false rfl ?_));refine vs_skip (nQ (vs_seq (ra ?_)));refine pu ?_;refine pu ?_;refine pu ?_;refine vo_isF (bne_self_eq_false _) ?_;refine oN (nQ (vs_cond_false rfl ?_));refine vs_skip (nQ (ra ?_));have B2:=(blk_wo ((blk_wo (B2.ext (i15.trans i16)) i17 fun h=>by omega).ext i18) i19 fun h=>by omega).ext i20;refine vo_loadA rfl B2 rfl rfl ?_;have hb:=hb.trans i20;have f1:=((((f1.ext (i15.trans i16)).wo i17 fun i h1 h2 h3=>by omega).ext i18).wo i19 fun i h1 h2 h3=>by omega).ext i20;refine vo_call rfl rfl (Calls.mono (cTo7 f1 ht1 (hF0.up hb)) ?_);rintro _ w21 ⟨d7a,d7b,d7c,d7d,d7e,rfl,i21,g7⟩;refine⟨_,rfl,?_⟩;have s21:=i21.size;have f7:=g7;refine pu ?_;have hb:=hb.trans i21;refine vo_call rfl rfl (Calls.mono (ok_callA o8 (fun _=>rfl) rfl (x:=(x0,x1,())) hs3 ⟨_,_,rfl,f7.arg,⟨_,_,rfl,⟨rfl,a1⟩,⟨rfl,rfl⟩⟩⟩ (hF0.up hb)) ?_);rintro _ w22 ⟨v,gs,rfl,i22,hN,hg,hr⟩;refine⟨_,rfl,?_⟩;have s22:=i22.size;obtain⟨u8a,u8b,u8c,u8d,rfl,g8⟩:=apE_of (l:=l) hr hN hg;have f8:=g8;refine pu ?_;refine pu ?_;refine pu ?_;refine vo_alloc rfl rfl ?_;intro b14 w23 hN B14;have i23:=hN.ext;have e14:=hN.eq;have s23:=hN.size;have f8:=f8.ext i23;refine vo_store (vs:=[.int .i64 l.1,.int .i64 l.2.1,.int .i64 l.2.2.1,.int .i64 l.2.2.2.1,.int .i64 l.2.2.2.2.1,.string l.2.2.2.2.2.1,u8a,u8b,u8c,u8d]) rfl rfl B14 rfl rfl (ones_of (RT.one f8.fa)) rfl ?_;intro w24 hR hN;have i24:=wr_wo hR;have s24:=hR.size;have B14:Blk w24 b14 [.int .i64 l.1,.int .i64 l.2.1,.int .i64 l.2.2.1,.int .i64 l.2.2.2.1,.int .i64 l.2.2.2.2.1,.string l.2.2.2.2.2.1,u8a,u8b,u8c,u8d] 38:=hN;refine pu ?_;refine oN (nQ (vs_seq (ra ?_)));refine vo_loadA rfl B14 rfl rfl ?_;have B6:=blk_wo ((blk_wo (B6.ext i18) i19 fun h=>by omega).ext (i20.trans (i21.trans (i22.trans i23)))) i24 fun h=>by omega
 refine vo_loadA rfl B6 rfl rfl ?_;have hb:=i24.ext ((hb.trans i22).trans i23) fun i h=>by omega
 have f8:=f8.wo i24 fun i h1 h2 h3=>by omega
 have f3:=(((f3.ext i18).wo i19 fun i h1 h2 h3=>by omega).ext (i20.trans (i21.trans (i22.trans i23)))).wo i24 fun i h1 h2 h3=>by omega
 refine cbW (hF0.up hb) o9 (x:=(l,l,())) he4 ⟨_,_,rfl,f8.arg,⟨_,_,rfl,f3.arg,⟨rfl,rfl⟩⟩⟩ fun w25 i25=>?_;have s25:=i25.size;refine pu ?_;refine pu ?_;refine vo_guard_take rfl rfl ?_;refine pu ?_;refine vo_guard_take rfl rfl ?_;refine pu ?_;refine vo_guard_take rfl rfl ?_;refine pu ?_;refine vo_isF (bne_self_eq_false _) ?_;refine pu ?_;refine oN (nQ (vs_cond_false rfl ?_));refine vs_skip (nQ (ra ?_));refine pu ?_;refine rb ?_;have B9:=(blk_wo (B9.ext (i20.trans (i21.trans (i22.trans i23)))) i24 fun h=>by omega).ext i25;refine vo_loadA rfl B9 rfl rfl ?_;refine pu ?_;have hb:=hb.trans i25;have f5:=((f5.ext (i20.trans (i21.trans (i22.trans i23)))).wo i24 fun i h1 h2 h3=>by omega).ext i25;refine ciW (hF0.up hb) o13 (x:=((edM 1 l),(1:Int),())) hh8 ⟨_,_,rfl,f5.arg,⟨_,_,rfl,⟨rfl,by show lo .i64<=(1:Int); decide,by show(1:Int)<=hi .i64; decide⟩,⟨rfl,rfl⟩⟩⟩ fun w26 i26=>?_;have s26:=i26.size;refine pu ?_;refine oN (nQ (vs_seq (ra ?_)));refine pu ?_;refine pu ?_;refine vo_isF (decide_eq_false (by omega)) ?_;refine oN (nQ (vs_cond_false rfl ?_));refine vs_skip (nQ (vs_seq (ra ?_)));refine pu ?_;refine pu ?_;refine pu ?_;refine vo_isF (bne_self_eq_false _) ?_;refine oN (nQ (vs_cond_false rfl ?_));refine vs_skip (nQ (ra ?_));refine pu ?_;refine oN (nQ (vs_ret ?_))
 (repeat refine fin_seq_ret ?_)
 refine fin_ret1 Tryz.results3 rfl ?_;have hb:=hb.trans i26;exact⟨rfl,hb⟩
end Go.Proofs.YtfggbbnnalflhaaGreatDoor
end
section
namespace Go.Proofs.Xd
open Go Go.Proofs.Xv Go.Proofs.Xl Go.Proofs.Sv
def catN(s:ByteArray)(p:Nat->ByteArray):Nat->ByteArray
 | 0=>s
 | n+1=>catN s p n++p n
theorem catN_size{s:ByteArray}{p:Nat->ByteArray}{M:Nat}:∀n,(∀i,i<n->(p i).size<=M)->(catN s p n).size<=s.size+n*M
 | 0,_=>by simp[catN]
 | n+1,h=>by
   have h1:=catN_size (s:=s) n fun i hi=>h i (by omega);have h2:=h n (by omega);rw[catN,ByteArray.size_append,Nat.add_mul];omega
theorem lp_cat{τ ρ:Type}{n:Nat}(hn:n<=9223372036854775807)(mk:Nat->ByteArray->τ)(p:Nat->ByteArray)(s0:ByteArray){J:ByteArray->Option ρ}{F:(τ->Option ρ)->τ->Option ρ}
  (hF:∀g i s,i<n->s=catN s0 p i->F g (mk i s)=g (mk (i+1) (s++p i))) (hE:∀g s,s=catN s0 p n->F g (mk n s)=J s):lp F (mk 0 s0)=J (catN s0 p n) :=
 lp_run hn mk (fun i s=>some (s++p i)) (fun _ _=>none) (fun i s=>s=catN s0 p i) (J:=J) (F:=F) hF (fun i s s' _ hs h=>by cases h; rw[hs]; rfl) hE (fun _ _=>J (catN s0 p n)) (fun s hs=>by rw[hs]) (fun _ _ _ _=>rfl) 0 (Nat.zero_le _) s0 rfl
def fillN{α:Type}(z:α)(p:Nat->α)(n i:Nat):List α:=(List.range i).map p++List.replicate (n-i) z
theorem fillN_zero{α:Type}(z:α)(p:Nat->α)(n:Nat):fillN z p n 0=List.replicate n z:=by simp[fillN]
theorem fillN_full{α:Type}(z:α)(p:Nat->α)(n:Nat):fillN z p n n=(List.range n).map p:=by simp[fillN]
theorem fillN_len{α:Type}(z:α)(p:Nat->α){n i:Nat}(h:i<=n):(fillN z p n i).length=n:=by simp[fillN]; omega
theorem fillN_set{α:Type}(z:α)(p:Nat->α){n i:Nat}(h:i<n):(fillN z p n i).set i (p i)=fillN z p n (i+1):=by
 unfold fillN;rw[List.set_append_right _ _ (by simp)];simp only[List.length_map,List.length_range,Nat.sub_self,List.range_succ,List.map_append,List.map_cons,List.map_nil,List.append_assoc];rw[show n-i=(n-(i+1))+1 by omega,List.replicate_succ,List.set_cons_zero];rfl
theorem lp_fill{α τ ρ:Type}{n:Nat}(hn:n<=9223372036854775807)(mk:Nat->List α->τ)(z:α)(p:Nat->α){J:List α->Option ρ}{F:(τ->Option ρ)->τ->Option ρ}
  (hF:∀g i s,i<n->s=fillN z p n i->F g (mk i s)=g (mk (i+1) (s.set i (p i)))) (hE:∀g s,s=(List.range n).map p->F g (mk n s)=J s):lp F (mk 0 (List.replicate n z))=J ((List.range n).map p) :=
 lp_run hn mk (fun i s=>some (s.set i (p i))) (fun _ _=>none) (fun i s=>s=fillN z p n i) (J:=J) (F:=F) hF (fun i s s' hi hs h=>by cases h; rw[hs,fillN_set z p hi]) (fun g s hs=>hE g s (by rw[hs,fillN_full])) (fun _ _=>J ((List.range n).map p)) (fun s hs=>by rw[hs,fillN_full]) (fun _ _ _ _=>rfl) 0 (Nat.zero_le _) _ (fillN_zero _ _ _).symm
def bs(s:ByteArray):List UInt8:=s.data.toList
theorem ba_bs(s:ByteArray):(⟨(bs s).toArray⟩:ByteArray)=s:=by simp[bs]
theorem bs_len(s:ByteArray):(bs s).length=s.size:=Array.length_toList
def joinS(l:List ByteArray)(sep:ByteArray):ByteArray:=⟨(Lib.join (l.map bs) (bs sep)).toArray⟩
theorem joinS_one(a sep:ByteArray):joinS [a] sep=a:=by
 unfold joinS;rw[List.map_singleton,Lib.join_one,ba_bs]
theorem joinS_len{l:List ByteArray}{sep:ByteArray}{M:Nat}:(∀x∈l,x.size+sep.size<=M)->(joinS l sep).size<=l.length*M:=by
 intro h
 suffices ∀k,k<=l.length->(joinS (l.take k) sep).size<=k*M by have:=this l.length (Nat.le_refl _); rwa [List.take_length] at this
 intro k
 induction k with
 | zero=>intro _; simp[joinS,Lib.join,ByteArray.size]
 | succ k ih =>
   intro hk;have ih:=ih (by omega);have hx:=h l[k] (List.getElem_mem _);rw[List.take_succ_eq_append_getElem (by omega:k<l.length)];unfold joinS at ih ⊢;rw[List.map_append,List.map_singleton,join_snoc];rw[ba_size] at ih ⊢;have e1:=bs_len l[k];have e2:=bs_len sep;rw[Nat.add_mul,Nat.one_mul];split
   ·omega
   ·rw[List.length_append,List.length_append]; omega
end Go.Proofs.Xd
end
section
namespace Go.Proofs.Xd
open Go Go.Proofs.Xv Go.Proofs.Xl
abbrev DTbl:=List Int×List Int×List Int
abbrev DArc:=Int×Int×Int×Int×List DTbl×List DTbl
abbrev DPin:=ByteArray×Int×Int×Bool
abbrev DInst:=ByteArray×Int×List Int
abbrev DPort:=ByteArray×Int×Int
abbrev DWire:=List Int×List Int×List Int×List Int
def inB(x l h:Int):Bool:=decide (l<=x)&&decide (x<=h)
theorem inB_iff{x l h:Int}:inB x l h=true↔l<=x/\x<=h:=by simp[inB]
def incB(xs:List Int):Bool:=!(List.range xs.length).any fun i=>decide (0<i)&&decide (xs.getD i 0<=xs.getD (i-1) 0)
def isAxis(xs:List Int):Bool:=decide (1<=xs.length)&&decide (xs.length<=4)&&xs.all (inB · 0 100000)&&incB xs
def isTable(t:DTbl):Bool:=isAxis t.1&&isAxis t.2.1&&decide (t.2.2.length=t.1.length*t.2.1.length)&&t.2.2.all (inB · (-1000000) 1000000)
theorem axis_len{xs:List Int}(h:isAxis xs=true):1<=xs.length/\xs.length<=4:=by
 simp only[isAxis,ba,dq] at h;exact⟨h.1.1.1,h.1.1.2⟩
theorem table_len{t:DTbl}(h:isTable t=true):1<=t.1.length/\t.1.length<=4/\1<=t.2.1.length/\t.2.1.length<=4/\t.2.2.length=t.1.length*t.2.1.length/\1<=t.2.2.length/\t.2.2.length<=16:=by
 simp only[isTable,ba,dq] at h;obtain⟨⟨⟨h1,h2⟩,h3⟩,_⟩:=h;obtain⟨a1,a2⟩:=axis_len h1;obtain⟨b1,b2⟩:=axis_len h2;have c1:1*1<=t.1.length*t.2.1.length:=Nat.mul_le_mul a1 b1;have c2:t.1.length*t.2.1.length<=4*4:=Nat.mul_le_mul a2 b2;exact⟨a1,a2,b1,b2,h3,by omega,by omega⟩
def minN(xs:List Int):Int:=fN (fun i m=>min m (xs.getD (i+1) 0)) (xs.length-1) (xs.getD 0 0)
def areTables(l:List DTbl)(p:Bool):Bool:=decide (l.length=2)&&l.all fun t=>isTable t&&!(p&&decide (minN t.2.2<0))
theorem all_any{α:Type}(l:List α)(p:α->Bool):(!l.any fun x=>!p x)=l.all p:=by
 induction l with
 | nil=>rfl
 | cons a r ih=>simp only[List.any_cons,List.all_cons,Bool.not_or,Bool.not_not,ih]
end Go.Proofs.Xd
end
section
namespace Go.Proofs.YtfggbbnnalflhaaGreatDoor
open Go Go.Proofs Go.Proofs.Xv Go.Proofs.Xl Go.Proofs.Xd
theorem r130(a b c:Int):u130 a b c=some (inB a b c):=rfl
theorem r105(a b c:Int):u105 a b c=some (inB a b c):=rfl
theorem r181(a b c:Int):u181 a b c=some (!inB a b c):=by
 unfold u181;rw[r130,gP ⟨rfl,trivial⟩,vS]
theorem r177c181(xs:List Int)(b c:Int)(h:xs.length<=9223372036854775807):u177c181 xs (b,c)=some (xs.any fun x=>!inB x b c):=by
 have h1:u220c181 xs (b,c)=_:=idx_some h (fun i=>!inB (xs.getD i 0) b c) (fun g i hi=>idx_el hi h (r181 _ _ _)) (fun g=>aE);have:=has_some h1;rw[any_getD xs 0 (fun x=>!inB x b c)] at this;exact this
theorem r132(xs:List Int)(b c:Int)(h:xs.length<=9223372036854775807):u132 xs b c=some (xs.all (inB · b c)):=by
 unfold u132;rw[r177c181 _ _ _ h,gP ⟨rfl,trivial⟩,vS,all_any]
theorem r315(xs:List Int)(h:xs.length<=9223372036854775807)(h1:1<=xs.length):u315 xs=some (incB xs):=by
 have key:=lp_allK h (fun i=>decide (xs.getD i 0<=xs.getD (i-1) 0)) (some false) (e:=some true) (F:=u315L1 xs) 1 h1 (fun g i hk hi=>by
  have e:((i:Int)-1).toNat=i-1:=by omega
  refine(all_el hi h ⟨oo,oo,oo,trivial⟩).trans ?_;rw[e]; rfl) (fun g=>aE)
 refine key.trans ?_;unfold incB
 grind
theorem r313(xs:List Int)(h:xs.length<=9223372036854775807):u313 xs=some (isAxis xs):=by
 unfold u313;have e:u79 xs=some (xs.length:Int):=rfl;have ed:∀a:Bool,(a=true->1<=xs.length)->(a=true/\True->(u315 xs).isSome=true):=fun a ha hc=>by grind[r315]
 rw[e,vS,r130,vS,r132 xs 0 100000 h,vS,gP ⟨rfl,rfl,fun _=>rfl,ed _ (fun hc=>by
  grind[inB]),trivial⟩]
 congr 1;unfold isAxis;by_cases h1:1<=xs.length
 ·rw[r315 xs h h1,vS]
  grind[inB]
 grind[decide,inB]
theorem r311(xs:List Int)(h:xs.length<=9223372036854775807):u311 xs=some (isAxis xs):=by
 have key:=lp_all (n:=xs.length) h (fun i=>!inB (xs.getD i 0) 0 100000||decide (0<i)&&decide (xs.getD i 0<=xs.getD (i-1) 0)) (some false) (e:=u311J0 xs ()) (F:=u311L1 xs) (fun g i hi=>by
  have e:((i:Int)-1).toNat=i-1:=by omega
  have e2:decide ((0:Int) < (i:Int))=decide (0<i):=by rw[decide_eq_decide]; omega
  refine(all_el hi h ⟨oo,rfl,fun hc=>oo,fun hc=>⟨by have:=hc.1; simp at this; omega,by omega⟩,fun hc=>oo,trivial⟩).trans ?_;rw[e,r105,vS,e2]; rfl) (fun g=>aE)
 refine key.trans ?_;unfold isAxis u311J0;have e3:((List.range xs.length).any fun i=>!inB (xs.getD i 0) 0 100000||decide (0<i)&&decide (xs.getD i 0<=xs.getD (i-1) 0))=!(xs.all (inB · 0 100000)&&incB xs):=by
  rw[<- all_any,<- any_getD xs 0 (fun x=>!inB x 0 100000),incB,<- Bool.not_or,Bool.not_not];rw[Bool.eq_iff_iff,Bool.or_eq_true,List.any_eq_true,List.any_eq_true,List.any_eq_true];constructor
  ·rintro⟨i,h1,h2⟩;rcases Bool.or_eq_true _ _ ▸ h2 with h3 | h3
   ·exact .inl ⟨i,h1,h3⟩
   ·exact .inr ⟨i,h1,h3⟩
  ·rintro(⟨i,h1,h2⟩ | ⟨i,h1,h2⟩)
   ·exact⟨i,h1,by rw[h2]; rfl⟩
   ·exact⟨i,h1,by rw[h2,Bool.or_true]⟩
 rw[e3];cases hA:(xs.all (inB · 0 100000)&&incB xs) with
 | false=>grind
 | true =>
   rw[if_neg (by simp),Bool.and_assoc,hA,Bool.and_true];refine congrArg some ?_
   grind
theorem r305(t:Y291)(hw:wf y291 t):u305 t=some (isTable t):=by
 obtain⟨⟨h1,_⟩,⟨h2,_⟩,h3,_⟩:=hw;unfold u305;have hb:(isAxis t.1&&isAxis t.2.1)=true/\True->in64 ((t.1.length:Int)*(t.2.1.length:Int)):=fun hc=>by
  have hc:=hc.1;rw[ba] at hc;obtain⟨a1,a2⟩:=axis_len hc.1;obtain⟨b1,b2⟩:=axis_len hc.2;have c2:t.1.length*t.2.1.length<=4*4:=Nat.mul_le_mul a2 b2;have e:(t.1.length:Int)*(t.2.1.length:Int)=((t.1.length*t.2.1.length:Nat):Int):=by simp
  rw[e];exact oo
 rw[r313 _ h1,r313 _ h2,r132 _ _ _ h3,vS,vS,vS,gP ⟨rfl,fun _=>rfl,hb,fun _=>rfl,trivial⟩];congr 1
 grind[isTable]
theorem r302(t:Y291)(hw:wf y291 t):u302 t=some (isTable t):=by
 obtain⟨⟨h1,_⟩,⟨h2,_⟩,h3,_⟩:=hw;unfold u302;have hb:(!isAxis t.1||!isAxis t.2.1)=false/\True->in64 ((t.1.length:Int)*(t.2.1.length:Int)):=fun hc=>by
  have hc:=hc.1;simp only[Bool.or_eq_false_iff,Bool.not_eq_false'] at hc;obtain⟨a1,a2⟩:=axis_len hc.1;obtain⟨b1,b2⟩:=axis_len hc.2;have c2:t.1.length*t.2.1.length<=4*4:=Nat.mul_le_mul a2 b2;have e:(t.1.length:Int)*(t.2.1.length:Int)=((t.1.length*t.2.1.length:Nat):Int):=by simp
  rw[e];exact oo
 rw[r311 _ h1,r311 _ h2,vS,vS,gP ⟨rfl,fun _=>rfl,hb,trivial⟩];have key:=lp_all (n:=t.2.2.length) h3 (fun i=>!inB (t.2.2.getD i 0) (-1000000) 1000000) (some false) (e:=some true) (F:=u302L1 t) (fun g i hi=>all_el hi h3 ⟨oo,rfl,trivial⟩) (fun g=>aE);rw[key,any_getD t.2.2 0 (fun x=>!inB x (-1000000) 1000000)];have e:((t.2.2.length:Int) != (t.1.length:Int)*(t.2.1.length:Int))=!decide (t.2.2.length=t.1.length*t.2.1.length):=by
  rw[Bool.eq_iff_iff];simp only[bne_iff_ne,Bool.not_eq_true',decide_eq_false_iff_not,ne_eq];constructor
  ·intro h k; exact h (by exact_mod_cast k)
  ·intro h k; exact h (by exact_mod_cast k)
 grind[isTable,all_any,isAxis,decide,inB]
end Go.Proofs.YtfggbbnnalflhaaGreatDoor
end
section
namespace Go.Proofs.Xd
open Go Go.Proofs.Sv Go.Proofs.Xv Go.Proofs.Xl
theorem nmTo_any(s:ByteArray):∀n,nmTo s n=!(List.range n).any fun i=>!chB (byteAt s i) i
 | 0=>rfl
 | n+1=>by
   rw[nmTo,nmTo_any s n,List.range_succ,List.any_append,Bool.not_or];simp
def dupB(f:Nat->ByteArray)(i:Nat):Bool:=(List.range i).any fun k=>decide (f k=f i)
def namesB(n:Nat)(f:Nat->ByteArray):Bool:=!(List.range n).any fun i=>!nmB (f i)||dupB f i
theorem namesB_congr{n:Nat}{f g:Nat->ByteArray}(h:∀i,i<n->f i=g i):namesB n f=namesB n g:=by
 unfold namesB;congr 1;refine any_congr' fun i hi=>?_;rw[h i hi];congr 1;unfold dupB;refine any_congr' fun k hk=>?_;rw[h i hi,h k (by omega)]
theorem take_any(l:List ByteArray)(d:ByteArray)(i:Nat)(h:i<l.length):((l.take i).any fun y=>decide (l.getD i d=y))=dupB (fun k=>l.getD k d) i:=by
 have hl:(l.take i).length=i:=by rw[List.length_take]; omega
 rw[<- any_getD (l.take i) d (fun y=>decide (l.getD i d=y)),hl];unfold dupB;refine any_congr' fun k hk=>?_;have:(l.take i).getD k d=l.getD k d:=by
  rw[gq,gq,List.getElem?_take_of_lt hk]
 rw[this,decide_eq_decide];exact eq_comm
theorem namesB_iff{n:Nat}{f:Nat->ByteArray}:namesB n f=true↔∀i,i<n->nmB (f i)=true/\dupB f i=false:=by
 unfold namesB;rw[Bool.not_eq_true',<- Bool.not_eq_true,List.any_eq_true];constructor
 ·intro h i hi;have:¬(!nmB (f i)||dupB f i)=true:=fun hc=>h ⟨i,List.mem_range.2 hi,hc⟩;simpa using this
 ·rintro h ⟨i,h1,h2⟩;obtain⟨h3,h4⟩:=h i (List.mem_range.1 h1);rw[h3,h4] at h2;cases h2
theorem getD_map'{α β:Type}(f:α->β)(l:List α)(i:Nat)(d:α)(e:β)(h:i<l.length):(l.map f).getD i e=f (l.getD i d):=by
 rw[gq,gq,List.getElem?_map,List.getElem?_eq_getElem h]; rfl
theorem range_map{α β:Type}(l:List α)(d:α)(f:α->β):(List.range l.length).map (fun i=>f (l.getD i d))=l.map f:=by
 apply List.ext_getElem?;intro i;rw[List.getElem?_map,List.getElem?_map];by_cases h:i<l.length
 ·rw[List.getElem?_range h,List.getElem?_eq_getElem h];show some (f (l.getD i d))=some (f l[i]);rw[gq,List.getElem?_eq_getElem h]; rfl
 ·rw[List.getElem?_eq_none (by simpa using h),List.getElem?_eq_none (by omega)]; rfl
end Go.Proofs.Xd
end
section
namespace Go.Proofs.YtfggbbnnalflhaaGreatDoor
open Go Go.Proofs Go.Proofs.Sv Go.Proofs.Xv Go.Proofs.Xl Go.Proofs.Xd
theorem r108(s:ByteArray)(h:s.size<=9223372036854775807):u108 s=some (nmB s):=by
 have key:=lp_all (n:=s.size) h (fun i=>!chB (byteAt s i) i) (some false) (e:=u108J0 s ()) (F:=u108L1 s) (fun g i hi=>by
  refine(all_el2 hi h ⟨oo,fun _=>oo,trivial⟩ ⟨oo,fun _=>oo,trivial⟩).trans ?_;have e2:decide ((0:Int) < (i:Int))=decide (0<i):=by rw[decide_eq_decide]; omega
  have e3:((i:Int)).toNat=i:=rfl;rw[e2,e3];unfold chB lowB digB;rw[Bool.not_or]) (fun g=>aE)
 refine key.trans ?_;unfold nmB u108J0;rw[nmTo_any];cases(List.range s.size).any fun i=>!chB (byteAt s i) i
 ·rfl
 ·rfl
theorem r149(s:ByteArray)(h:s.size<=9223372036854775807):u149 s=some (nmB s):=by
 unfold u149;have t1:u191 s ⟨#[97,98,99,100,101,102,103,104,105,106,107,108,109,110,111,112,113,114,115,116,117,118,119,120,121,122,48,49,50,51,52,53,54,55,56,57]⟩=some ⟨(Lib.trimS s.data.toList low36).toArray⟩:=if_pos ⟨by decide,by decide⟩;have t2:∀c,u192 ⟨#[97,98,99,100,101,102,103,104,105,106,107,108,109,110,111,112,113,114,115,116,117,118,119,120,121,122]⟩ c=some (Lib.indexByte low26 c.toNat.toUInt8):=fun _=>rfl;rw[t1,t2,r130,vS,vS,vS,gP ⟨rfl,fun _=>rfl,fun hc=>⟨by decide,by
  have:=hc.1;rw[ba,inB_iff] at this;omega⟩,fun _=>rfl,trivial⟩,lE]
 refine congrArg some ?_;show(inB (s.size:Int) 1 8&&decide ((⟨(Lib.trimS s.data.toList low36).toArray⟩:ByteArray)=⟨#[]⟩)&&decide (0<=Lib.indexByte low26 (byteAt s (Int.toNat 0)).toNat.toUInt8))=nmB s;by_cases hb:1<=s.size/\s.size<=8
 ·rw[nmB_trim s hb.1 hb.2];have e1:inB (s.size:Int) 1 8=true:=by rw[inB_iff]; omega
  have e2:decide ((⟨(Lib.trimS s.data.toList low36).toArray⟩:ByteArray)=⟨#[]⟩)=(Lib.trimS s.data.toList low36==[]):=by
   rw[Bool.eq_iff_iff,dq,beq_iff_eq];constructor
   ·intro h;injection h with h;have:=congrArg Array.toList h;simpa using this
   ·intro h; rw[h]
  rw[e1,e2,Bool.true_and];rfl
 ·have e1:inB (s.size:Int) 1 8=false:=by rw[<- Bool.not_eq_true,inB_iff]; omega
  have e2:nmB s=false:=by
   rw[<- Bool.not_eq_true];intro hc;simp only[nmB,ba,dq] at hc;omega
  rw[e1,e2]; rfl
theorem r219(xs:List ByteArray)(x:ByteArray)(h:xs.length<=9223372036854775807):u219 xs x=some (xs.any fun y=>decide (x=y)):=by
 have h1:u133 xs x=_:=idx_some h (fun i=>decide (x=xs.getD i (dflt .str))) (fun g i hi=>by
  refine(if_pos (by simpa using hi)).trans ?_;rw[gP ⟨oo,trivial⟩,gP ⟨oo,trivial⟩];rfl) (fun g=>aE)
 have:=has_some h1;rw[any_getD xs (dflt .str) (fun y=>decide (x=y))] at this;exact this
theorem r176(xs:List ByteArray)(hw:wf (.sl .str) xs):u176 xs=some (namesB xs.length fun i=>xs.getD i (dflt .str)):=by
 have h:=hw.1;have key:=lp_all (n:=xs.length) h (fun i=>!nmB (xs.getD i (dflt .str))||dupB (fun i=>xs.getD i (dflt .str)) i) (some false) (e:=some true) (F:=u176L1 xs) (fun g i hi=>by
  have hs:=wf_el (d:=dflt .str) hi hw;have hl:(xs.take i).length<=9223372036854775807:=by rw[List.length_take]; omega
  have e1:=r149 _ hs;have e2:=r219 (xs.take i) (xs.getD i (dflt .str)) hl;rw[take_any xs (dflt .str) i hi] at e2;have e3:((i:Int)).toNat=i:=rfl;refine(if_pos (by simpa using hi)).trans ?_;rw[e3,e1,e2,vS,vS,gP ⟨oo,trivial⟩,gP ⟨rfl,fun _=>⟨by omega,by omega,by omega⟩,fun _=>rfl,trivial⟩,gP ⟨oo,trivial⟩]) (fun g=>aE)
 refine key.trans ?_;unfold namesB;cases(List.range xs.length).any fun i=>!nmB (xs.getD i (dflt .str))||dupB (fun i=>xs.getD i (dflt .str)) i <;> rfl
theorem r117(xs:List ByteArray)(hw:wf (.sl .str) xs):u117 xs=some (namesB xs.length fun i=>xs.getD i (dflt .str)):=by
 have h:=hw.1;have key:=lp_all (n:=xs.length) h (fun i=>!nmB (xs.getD i (dflt .str))||dupB (fun i=>xs.getD i (dflt .str)) i) (some false) (e:=some true) (F:=u117L1 xs) (fun g i hi=>by
  have hs:=wf_el (d:=dflt .str) hi hw;have e1:=r108 _ hs;have e3:((i:Int)).toNat=i:=rfl;have inner:=lp_all (n:=i) (by omega) (fun k=>decide (xs.getD k (dflt .str)=xs.getD i (dflt .str))) (some false) (e:=g ((i:Int)+1)) (F:=u117L3 xs (i:Int) g) (fun g3 k hk=>by
   refine(all_el hk (by omega) ⟨oo,oo,trivial⟩).trans ?_;rfl) (fun g3=>by
   refine aE.trans ?_;unfold u117J2;exact gP ⟨oo,trivial⟩)
  refine(if_pos (by simpa using hi)).trans ?_;rw[e3,e1,vS,gP ⟨oo,rfl,trivial⟩,inner];unfold dupB;cases nmB (xs.getD i (dflt .str)) <;> cases(List.range i).any fun k=>decide (xs.getD k (dflt .str)=xs.getD i (dflt .str)) <;> rfl) (fun g=>aE)
 refine key.trans ?_;unfold namesB;cases(List.range xs.length).any fun i=>!nmB (xs.getD i (dflt .str))||dupB (fun i=>xs.getD i (dflt .str)) i <;> rfl
theorem r306(xs:List Int)(h:xs.length<=9223372036854775807)(h1:1<=xs.length):u306 xs=some (minN xs):=by
 unfold u306;rw[if_neg (by simp; omega)];unfold u306J0;rw[gP ⟨oo,trivial⟩];have key:=lF (n:=xs.length-1) (by omega) (fun i (m:Int)=>(m,((i+1:Nat):Int))) (fun i m=>min m (xs.getD (i+1) 0)) (fun _ _=>True) (J:=fun m=>some m) (F:=u306L2 xs) (fun g i s hi _=>by
  refine(if_pos (by simp; omega)).trans ?_;rw[gP ⟨oo,trivial⟩,gP ⟨oo,trivial⟩];rfl) (fun _ _ _ _=>trivial) (fun g s _=>by
  have e:xs.length-1+1=xs.length:=by omega
  show u306L2 xs g (s,((xs.length-1+1:Nat):Int))=some s;rw[e];exact aE) (xs.getD 0 0) trivial
 exact key
theorem r304(t:Y291)(p:Bool)(hw:wf y291 t):u304 t p=some (!isTable t||p&&decide (minN t.2.2<0)):=by
 unfold u304;have hv:p=true/\(!isTable t)=false/\True->(u306 t.2.2).isSome=true:=fun hc=>by
  have h2:isTable t=true:=by simpa using hc.2.1
  rw[r306 _ hw.2.2.1 (table_len h2).2.2.2.2.2.1]; rfl
 rw[r305 t hw,vS,gP ⟨rfl,hv,trivial⟩,lE];refine congrArg some ?_;cases hT:isTable t with
 | false=>rfl
 | true=>rw[r306 _ hw.2.2.1 (table_len hT).2.2.2.2.2.1,vS]
theorem r289(l:List Y291)(p:Bool)(hw:wf (.sl y291) l):u289 l p=some (areTables l p):=by
 have h:=hw.1;have h1:u312c304 l p=_:=idx_some h (fun i=>!isTable (l.getD i (dflt y291))||p&&decide (minN (l.getD i (dflt y291)).2.2<0)) (fun g i hi=>idx_el hi h (r304 _ _ (wf_el hi hw))) (fun g=>aE);have h2:u303c304 l p=_:=has_some h1;rw[any_getD l (dflt y291) (fun t=>!isTable t||p&&decide (minN t.2.2<0))] at h2;unfold u289;rw[h2,vS,gP ⟨fun _=>rfl,trivial⟩];refine congrArg some ?_;unfold areTables;have e:((l.length:Int)==2)=decide (l.length=2):=by
  rw[Bool.eq_iff_iff,beq_iff_eq,dq]; omega
 rw[e,<- all_any];congr 3;funext t;rw[Bool.not_and,Bool.not_not]
theorem fst_fold(xs:List Int):∀n,(fN (fun i (s:Int×Int)=>(min s.1 (xs.getD (i+1) 0),max s.2 (xs.getD (i+1) 0))) n (xs.getD 0 0,xs.getD 0 0)).1=fN (fun i m=>min m (xs.getD (i+1) 0)) n (xs.getD 0 0)
 | 0=>rfl
 | n+1=>by rw[fN,fN,fst_fold xs n]
theorem r286(t:Y291)(hw:wf y291 t):∃l,u286 t=some (if isTable t=true then((minN t.2.2,l),0) else((0,0),1)):=by
 unfold u286;rw[r302 t hw,vS,gP ⟨rfl,trivial⟩];cases hT:isTable t with
 | false=>exact⟨0,rfl⟩
 | true =>
   have h1:=(table_len hT).2.2.2.2.2.1;have h:=hw.2.2.1;have key:=lF (n:=t.2.2.length-1) (by omega) (fun i (s:Int×Int)=>(((i+1:Nat):Int),s.1,s.2)) (fun i s=>(min s.1 (t.2.2.getD (i+1) 0),max s.2 (t.2.2.getD (i+1) 0))) (fun _ _=>True) (J:=fun s=>some ((s.1,s.2),(0:Int))) (F:=u286L1 t) (fun g i s hi _=>by
    refine(if_pos (by simp; omega)).trans ?_;rw[gP ⟨oo,trivial⟩,gP ⟨oo,trivial⟩,gP ⟨oo,trivial⟩];rfl) (fun _ _ _ _=>trivial) (fun g s _=>by
    have e:t.2.2.length-1+1=t.2.2.length:=by omega
    show u286L1 t g (((t.2.2.length-1+1:Nat):Int),s.1,s.2)=_;rw[e];exact aE) (t.2.2.getD 0 0,t.2.2.getD 0 0) trivial
   rw[if_neg (by simp),gP ⟨oo,oo,trivial⟩];rw[fst_fold] at key;exact⟨_,key⟩
theorem r256(l:List Y291)(p:Bool)(hw:wf (.sl y291) l):u256 l p=some (areTables l p):=by
 unfold u256;have e:((l.length:Int) != 2)=!decide (l.length=2):=by
  rw[Bool.eq_iff_iff]; simp; omega
 rw[e];unfold areTables;by_cases h2:l.length=2
 ·have key:=lp_all (n:=2) (by decide) (fun i=>!isTable (l.getD i (dflt y291))||p&&decide (minN (l.getD i (dflt y291)).2.2<0)) (some false) (e:=some true) (F:=u256L1 p l) (fun g i hi=>by
   obtain⟨m,hm⟩:=r286 (l.getD i (dflt y291)) (wf_el (by omega) hw);have e3:((i:Int)).toNat=i:=rfl;refine(if_pos (by simp; omega)).trans ?_;rw[e3,hm,vS,gP ⟨oo,rfl,trivial⟩,lE,gP ⟨oo,trivial⟩];cases isTable (l.getD i (dflt y291)) <;> rfl) (fun g=>by
   unfold u256L1;exact if_neg (by decide))
  rw[decide_eq_true h2,if_neg (by simp)];refine key.trans ?_;have:=any_getD l (dflt y291) (fun t=>!isTable t||p&&decide (minN t.2.2<0));rw[h2] at this;rw[this,<- all_any,Bool.true_and];have e5:(fun t:Y291=>!(isTable t&&!(p&&decide (minN t.2.2<0))))=fun t=>!isTable t||p&&decide (minN t.2.2<0):=by
   funext t; rw[Bool.not_and,Bool.not_not]
  rw[e5];cases l.any fun t=>!isTable t||p&&decide (minN t.2.2<0) <;> rfl
 ·rw[decide_eq_false h2]; rfl
end Go.Proofs.YtfggbbnnalflhaaGreatDoor
end
section
namespace Go.Proofs.Xd
open Go Go.Proofs.Sv Go.Proofs.Xv Go.Proofs.Xl
def pinB(n:Nat)(q:DPin)(i:Nat):Bool:=inB q.2.2.1 0 500&&(if i+1=n then q.2.1==2&&q.2.2.1==0&&!q.2.2.2 else q.2.1==1)
def pinsOk(n:Nat)(p:Nat->DPin):Bool:=decide (2<=n)&&decide (n<=5)&&namesB n (fun i=>(p i).1)&&!(List.range n).any fun i=>!pinB n (p i) i
def clkN(n:Nat)(p:Nat->DPin):Int:=fN (fun i s=>if(p i).2.2.2=true then s+1 else s) n 0
def clkI(n:Nat)(p:Nat->DPin):Int:=match(List.range n).find? (fun i=>(p i).2.2.2) with | some i=>(i:Int) | none => -1
def dupA(a:Nat->DArc)(i:Nat):Bool:=(List.range i).any fun k=>(a k).1==(a i).1&&(a k).2.1==(a i).2.1&&(a k).2.2.1==(a i).2.2.1
def isArcS(n:Nat)(p:Nat->DPin)(a:DArc):Bool :=
 inB a.2.1 0 ((n:Int)-1-1)&&inB a.2.2.1 0 ((n:Int)-1) &&
 if a.1=1 then !(p a.2.1.toNat).2.2.2&&a.2.2.1==(n:Int)-1&&inB a.2.2.2.1 1 3&&areTables a.2.2.2.2.1 true&&areTables a.2.2.2.2.2 true
 else if a.1=2∨a.1=3 then(p a.2.1.toNat).2.2.2&&a.2.2.1==(n:Int)-1&&a.2.2.2.1==0&&areTables a.2.2.2.2.1 true&&areTables a.2.2.2.2.2 true
 else if a.1=4∨a.1=5 then(p a.2.1.toNat).2.2.2&&decide (a.2.2.1 < (n:Int)-1)&&!(p a.2.2.1.toNat).2.2.2&&a.2.2.2.1==0&&areTables a.2.2.2.2.1 false&&(a.2.2.2.2.2.length:Int)==0
 else false
def isArcI(n:Nat)(p:Nat->DPin)(a:DArc):Bool :=
 if a.1=4∨a.1=5 then a.2.2.2.1==0&&(a.2.2.2.2.2.length:Int)==0&&areTables a.2.2.2.2.1 false&&a.2.1==clkI n p&&decide (0<=a.2.1)&&inB a.2.2.1 0 ((n:Int)-1-1)&&a.2.2.1 != a.2.1
 else areTables a.2.2.2.2.1 true&&areTables a.2.2.2.2.2 true&&a.2.2.1==(n:Int)-1&&inB a.2.1 0 ((n:Int)-1-1) &&
  if a.1=1 then !(p a.2.1.toNat).2.2.2&&inB a.2.2.2.1 1 3
  else if a.1=2∨a.1=3 then(p a.2.1.toNat).2.2.2&&a.2.2.2.1==0
  else false
theorem clkN_le(p:Nat->DPin):∀n,0<=clkN n p/\clkN n p<=n
 | 0=>⟨Int.le_refl _,Int.le_refl _⟩
 | n+1=>by
   have:=clkN_le p n
   grind[clkN,fN]
theorem clkN_one{p:Nat->DPin}:∀{n i:Nat},i<n->(p i).2.2.2=true->1<=clkN n p
 | n+1,i,hi,h=>by
   have h0:=(clkN_le p n).1;have ih:i<n->1<=clkN n p:=fun h'=>clkN_one h' h;unfold clkN at *
   rw[fN]
   grind
theorem clkN_two{p:Nat->DPin}:∀{n i j:Nat},i<j->j<n->(p i).2.2.2=true->(p j).2.2.2=true->2<=clkN n p
 | n+1,i,j,hij,hj,h,k=>by
   have ih:j<n->2<=clkN n p:=fun h'=>clkN_two hij h' h k;have h1:i<n->1<=clkN n p:=fun h'=>clkN_one h' h;unfold clkN at *
   rw[fN]
   grind
theorem clkI_eq{p:Nat->DPin}{n i:Nat}(hn:clkN n p<=1)(hi:i<n):(p i).2.2.2=decide (clkI n p=(i:Int)):=by
 unfold clkI;cases h:(List.range n).find? (fun i=>(p i).2.2.2) with
 | none =>
   grind
 | some j =>
   have h1:=List.find?_some h;have h2:=List.mem_range.1 (List.mem_of_find?_eq_some h);show _=decide ((j:Int)=(i:Int));by_cases e:j=i
   ·grind
   ·rw[decide_eq_false (by omega),<- Bool.not_eq_true];intro hc;rcases Nat.lt_or_gt_of_ne e with h' | h'
    ·have:=clkN_two (p:=p) h' hi h1 hc; omega
    simp_all
theorem clkI_lt{p:Nat->DPin}{n:Nat}:clkI n p<n:=by
 grind[clkI,List.range,List.mem_of_find?_eq_some]
theorem pins_last{p:Nat->DPin}{n:Nat}(h:pinsOk n p=true):2<=n/\n<=5/\(p (n-1)).2.2.2=false:=by
 grind[pinsOk,pinB]
theorem arc_eq{p:Nat->DPin}{n:Nat}(h:pinsOk n p=true)(hc:clkN n p<=1)(a:DArc):isArcI n p a=isArcS n p a:=by
 obtain⟨h2,h5,hl⟩:=pins_last h;obtain⟨kd,fr,to,se,de,sl⟩:=a;rw[Bool.eq_iff_iff];unfold isArcI isArcS;dsimp only;have hcl:∀x:Int,0<=x->x<=(n:Int)-1->(p x.toNat).2.2.2=decide (clkI n p=x):=fun x h0 h1=>by
  rw[clkI_eq hc (by omega)];rw[decide_eq_decide]; omega
 have hlast:clkI n p≠(n:Int)-1:=fun e=>by
  have:=hcl ((n:Int)-1) (by omega) (by omega);have e2:((n:Int)-1).toNat=n-1:=by omega
  rw[e2,hl,decide_eq_true e] at this;cases this
 have hlt:=clkI_lt (p:=p) (n:=n);by_cases k45:kd=4∨kd=5
 ·rw[if_pos k45,if_neg (by omega),if_neg (by omega),if_pos k45];simp only[ba,inB_iff,dq,beq_iff_eq,bne_iff_ne,Bool.not_eq_true']
  grind
 ·rw[if_neg k45];by_cases k1:kd=1
  ·rw[if_pos k1,if_pos k1];simp only[ba,inB_iff,beq_iff_eq]
   grind
  ·rw[if_neg k1,if_neg k1];by_cases k23:kd=2∨kd=3
   ·rw[if_pos k23,if_pos k23];simp only[ba,inB_iff,beq_iff_eq]
    grind
   grind
def hasB(m:Nat)(a:Nat->DArc)(k:Int):Bool:=(List.range m).any fun i=>(a i).1==k
def kindB(k:Int)(n:Nat)(p:Nat->DPin)(m:Nat)(a:Nat->DArc)(tr:List Int):Bool :=
 if k=1 then clkN n p==0&&(tr.length:Int)==1*2 ^ (n-1)&&tr.all (inB · 0 1)
 else if k=2 then clkN n p==1&&(tr.length:Int)==0&&!hasB m a 1&&!(hasB m a 2==hasB m a 3)
 else if k=3 then clkN n p==1&&(tr.length:Int)==0&&hasB m a 1&&hasB m a 2&&!hasB m a 3
 else false
theorem kind_clk{k:Int}{n:Nat}{p:Nat->DPin}{m:Nat}{a:Nat->DArc}{tr:List Int}(h:kindB k n p m a tr=true):clkN n p<=1:=by
 grind[kindB]
def arcsB(q:DArc->Bool)(m:Nat)(a:Nat->DArc):Bool:=decide (m<=8)&&!(List.range m).any fun i=>!q (a i)||dupA a i
def cellB(q:Nat->(Nat->DPin)->DArc->Bool)(nm:ByteArray)(k:Int)(n:Nat)(p:Nat->DPin)(m:Nat)(a:Nat->DArc)(tr:List Int)(lk en:Int):Bool :=
 nmB nm&&pinsOk n p&&arcsB (q n p) m a&&inB lk 0 100000&&inB en 0 100000&&kindB k n p m a tr
theorem cell_eq(nm:ByteArray)(k:Int)(n:Nat)(p:Nat->DPin)(m:Nat)(a:Nat->DArc)(tr:List Int)(lk en:Int):cellB isArcI nm k n p m a tr lk en=cellB isArcS nm k n p m a tr lk en:=by
 unfold cellB;cases hp:pinsOk n p with
 | false=>simp
 | true =>
   cases hk:kindB k n p m a tr with
   | false=>simp
   | true =>
     have:isArcI n p=isArcS n p:=funext fun x=>arc_eq hp (kind_clk hk) x;rw[this]
theorem take_anyG{α:Type}(l:List α)(d:α)(q:α->Bool)(i:Nat)(h:i<=l.length):(l.take i).any q=(List.range i).any fun k=>q (l.getD k d):=by
 have hl:(l.take i).length=i:=by rw[List.length_take]; omega
 rw[<- any_getD (l.take i) d q,hl];refine any_congr' fun k hk=>?_;rw[gq,gq,List.getElem?_take_of_lt hk]
theorem arcS_kind{n:Nat}{p:Nat->DPin}{a:DArc}(h:isArcS n p a=true):1<=a.1/\a.1<=5:=by
 grind[isArcS]
theorem pow_in{n:Nat}(h:n<=5) : -9223372036854775808<=(1:Int)*2 ^ (n-1)/\(1:Int)*2 ^ (n-1)<=9223372036854775807:=by
 have:∀k:Fin 6,-9223372036854775808<=(1:Int)*2 ^ (k.val-1)/\(1:Int)*2 ^ (k.val-1)<=9223372036854775807:=by decide
 exact this ⟨n,by omega⟩
def cntK(a:Nat->DArc)(k:Int)(m:Nat):Int:=fN (fun i s=>if(a i).1=k then s+1 else s) m 0
theorem cntK_le(a:Nat->DArc)(k:Int):∀m,0<=cntK a k m/\cntK a k m<=m
 | 0=>⟨Int.le_refl _,Int.le_refl _⟩
 | m+1=>by
   have:=cntK_le a k m
   grind[cntK,fN]
theorem cntK_has(a:Nat->DArc)(k:Int):∀m,hasB m a k=decide (0<cntK a k m)
 | 0=>rfl
 | m+1=>by
   have ih:=cntK_has a k m;have h0:=(cntK_le a k m).1
   grind[hasB,cntK,fN]
def kindsF(a:Nat->DArc)(i:Nat)(v:List Int):List Int:=v.set (a i).1.toNat (v.getD (a i).1.toNat 0+1)
theorem kinds_fold(a:Nat->DArc):∀m,(∀i,i<m->1<=(a i).1/\(a i).1<=5)->(fN (kindsF a) m (List.replicate 6 0)).length=6/\∀k:Nat,k<6->(fN (kindsF a) m (List.replicate 6 0)).getD k 0=cntK a k m
 | 0,_=>⟨by simp[fN],fun k hk=>by
   have:∀k:Fin 6,(List.replicate 6 (0:Int)).getD k.val 0=0:=by decide
   exact this ⟨k,hk⟩⟩
 | m+1,h=>by
   obtain⟨h1,h2⟩:=kinds_fold a m (fun i hi=>h i (by omega))
   grind[fN,kindsF,cntK]
end Go.Proofs.Xd
end
section
namespace Go.Proofs.YtfggbbnnalflhaaGreatDoor
open Go Go.Proofs Go.Proofs.Sv Go.Proofs.Xv Go.Proofs.Xl Go.Proofs.Xd
abbrev pinOf(c:Y115)(i:Nat):Y170:=c.2.2.1.getD i (dflt y170)
abbrev arcOf(c:Y115)(i:Nat):Y243:=c.2.2.2.1.getD i (dflt y243)
theorem r262(c:Y115)(hw:wf y115 c):u262 c=some ((c.2.2.1.length:Int)-1):=by
 have h:=hw.2.2.1.1;have e:u258 c.2.2.1=some (c.2.2.1.length:Int):=rfl;unfold u262;rw[e,vS,gP ⟨rfl,oo,trivial⟩,lE]
theorem r291(c:Y115)(hw:wf y115 c)(x:Int):u291 c x=some (inB x 0 ((c.2.2.1.length:Int)-1-1)):=by
 have h:=hw.2.2.1.1;unfold u291;rw[r262 c hw,vS,r130,vS,gP ⟨rfl,oo,rfl,trivial⟩]
theorem r290(c:Y115)(hw:wf y115 c):u290 c=some (clkI c.2.2.1.length (pinOf c)):=by
 have h:=hw.2.2.1.1;have h1:u307c308 c.2.2.1=_:=idx_some h (fun i=>(pinOf c i).2.2.2) (fun g i hi=>idx_el hi h rfl) (fun g=>aE);unfold u290;rw[h1,vS,gP ⟨rfl,trivial⟩,lE];rfl
theorem r263(c:Y115)(hw:wf y115 c)(k:Int):u263 c k=some (hasB c.2.2.2.1.length (arcOf c) k):=by
 have h:=hw.2.2.2.1.1;have h1:u292c293 c.2.2.2.1 k=_:=idx_some h (fun i=>(arcOf c i).1==k) (fun g i hi=>idx_el hi h rfl) (fun g=>aE);have h2:u260c293 c.2.2.2.1 k=_:=has_some h1;unfold u263;rw[h2,vS,gP ⟨rfl,trivial⟩];rfl
theorem r259(c:Y115)(a:Y243)(hc:wf y115 c)(ha:wf y243 a):u259 c a=some (isArcI c.2.2.1.length (pinOf c) a):=by
 obtain⟨_,_,_,_,hd,hs⟩:=ha;have ek:u288 a.1=some (a.1==4||a.1==5):=rfl;have hg:inB a.2.1 0 ((c.2.2.1.length:Int)-1-1)=true->ix a.2.1 c.2.2.1.length:=fun h=>by
  rw[inB_iff] at h; exact oo
 unfold u259;rw[ek,r289 _ _ hd,r289 _ _ hd,r289 _ _ hs,r290 c hc,r291 c hc,r291 c hc,r262 c hc]
 repeat rw[vS]
 rw[gP ⟨rfl,trivial⟩];unfold isArcI;by_cases k45:a.1=4∨a.1=5
 ·have e1:(a.1==4||a.1==5)=true:=by simpa using k45
  rw[if_pos e1,if_pos k45,gP ⟨fun _=>rfl,fun _=>rfl,fun _=>rfl,trivial⟩,lE]
 ·have e1:(a.1==4||a.1==5)=false:=by
   rw[<- Bool.not_eq_true]; simpa using k45
  rw[e1,if_neg (by simp),if_neg k45,gP ⟨rfl,fun _=>rfl,fun _=>rfl,fun _=>rfl,trivial⟩,lE];by_cases hgo:areTables a.2.2.2.2.1 true=true/\areTables a.2.2.2.2.2 true=true/\a.2.2.1=(c.2.2.1.length:Int)-1/\inB a.2.1 0 ((c.2.2.1.length:Int)-1-1)=true
  ·obtain⟨g1,g2,g3,g4⟩:=hgo;have e3:(areTables a.2.2.2.2.1 true&&areTables a.2.2.2.2.2 true&&a.2.2.1==(c.2.2.1.length:Int)-1&&inB a.2.1 0 ((c.2.2.1.length:Int)-1-1))=true:=by
    rw[g1,g2,g4,g3]; simp
   have e2:(!areTables a.2.2.2.2.1 true||!areTables a.2.2.2.2.2 true||a.2.2.1 != (c.2.2.1.length:Int)-1||!inB a.2.1 0 ((c.2.2.1.length:Int)-1-1))=false:=by
    rw[g1,g2,g4,g3]; simp
   rw[e3,Bool.true_and];refine(if_neg (by rw[e2]; simp)).trans ?_;by_cases k1:a.1=1
   ·rw[if_pos (beq_iff_eq.2 k1),if_pos k1,r130,gP ⟨hg g4,fun _=>rfl,trivial⟩];rfl
   ·rw[if_neg (by grind),if_neg k1];have j:∀b,u259J0 c a b=some (if b=true then(pinOf c a.2.1.toNat).2.2.2&&a.2.2.2.1==0 else false):=fun b=>by
     unfold u259J0;cases b with
     | false=>rfl
     | true=>rw[if_pos rfl,if_pos rfl,gP ⟨hg g4,trivial⟩]
    grind
  grind
theorem r212(c:Y115)(a:Y243)(hc:wf y115 c)(ha:wf y243 a):u212 c a=some (isArcS c.2.2.1.length (pinOf c) a):=by
 obtain⟨_,_,_,_,hd,hs⟩:=ha;have h:=hc.2.2.1.1;unfold u212;rw[gP ⟨oo,trivial⟩,r105,r105]
 repeat rw[vS]
 rw[gP ⟨oo,rfl,fun _=>rfl,trivial⟩];unfold isArcS;by_cases hgo:inB a.2.1 0 ((c.2.2.1.length:Int)-1-1)=true/\inB a.2.2.1 0 ((c.2.2.1.length:Int)-1)=true
 ·obtain⟨g1,g2⟩:=hgo;have b1:=inB_iff.1 g1;have b2:=inB_iff.1 g2;rw[g1,g2,if_neg (by simp),gP ⟨oo,trivial⟩,lE,Bool.true_and,Bool.true_and];by_cases k1:a.1=1
  ·rw[if_pos (beq_iff_eq.2 k1),if_pos k1,r105,r256 _ _ hd,r256 _ _ hs,gP ⟨fun _=>rfl,fun _=>rfl,fun _=>rfl,trivial⟩];rfl
  ·rw[if_neg (by grind),if_neg k1];have j1:∀b,u212J1 (pinOf c a.2.1.toNat) a c b=some (if b=true then(pinOf c a.2.1.toNat).2.2.2&&decide (a.2.2.1 < (c.2.2.1.length:Int)-1)&&!(pinOf c a.2.2.1.toNat).2.2.2&&a.2.2.2.1==0&&areTables a.2.2.2.2.1 false&&(a.2.2.2.2.2.length:Int)==0 else false):=fun b=>by
    unfold u212J1;cases b with
    | false=>rfl
    | true =>
      rw[if_pos rfl,if_pos rfl,r256 _ _ hd,gP ⟨fun _=>oo,fun _=>rfl,trivial⟩];rfl
   have j0:∀b,u212J0 (pinOf c a.2.1.toNat) a c b=some (if b=true then(pinOf c a.2.1.toNat).2.2.2&&a.2.2.1==(c.2.2.1.length:Int)-1&&a.2.2.2.1==0&&areTables a.2.2.2.2.1 true&&areTables a.2.2.2.2.2 true else if a.1=4∨a.1=5 then(pinOf c a.2.1.toNat).2.2.2&&decide (a.2.2.1 < (c.2.2.1.length:Int)-1)&&!(pinOf c a.2.2.1.toNat).2.2.2&&a.2.2.2.1==0&&areTables a.2.2.2.2.1 false&&(a.2.2.2.2.2.length:Int)==0 else false):=fun b=>by
    unfold u212J0;cases b with
    | true =>
      rw[if_pos rfl,if_pos rfl,r256 _ _ hd,r256 _ _ hs,gP ⟨fun _=>rfl,fun _=>rfl,trivial⟩];rfl
    | false =>
      grind
   grind
 grind
theorem wf_pins{c:Y115}(hw:wf y115 c):wf (.sl y170) c.2.2.1:=hw.2.2.1
theorem wf_arcs{c:Y115}(hw:wf y115 c):wf (.sl y243) c.2.2.2.1:=hw.2.2.2.1
theorem names_map{α:Type}(l:List α)(f:α->ByteArray)(d:α)(e:ByteArray):namesB (l.map f).length (fun i=>(l.map f).getD i e)=namesB l.length fun i=>f (l.getD i d):=by
 grind[List.length_map,namesB_congr,hi,getD_map']
theorem wf_map{α:Type}{l:List α}{f:α->ByteArray}(h:l.length<=9223372036854775807)(hf:∀x∈l,(f x).size<=9223372036854775807):wf (.sl .str) (l.map f):=by
 refine⟨by grind,fun x hx=>?_⟩;obtain⟨y,hy,rfl⟩:=List.mem_map.1 hx;exact hf y hy
def gath(f:Nat->ByteArray)(i:Nat)(s:List ByteArray):List ByteArray:=s++[f i]
theorem gath_eq(f:Nat->ByteArray):∀n,fN (gath f) n []=(List.range n).map f
 | 0=>rfl
 | n+1=>by
   rw[fN,gath_eq f n,List.range_succ,List.map_append]; rfl
theorem gath_row{α:Type}(l:List α)(d:α)(f:α->ByteArray):fN (gath fun i=>f (l.getD i d)) l.length []=l.map f:=by
 rw[gath_eq,range_map]
theorem app_ok{n i b:Nat}(h:i<n)(hn:n<=1048576)(hb:b<=4096):i+1<=9223372036854775807/\(i+1)*b<=140737488355328:=by
 have:(i+1)*b<=1048576*4096:=Nat.mul_le_mul (by omega) hb;exact oo
theorem r216(l:List Y170)(hw:wf (.sl y170) l)(hm:l.length<=1048576):u216 l=some (pinsOk l.length fun i=>l.getD i (dflt y170)):=by
 have h:=hw.1;have key:=lp_foldE (n:=l.length) h (fun i (s:List ByteArray)=>(s,(i:Int))) (gath fun i=>(l.getD i (dflt y170)).1) (fun i=>!pinB l.length (l.getD i (dflt y170)) i) (some false) (fun i s=>s.length=i) (J:=u216J0 l) (F:=u216L1 l) (fun g i s hi hI=>by
  refine(if_pos (by simpa using hi)).trans ?_;have e3:((i:Int)).toNat=i:=rfl;have hs:(s++[(l.getD i (dflt y170)).1]).length<=9223372036854775807:=by rw[List.length_append]; show s.length+1<=_; omega
  have ha:=app_ok (b:=16) hi hm (by decide);have j2:∀s',u216J2 (i:Int) g s'=g (s',((i+1:Nat):Int)):=fun s'=>gP ⟨oo,trivial⟩;rw[e3,gP ⟨oo,trivial⟩,lE,gP ⟨⟨by show s.length+1<=_; omega,by show(s.length+1)*16<=_; omega⟩,trivial⟩,gP ⟨oo,trivial⟩,j2,r130,gP ⟨fun _=>rfl,trivial⟩,vS];unfold pinB gath;dsimp only;by_cases hl:i+1=l.length
  ·have e1:((i:Int)==(l.length:Int)-1)=true:=by rw[beq_iff_eq]; omega
   rw[if_pos e1,if_pos hl];generalize l.getD i (dflt y170)=q;have n1:(q.2.1 != 2)=!(q.2.1==2):=rfl;have n2:(q.2.2.1 != 0)=!(q.2.2.1==0):=rfl
   grind[inB]
  grind) (fun i s hi hI _=>by grind[gath,List.length_append]) (fun g s _=>aE) [] rfl
 refine key.trans ?_;rw[gath_row];have hn:wf (.sl .str) (l.map fun q:Y170=>q.1):=wf_map h fun x hx=>(hw.2 x hx).1;have e5:u258 l=some (l.length:Int):=rfl;have e7:∀v:List ByteArray,wf (.sl .str) v->u216J0 l v=some (inB (l.length:Int) 2 5&&namesB v.length fun i=>v.getD i (dflt .str)):=fun v hv=>by
  rw[u216J0];rw[e5,r176 _ hv]
  repeat rw[vS]
  rw[r130,vS,gP ⟨rfl,rfl,fun _=>rfl,trivial⟩]
 rw[e7 _ hn,names_map l (fun q:Y170=>q.1) (dflt y170)];unfold pinsOk;have e6:inB (l.length:Int) 2 5=(decide (2<=l.length)&&decide (l.length<=5)):=by
  rw[Bool.eq_iff_iff,inB_iff]; simp; omega
 rw[e6];cases(List.range l.length).any fun i=>!pinB l.length (l.getD i (dflt y170)) i
 ·simp
 ·simp
theorem r211(c:Y115)(hw:wf y115 c):u211 c=some (if pinsOk c.2.2.1.length (pinOf c)=true then(clkN c.2.2.1.length (pinOf c),true) else(0,false)):=by
 have hp:=wf_pins hw;have h:=hp.1;unfold u211;by_cases hr:2<=c.2.2.1.length/\c.2.2.1.length<=5
 ·have e0:(decide ((c.2.2.1.length:Int)<2)||decide (5 < (c.2.2.1.length:Int)))=false:=by
   rw[<- Bool.not_eq_true]; simp; omega
  rw[e0,if_neg (by simp)];have key:=lp_foldE (n:=c.2.2.1.length) h (fun i (s:Int)=>(s,(i:Int))) (fun i s=>if(pinOf c i).2.2.2=true then s+1 else s) (fun i=>(!nmB (pinOf c i).1||dupB (fun i=>(pinOf c i).1) i)||!pinB c.2.2.1.length (pinOf c i) i) (some ((0:Int),false)) (fun i s=>0<=s/\s<=i) (J:=u211J0) (F:=u211L1 c) (fun g i s hi hI=>by
   refine(if_pos (by simpa using hi)).trans ?_;have e3:((i:Int)).toNat=i:=rfl;have hs:(pinOf c i).1.size<=9223372036854775807:=(wf_el (d:=dflt y170) hi hp).1;rw[e3,gP ⟨oo,trivial⟩,lE];have inner:=lp_all (n:=i) (by omega) (fun k=>decide ((pinOf c k).1=(pinOf c i).1)) (some ((0:Int),false)) (e:=u211J3 (i:Int) s (pinOf c i) c g ()) (F:=u211L4 c (pinOf c i) (i:Int) s g) (fun g3 k hk=>all_el hk (by omega) ⟨oo,trivial⟩) (fun g3=>aE);refine inner.trans ?_;have j3:u211J3 (i:Int) s (pinOf c i) c g ()=if(!nmB (pinOf c i).1||!pinB c.2.2.1.length (pinOf c i) i)=true then some ((0:Int),false) else g (if(pinOf c i).2.2.2=true then s+1 else s,((i+1:Nat):Int)):=by
    have j2:∀s',u211J2 (i:Int) g s'=g (s',((i+1:Nat):Int)):=fun s'=>gP ⟨oo,trivial⟩;show gd _ (if(!vl (u108 (pinOf c i).1)||!vl (u105 (pinOf c i).2.2.1 0 500))=true then _ else gd _ (if _=true then _ else if _=true then gd _ _ else _))=_;rw[r108 _ hs,r105,vS,vS,gP ⟨rfl,fun _=>rfl,trivial⟩,gP ⟨oo,fun _=>oo,trivial⟩,gP ⟨oo,trivial⟩,j2,j2];generalize pinOf c i=q;have hx:((i:Int)==(c.2.2.1.length:Int)-1)=decide (i+1=c.2.2.1.length):=by
     rw[Bool.eq_iff_iff,beq_iff_eq,dq]; omega
    have hy:decide ((i:Int) < (c.2.2.1.length:Int)-1)=!decide (i+1=c.2.2.1.length):=by
     rw[Bool.eq_iff_iff]; simp; omega
    rw[hx,hy];have hz:pinB c.2.2.1.length q i=(inB q.2.2.1 0 500&&(if decide (i+1=c.2.2.1.length)=true then q.2.1==2&&q.2.2.1==0&&!q.2.2.2 else q.2.1==1)):=by
     unfold pinB;by_cases hq:i+1=c.2.2.1.length
     ·grind
     ·grind
    rw[hz];have n1:(q.2.1 != 2)=!(q.2.1==2):=rfl;have n2:(q.2.2.1 != 0)=!(q.2.2.1==0):=rfl;have n3:(q.2.1 != 1)=!(q.2.1==1):=rfl;rw[n1,n2,n3];cases nmB q.1 <;> cases inB q.2.2.1 0 500 <;> cases decide (i+1=c.2.2.1.length) <;> cases q.2.1==2 <;> cases q.2.2.1==0 <;> cases q.2.1==1 <;> cases q.2.2.2 <;> rfl
   rw[j3];have hd:dupB (fun i=>(pinOf c i).1) i=(List.range i).any fun k=>decide ((pinOf c k).1=(pinOf c i).1):=rfl
   grind) (fun i s hi hI _=>by
   omega) (fun g s _=>aE) 0 oo
  refine key.trans ?_;rw[any_or];unfold pinsOk namesB;rw[decide_eq_true hr.1,decide_eq_true hr.2];cases(List.range c.2.2.1.length).any (fun i=>!nmB (pinOf c i).1||dupB (fun i=>(pinOf c i).1) i) <;> cases(List.range c.2.2.1.length).any (fun i=>!pinB c.2.2.1.length (pinOf c i) i) <;> rfl
 ·have e0:(decide ((c.2.2.1.length:Int)<2)||decide (5 < (c.2.2.1.length:Int)))=true:=by
   simp; omega
  have e1:¬pinsOk c.2.2.1.length (pinOf c)=true:=fun hc=>by
   obtain⟨h1,h2,_⟩:=pins_last hc;exact hr ⟨h1,h2⟩
  grind
end Go.Proofs.YtfggbbnnalflhaaGreatDoor
end

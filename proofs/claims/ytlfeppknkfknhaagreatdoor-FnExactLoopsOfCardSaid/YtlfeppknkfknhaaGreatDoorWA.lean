/- Plain words on names: no program in sight. -/
import Derived.Test.YtlfeppknkfknhaaGreatDoorXA
import Derived.Lib.SlTrimSet
import Derived.Lib.Bytealg
import Derived.Test.YtlfeppknkfknhaaGreatDoorProg
import Derived.KernelRfl
import Derived.Test.YtlfeppknkfknhaaGreatDoorXK
import Derived.Test.YtlfeppknkfknhaaGreatDoorFE1b
import Derived.Test.YtlfeppknkfknhaaGreatDoorTY
import Derived.Test.YtlfeppknkfknhaaGreatDoorXF
set_option maxHeartbeats 0
section
namespace Go.Proofs.Sv
open Go
def lowB(c:Int):Bool:=decide (c≥97)&&decide (c<=122)
def digB(c:Int):Bool:=decide (c≥48)&&decide (c<=57)
def chB(c:Int)(i:Nat):Bool:=lowB c||(digB c&&decide (0<i))
def nmTo(s:ByteArray):Nat->Bool
 | 0=>true
 | k+1=>nmTo s k&&chB (byteAt s k) k
def nmB(s:ByteArray):Bool:=nmTo s s.size&&decide ((s.size:Int)≥1)&&decide ((s.size:Int)<=8)
theorem nmTo_mono(s:ByteArray)(k:Nat):∀j,k<=j->nmTo s j=true->nmTo s k=true:=by
 intro j hj h
 induction j with
 | zero=>have:k=0:=by omega
         subst this; rfl
 | succ j ih =>
   by_cases hk:k=j+1
   ·subst hk; exact h
   ·simp only[nmTo,ba] at h;exact ih (by omega) h.1
def low26:List UInt8:=[97,98,99,100,101,102,103,104,105,106,107,108,109,110,111,112,113,114,115,116,117,118,119,120,121,122]
def low36:List UInt8:=[97,98,99,100,101,102,103,104,105,106,107,108,109,110,111,112,113,114,115,116,117,118,119,120,121,122,48,49,50,51,52,53,54,55,56,57]
theorem low26_fin:∀n:Fin 256,low26.contains (UInt8.ofNat n.val)=lowB (n.val:Int):=by decide +kernel
theorem low36_fin:∀n:Fin 256,low36.contains (UInt8.ofNat n.val)=(lowB (n.val:Int)||digB (n.val:Int)):=by decide +kernel
theorem low26_mem(b:UInt8):low26.contains b=lowB (b.toNat:Int):=by
 have:=low26_fin ⟨b.toNat,b.toNat_lt⟩;simpa using this
theorem low36_mem(b:UInt8):low36.contains b=(lowB (b.toNat:Int)||digB (b.toNat:Int)):=by
 have:=low36_fin ⟨b.toNat,b.toNat_lt⟩;simpa using this
theorem indexByte_mem(c:UInt8):∀l:List UInt8,decide (0<=Lib.indexByte l c)=l.contains c
 | []=>by simp[Lib.indexByte]
 | b :: l=>by
   have ih:=indexByte_mem c l;have hg:=Lib.indexByte_ge l c;unfold Lib.indexByte;by_cases hb:b=c
   ·subst hb; simp
   ·have hb':¬c=b:=fun h=>hb h.symm;have e1:(b==c)=false:=by simpa using hb
    rw[e1,List.contains_cons,show(c==b)=false by simpa using hb',<- ih];by_cases h1:Lib.indexByte l c = -1
    ·simp[h1]
    ·have:(Lib.indexByte l c == -1)=false:=by simpa using h1
     rw[this];simp only[Bool.false_eq_true,if_false,Bool.false_or];rw[Bool.eq_iff_iff]; simp only[dq]; omega
theorem dropWhile_nil{α:Type}(p:α->Bool):∀l:List α,l.dropWhile p=[]↔∀x∈l,p x=true
 | []=>by simp
 | x :: r=>by
   rw[List.dropWhile_cons];by_cases h:p x=true
   ·simp[h,dropWhile_nil p r]
   ·simp[h]
theorem mem_takeWhile{α:Type}(p:α->Bool)(x:α):∀l:List α,x∈l.takeWhile p->p x=true
 | [],h=>by cases h
 | y :: r,h=>by
   rw[List.takeWhile_cons] at h;by_cases hy:p y=true
   ·rw[if_pos hy] at h;rcases List.mem_cons.1 h with rfl | h
    ·exact hy
    ·exact mem_takeWhile p x r h
   ·rw[if_neg hy] at h; cases h
theorem trimS_nil(l cs:List UInt8):Lib.trimS l cs=[]↔∀b∈l,cs.contains b=true:=by
 unfold Lib.trimS Lib.trimLeftS Lib.trimRightS;rw[dropWhile_nil];constructor
 ·intro h b hb;have e:l=(l.reverse.dropWhile (cs.contains ·)).reverse++(l.reverse.takeWhile (cs.contains ·)).reverse:=by
   rw[<- List.reverse_append,List.takeWhile_append_dropWhile,List.reverse_reverse]
  rw[e] at hb;rcases List.mem_append.1 hb with hb | hb
  ·exact h b hb
  ·have:=List.mem_reverse.1 hb;exact mem_takeWhile (cs.contains ·) b _ this
 ·intro h b hb;exact h b (by have:=(List.dropWhile_sublist _).mem (List.mem_reverse.1 hb); exact List.mem_reverse.1 this)
theorem nmTo_all(s:ByteArray)(h0:lowB (byteAt s 0)=true):∀k,k<=s.size->(nmTo s k=true↔∀i,i<k->(lowB (byteAt s i)||digB (byteAt s i))=true)
 | 0,_=>by simp[nmTo]
 | k+1,hk=>by
   have ih:=nmTo_all s h0 k (by omega);simp only[nmTo,ba,ih];constructor
   ·rintro⟨h1,h2⟩ i hi;by_cases hik:i=k
    ·subst hik;unfold chB at h2;cases hl:lowB (byteAt s i) with
     | true=>simp
     | false=>rw[hl] at h2; simp only[Bool.false_or,ba] at h2; simp[h2.1]
    ·exact h1 i (by omega)
   ·intro h;refine⟨fun i hi=>h i (by omega),?_⟩;have:=h k (by omega);unfold chB;by_cases hk0:k=0
    ·subst hk0; simp[h0]
    ·have hp:decide (0<k)=true:=by simp; omega
     rw[hp]; simpa using this
theorem trim_all(s:ByteArray):Lib.trimS s.data.toList low36=[]↔∀i,i<s.size->(lowB (byteAt s i)||digB (byteAt s i))=true:=by
 rw[trimS_nil];have hl:s.data.toList.length=s.size:=by simp
 constructor
 ·intro h i hi;have hi':i<s.data.toList.length:=by rw[hl]; exact hi
  have:=h s.data.toList[i] (List.getElem_mem hi');rw[low36_mem] at this;unfold byteAt;rw[gq,List.getElem?_eq_getElem hi'];exact this
 ·intro h b hb;obtain⟨i,hi,rfl⟩:=List.getElem_of_mem hb;have:=h i (by rw[<- hl]; exact hi);unfold byteAt at this;rw[gq,List.getElem?_eq_getElem hi] at this;rw[low36_mem]; exact this
theorem nmB_trim(s:ByteArray)(h1:1<=s.size)(h8:s.size<=8):nmB s=((Lib.trimS s.data.toList low36==[])&&decide (0<=Lib.indexByte low26 (byteAt s 0).toNat.toUInt8)):=by
 have e0:(byteAt s 0).toNat.toUInt8=s.data.toList.getD 0 0:=by unfold byteAt; simp
 rw[e0,indexByte_mem,low26_mem];show nmB s=(_&&lowB (byteAt s 0));have g1:decide ((s.size:Int)≥1)=true:=by simp; omega
 have g2:decide ((s.size:Int)<=8)=true:=by simp; omega
 unfold nmB;rw[g1,g2,Bool.and_true,Bool.and_true];cases h0:lowB (byteAt s 0) with
 | false =>
   rw[Bool.and_false];cases hn:nmTo s s.size with
   | false=>rfl
   | true =>
     have:=nmTo_mono s 1 s.size h1 hn;simp[nmTo,chB,h0] at this
 | true =>
   rw[Bool.and_true,Bool.eq_iff_iff,nmTo_all s h0 s.size (Nat.le_refl _),beq_iff_eq,trim_all]
end Go.Proofs.Sv
end
section
namespace Go.Proofs.YtlfeppknkfknhaaGreatDoor
open Go Go.Proofs Go.Proofs.Sv
instance:Mixed Tryz.prog:=⟨by kernel_rfl⟩
instance:NotAgg Tryz.prog 2:=⟨by kernel_rfl⟩
instance:Info Tryz.prog 2 1 8 (.int .i64 0):=⟨by kernel_rfl⟩
instance:NotAgg Tryz.prog 3:=⟨by kernel_rfl⟩
instance:Info Tryz.prog 3 1 8 (.int .i64 0):=⟨by kernel_rfl⟩
instance:NotAgg Tryz.prog 4:=⟨by kernel_rfl⟩
instance:BoolT Tryz.prog 4:=⟨by kernel_rfl⟩
instance:Info Tryz.prog 4 1 1 (.bool false):=⟨by kernel_rfl⟩
instance:NotAgg Tryz.prog 33:=⟨by kernel_rfl⟩
instance:SliceOf Tryz.prog 33 2:=⟨by kernel_rfl⟩
instance:Info Tryz.prog 33 1 24 (.slice none 0 0):=⟨by kernel_rfl⟩
instance:NotAgg Tryz.prog 35:=⟨by kernel_rfl⟩
instance:SliceOf Tryz.prog 35 33:=⟨by kernel_rfl⟩
instance:Info Tryz.prog 35 1 24 (.slice none 0 0):=⟨by kernel_rfl⟩
instance:AggT Tryz.prog 47:=⟨by kernel_rfl⟩
instance:FieldAt Tryz.prog 47 0 0:=⟨by kernel_rfl⟩
instance:FieldAt Tryz.prog 47 1 1:=⟨by kernel_rfl⟩
instance:FieldAt Tryz.prog 47 2 4:=⟨by kernel_rfl⟩
instance:Info Tryz.prog 47 5 120 (.agg #[.slice none 0 0,.slice none 0 0,.slice none 0 0,.slice none 0 0,.slice none 0 0]):=⟨by kernel_rfl⟩
instance:NotAgg Tryz.prog 65:=⟨by kernel_rfl⟩
instance:SliceOf Tryz.prog 65 4:=⟨by kernel_rfl⟩
instance:Info Tryz.prog 65 1 24 (.slice none 0 0):=⟨by kernel_rfl⟩
instance:NotAgg Tryz.prog 70:=⟨by kernel_rfl⟩
instance:Info Tryz.prog 70 1 8 (.pointer none):=⟨by kernel_rfl⟩
instance:NotAgg Tryz.prog 113:=⟨by kernel_rfl⟩
instance:Info Tryz.prog 113 1 8 (.pointer none):=⟨by kernel_rfl⟩
instance:AggT Tryz.prog 119:=⟨by kernel_rfl⟩
instance:FieldAt Tryz.prog 119 0 0:=⟨by kernel_rfl⟩
instance:FieldAt Tryz.prog 119 1 1:=⟨by kernel_rfl⟩
instance:Info Tryz.prog 119 2 32 (.agg #[.pointer none,.slice none 0 0]):=⟨by kernel_rfl⟩
instance:NotAgg Tryz.prog 120:=⟨by kernel_rfl⟩
instance:SliceOf Tryz.prog 120 65:=⟨by kernel_rfl⟩
instance:Info Tryz.prog 120 1 24 (.slice none 0 0):=⟨by kernel_rfl⟩
instance:HasBody Tryz.prog 27:=⟨by kernel_rfl⟩
instance:HasBody Tryz.prog 28:=⟨by kernel_rfl⟩
instance:HasBody Tryz.prog 61:=⟨by kernel_rfl⟩
instance:HasBody Tryz.prog 62:=⟨by kernel_rfl⟩
instance:HasBody Tryz.prog 64:=⟨by kernel_rfl⟩
end Go.Proofs.YtlfeppknkfknhaaGreatDoor
end
section
namespace Go.Proofs.YtlfeppknkfknhaaGreatDoor
open Go Go.Proofs Go.Proofs.Xv
instance : FacT Tryz.prog := ⟨fun _ => ⟨fun g e => (nomatch (show Tryz.prog.globalNamed "internal/strconv.uint64pow10" = none by kernel_rfl).symm.trans e), fun g e => (nomatch (show Tryz.prog.globalNamed "strconv.ErrSyntax" = none by kernel_rfl).symm.trans e), fun g e => (nomatch (show Tryz.prog.globalNamed "strconv.ErrRange" = none by kernel_rfl).symm.trans e), fun f g e _ => (nomatch (show Tryz.prog.funcNamed "strings.Split" = none by kernel_rfl).symm.trans e)⟩⟩
end Go.Proofs.YtlfeppknkfknhaaGreatDoor
end
section
-- NAMES O1
namespace Go.Proofs.YtlfeppknkfknhaaGreatDoor
open Go Go.Proofs Go.Proofs.Sv Go.Proofs.Xv Go.Proofs.Xl Go.RowKit
theorem loopQ_of{n:Nat}{σ:Type}{E:σ->Env}{J:σ->World->Prop}{μ:σ->Nat}{s:σ}{Q:Exit->Act->World->Prop}{a:Act}{w:World}(s':σ)(hJ:J s' w)(hμ:μ s'<μ s)(hA:Agree n (E s') a):loopQ n E J μ s Q .normal a w:=⟨s',hJ,hμ,hA⟩
attribute [local irreducible] VS VO VQ VH FinS seqQ blkQ loopQ RunsOp RunsU
attribute [local simp] spl reps Value.cells
abbrev S28:=Nat×(List (List Int)×Int×List Bool)×Value×Value×Value×Value
def E28(v0:Int)(s:S28):Env:=(33,.int .i64 s.2.1.2.1) :: (32,.int .i64 v0) :: (7,s.2.2.2.2.2) :: (6,s.2.2.2.2.1) :: (4,s.2.2.2.1) :: (3,.int .i64 v0) :: (0,s.2.2.1) :: []
def J28(w:World)(a0:Y119)(v0:Int)(v5:List (List Bool))(r:List (List Int))(s:S28)(w':World):Prop :=
 itF (u28L3 v5 a0 v0) s.1 s.2.1=some r/\(lo .i64<=s.2.1.2.1/\s.2.1.2.1<=hi .i64)/\∃K gI gl vs gs,LpJ Tryz.prog w K 33 gI gl vs gs w' s.2.2.2.2.1 s.2.1.2.2 s.2.2.2.2.2 s.2.1.1/\RT K w' y119.pt [s.2.2.1] a0/\RT K w' Ty.bool.sl.sl [s.2.2.2.1] v5
abbrev S29:=Nat×Int×List Bool
def E29(v0 v18:Int)(n9:Nat)(u0 u4 u6 u7 u9:Value)(s:S29):Env:=(76,.int .i64 s.2.1) :: (75,.int .i64 (n9:Int)) :: (74,u9) :: (33,.int .i64 v18) :: (32,.int .i64 v0) :: (9,u9) :: (7,u7) :: (6,u6) :: (4,u4) :: (3,.int .i64 v0) :: (0,u0) :: []
def J29(w:World)(a0:Y119)(v5:List (List Bool))(v24:List Int)(v18:Int)(v17:List (List Int))(g3:List (List Int)×Int×List Bool->Option (List (List Int)))(r:List (List Int))(K:Nat->Prop)(gI gl gx:Option Nat)(vs:List Value)(gs:List (Option Nat))(u0 u4 u6 u7 u9:Value)(s:S29)(w':World):Prop :=
 itF (u28L9 v24 v18 v17 g3) s.1 s.2=some r/\(lo .i64<=s.2.1/\s.2.1<=hi .i64)/\LpJ Tryz.prog w K 33 gI gl vs gs w' u6 s.2.2 u7 v17/\NwR w K gI gl gs w' gx u9 v24/\RT K w' y119.pt [u0] a0/\RT K w' Ty.bool.sl.sl [u4] v5
theorem in_i64{a:Int}(h:in64 a):lo .i64<=a/\a<=hi .i64:=h
set_option maxRecDepth 100000 in
set_option maxHeartbeats 8000000 in
theorem c28{a0:Y119}{r:List (List Int)}{w:World}{u:Value}(hW:WK Tryz.prog w (fun k=>w.heap.size<=k))(hR:RT (fun k=>k<w.heap.size) w y119.pt [u] a0)(H:u28 a0=some r):Calls Tryz.prog 28 #[u] w fun en w'=>∃v,en=.returned v/\Ext w w'/\ApR w.heap.size w'.heap.size w' v r:=by
 refine calls_vx (ps:=[.dat y119.pt]) (x:=(a0,())) (vs:=[u]) (go:=none) (K:=fun k=>k<w.heap.size) Tryz.func28 Tryz.ntmps28 rfl rfl ⟨fun _ h=>h,hW.sub fun k e=>by cases e⟩ ⟨u,[],rfl,hR,rfl,rfl⟩ ?_;have hT:=tc o64 (tc o63 (tc o62c63d (tc o61 tn)));refine qa tok hT [0] (St.mk [p 0 (D y119.pt a0)] []) (by kernel_rfl) ?_;refine qd tok hT [0,3] (fun v0=>St.mk [p 0 (D y119.pt a0),p 3 (I v0)] []) H (by kernel_rfl) fun v0 H=>?_;refine qa tok hT [0,3,4] (St.mk [p 0 (D y119.pt a0),p 3 (I v0),p 4 (AV.v (Value.slice none 0 0))] []) (by kernel_rfl) ?_;refine jn r (fun(v5:List (List Bool))=>St.mk [p 0 (D y119.pt a0),p 3 (I v0),p 4 (AV.os 28 0)] [(28,Ob.arr 65 true Ty.bool.sl v5 0)]) (u28J0 a0 v0) (fun v5 H=>?_) (fun _ n0 e0 t0=>?_)
 ·refine qb tok hT [0,3,4,6] (St.mk [p 0 (D y119.pt a0),p 3 (I v0),p 4 (AV.os 28 0),p 6 (AV.os 31 0)] [(31,Ob.arr 4 true Ty.bool (List.replicate v0.toNat false) 0),(28,Ob.arr 65 true Ty.bool.sl v5 0)]) H (by kernel_rfl) fun H=>?_;refine qa tok hT [0,3,4,6,7] (St.mk [p 0 (D y119.pt a0),p 3 (I v0),p 4 (AV.os 28 0),p 6 (AV.os 31 0),p 7 (AV.v (Value.slice none 0 0))] [(31,Ob.arr 4 true Ty.bool (List.replicate v0.toNat false) 0),(28,Ob.arr 65 true Ty.bool.sl v5 0)]) (by kernel_rfl) ?_;refine vQ<|?_
  refine qa tok hT [0,3,4,6,7,32,33] (St.mk [p 0 (D y119.pt a0),p 3 (I v0),p 4 (AV.os 28 0),p 6 (AV.os 31 0),p 7 (AV.v (Value.slice none 0 0)),p 32 (I v0),p 33 (I 0)] [(31,Ob.arr 4 true Ty.bool (List.replicate v0.toNat false) 0),(28,Ob.arr 65 true Ty.bool.sl v5 0)]) (by kernel_rfl) ?_;refine vB<|?_
  refine vx_vs fun G a Sx ho hE=>?_;have l31:lku G.o 31=some (Ob.arr 4 true Ty.bool (List.replicate v0.toNat false) 0):=by rw[ho]; rfl
  have l28:lku G.o 28=some (Ob.arr 65 true Ty.bool.sl v5 0):=by rw[ho]; rfl
  have t0:=hE.at (t:=0) (A:=D y119.pt a0) rfl;have t3:=avr_i64 (hE.at (t:=3) (A:=I v0) rfl);have t4:=hE.at (t:=4) (A:=AV.os 28 0) rfl;have t6:=hE.at (t:=6) (A:=AV.os 31 0) rfl;have t7:=hE.at (t:=7) (A:=AV.v (Value.slice none 0 0)) rfl;have t32:=avr_i64 (hE.at (t:=32) (A:=I v0) rfl);have t33:=avr_i64 (hE.at (t:=33) (A:=I 0) rfl);obtain⟨hJ,hV⟩:=LpJ.init (P:=Tryz.prog) 33 Sx l31 t6 l28 t4 (by decide);have hU:RT (fun k=>G.K k∨G.γ 28=some k) G.w y119.pt [a.tmps.getD 0 undef] a0:=RT.up t0 fun k hk=>.inl hk.1;refine⟨(33,.int .i64 0) :: (32,.int .i64 v0) :: (7,.slice none 0 0) :: (6,a.tmps.getD 6 undef) :: (4,a.tmps.getD 4 undef) :: (3,.int .i64 v0) :: (0,a.tmps.getD 0 undef) :: [],agr_cons (agr_cons (agr_cons (agr_cons (agr_cons (agr_cons (agr_cons (agr_nil hE) rfl) t3.1) rfl) rfl) t7) t32.1) t33.1,?_⟩;have hv0:=t3.2;refine vs_loop (E28 v0) (J28 w a0 v0 v5 r) (fun s=>s.1) (big,([],0,List.replicate v0.toNat false),a.tmps.getD 0 undef,a.tmps.getD 4 undef,a.tmps.getD 6 undef,.slice none 0 0) ⟨H,t33.2,_,_,_,_,_,hJ,hU,hV⟩ (by ((repeat (refine sub_cons rfl ?_)); exact sub_nil)) ?_;clear hJ hU hV H l31 l28 t0 t3 t4 t6 t7 t32 t33 Sx ho hE;rintro⟨m,⟨v17,v18,v19⟩,u0,u4,u6,u7⟩ w1 ⟨H,hv,K,gI,gl,vs,gs,hJ,hU,hV⟩;cases m with
  | zero=>cases H
  | succ m =>
  have H:u28L3 v5 a0 v0 (itF (u28L3 v5 a0 v0) m) (v17,v18,v19)=some r:=H;dsimp only at hJ hU hV hv;obtain⟨g3,hg3⟩:∃g3,g3=itF (u28L3 v5 a0 v0) m:=⟨_,rfl⟩;rw[<- hg3] at H;rw[u28L3] at H;unfold E28;dsimp only
  (repeat (first | refine vo_pure rfl rfl ?_ | refine vo_guard_take rfl rfl ?_ | refine vo_guard_skip rfl rfl rfl rfl ?_ | refine vo_guard_undef rfl rfl rfl ?_ | refine vs_seq ?_ | refine vs_region ?_ | refine oN ?_ | refine nQ ?_ | refine vs_skip ?_ | refine vs_block ?_ | refine vs_ret ?_ | refine fin_seq_ret ?_ | refine fin_blk_ret ?_ | refine fin_loop_ret ?_ | refine vs_cond_true rfl ?_ | refine vs_cond_false rfl ?_ | refine fin_blk ?_ | refine vs_exit ?_ | refine fin_seq_exit ?_ | refine fin_loop_exit ?_ | refine fin_blk_exit rfl ?_ | refine fin_blk_other rfl ?_ | refine vo_fieldAddr rfl rfl ?_ | refine vo_loadB rfl (by assumption) rfl rfl ?_ | refine vo_load rfl (by assumption) rfl ?_ | refine vo_loadA rfl (by assumption) rfl rfl ?_ | refine vo_loadAt rfl (by assumption) rfl rfl ?_ | refine vo_val _ (runs_lenS rfl) rfl ?_ | refine vo_val _ (runs_lenL rfl) rfl ?_ | refine vo_val _ (runs_add rfl rfl (by omega)) rfl ?_ | refine vo_val _ (runs_sub rfl rfl (by omega)) rfl ?_ | refine vo_val _ (runs_catL rfl rfl (by ((try simp only[List.length_append,List.length_cons,List.length_nil]); omega))) rfl ?_ | refine vq_val _ (fun _ _=>runs_catL rfl rfl (by ((try simp only[List.length_append,List.length_cons,List.length_nil]); omega))) rfl ?_ | refine vo_val _ (runs_eqB rfl rfl) rfl ?_ | refine vo_val _ (runs_neB rfl rfl) rfl ?_ | refine vo_build rfl rfl rfl ?_ | refine vo_val _ (runs_index0 rfl (by omega)) rfl ?_ | refine vo_val _ (runs_index rfl rfl (by omega)) rfl ?_ | refine vs_drawn (by kernel_rfl) ?_ | refine vq_pure rfl rfl ?_ | refine vo_val _ (runs_nilCheck rfl) rfl ?_ | refine vq_val _ (fun _ _=>runs_nilCheck rfl) rfl ?_ | refine vq_guard_take rfl rfl ?_ | refine vq_guard_skip rfl rfl rfl rfl ?_ | refine vq_guard_undef rfl rfl rfl ?_ | refine vq_fieldAddr rfl rfl ?_ | refine vq_loadB rfl (by assumption) rfl rfl ?_ | refine vq_load rfl (by assumption) rfl rfl ?_ | refine vq_loadA rfl (by assumption) rfl rfl ?_ | refine vq_loadAt rfl (by assumption) rfl rfl ?_ | refine vq_val _ (fun _ _=>runs_lenS rfl) rfl ?_ | refine vq_val _ (fun _ _=>runs_lenL rfl) rfl ?_ | refine vq_val _ (fun _ _=>runs_add rfl rfl (by omega)) rfl ?_ | refine vq_val _ (fun _ _=>runs_sub rfl rfl (by omega)) rfl ?_ | refine vq_val _ (fun _ _=>runs_eqB rfl rfl) rfl ?_ | refine vq_val _ (fun _ _=>runs_neB rfl rfl) rfl ?_ | refine vq_build rfl rfl rfl ?_ | refine vq_val _ (fun _ _=>runs_index0 rfl (by omega)) rfl ?_ | refine vq_val _ (fun _ _=>runs_index rfl rfl (by omega)) rfl ?_ | refine vs_label ?_))
  refine vs_cond rfl (fun hc=>?_) (fun hc=>?_)
  ·rw[if_pos hc] at H;obtain⟨hi,H⟩:=gd_some H;have hvk:v18=(v18.toNat:Int):=by have:=hi.1.1; omega
   have hk:v18.toNat<v19.length:=hi.2.1;obtain⟨b,o,cap,e6,hcell,hgb,_⟩:=row_bool hJ.flg hk
   (repeat (first | refine vo_pure rfl rfl ?_ | refine vo_guard_take rfl rfl ?_ | refine vo_guard_skip rfl rfl rfl rfl ?_ | refine vo_guard_undef rfl rfl rfl ?_ | refine vs_seq ?_ | refine vs_region ?_ | refine oN ?_ | refine nQ ?_ | refine vs_skip ?_ | refine vs_block ?_ | refine vs_ret ?_ | refine fin_seq_ret ?_ | refine fin_blk_ret ?_ | refine fin_loop_ret ?_ | refine vs_cond_true rfl ?_ | refine vs_cond_false rfl ?_ | refine fin_blk ?_ | refine vs_exit ?_ | refine fin_seq_exit ?_ | refine fin_loop_exit ?_ | refine fin_blk_exit rfl ?_ | refine fin_blk_other rfl ?_ | refine vo_fieldAddr rfl rfl ?_ | refine vo_loadB rfl (by assumption) rfl rfl ?_ | refine vo_load rfl (by assumption) rfl ?_ | refine vo_loadA rfl (by assumption) rfl rfl ?_ | refine vo_loadAt rfl (by assumption) rfl rfl ?_ | refine vo_val _ (runs_lenS rfl) rfl ?_ | refine vo_val _ (runs_lenL rfl) rfl ?_ | refine vo_val _ (runs_add rfl rfl (by omega)) rfl ?_ | refine vo_val _ (runs_sub rfl rfl (by omega)) rfl ?_ | refine vo_val _ (runs_catL rfl rfl (by ((try simp only[List.length_append,List.length_cons,List.length_nil]); omega))) rfl ?_ | refine vq_val _ (fun _ _=>runs_catL rfl rfl (by ((try simp only[List.length_append,List.length_cons,List.length_nil]); omega))) rfl ?_ | refine vo_val _ (runs_eqB rfl rfl) rfl ?_ | refine vo_val _ (runs_neB rfl rfl) rfl ?_ | refine vo_build rfl rfl rfl ?_ | refine vo_val _ (runs_index0 rfl (by omega)) rfl ?_ | refine vo_val _ (runs_index rfl rfl (by omega)) rfl ?_ | refine vs_drawn (by kernel_rfl) ?_ | refine vq_pure rfl rfl ?_ | refine vo_val _ (runs_nilCheck rfl) rfl ?_ | refine vq_val _ (fun _ _=>runs_nilCheck rfl) rfl ?_ | refine vq_guard_take rfl rfl ?_ | refine vq_guard_skip rfl rfl rfl rfl ?_ | refine vq_guard_undef rfl rfl rfl ?_ | refine vq_fieldAddr rfl rfl ?_ | refine vq_loadB rfl (by assumption) rfl rfl ?_ | refine vq_load rfl (by assumption) rfl rfl ?_ | refine vq_loadA rfl (by assumption) rfl rfl ?_ | refine vq_loadAt rfl (by assumption) rfl rfl ?_ | refine vq_val _ (fun _ _=>runs_lenS rfl) rfl ?_ | refine vq_val _ (fun _ _=>runs_lenL rfl) rfl ?_ | refine vq_val _ (fun _ _=>runs_add rfl rfl (by omega)) rfl ?_ | refine vq_val _ (fun _ _=>runs_sub rfl rfl (by omega)) rfl ?_ | refine vq_val _ (fun _ _=>runs_eqB rfl rfl) rfl ?_ | refine vq_val _ (fun _ _=>runs_neB rfl rfl) rfl ?_ | refine vq_build rfl rfl rfl ?_ | refine vq_val _ (fun _ _=>runs_index0 rfl (by omega)) rfl ?_ | refine vq_val _ (fun _ _=>runs_index rfl rfl (by omega)) rfl ?_ | refine vs_label ?_))
   refine vo_idxN (k:=v18.toNat) (congrArg some e6) (congrArg (fun z=>some (Value.int .i64 z)) hvk) hk rfl ?_;refine vo_load rfl (by rw[Nat.mul_one]; exact hcell) rfl ?_
   (repeat (first | refine vo_pure rfl rfl ?_ | refine vo_guard_take rfl rfl ?_ | refine vo_guard_skip rfl rfl rfl rfl ?_ | refine vo_guard_undef rfl rfl rfl ?_ | refine vs_seq ?_ | refine vs_region ?_ | refine oN ?_ | refine nQ ?_ | refine vs_skip ?_ | refine vs_block ?_ | refine vs_ret ?_ | refine fin_seq_ret ?_ | refine fin_blk_ret ?_ | refine fin_loop_ret ?_ | refine vs_cond_true rfl ?_ | refine vs_cond_false rfl ?_ | refine fin_blk ?_ | refine vs_exit ?_ | refine fin_seq_exit ?_ | refine fin_loop_exit ?_ | refine fin_blk_exit rfl ?_ | refine fin_blk_other rfl ?_ | refine vo_fieldAddr rfl rfl ?_ | refine vo_loadB rfl (by assumption) rfl rfl ?_ | refine vo_load rfl (by assumption) rfl ?_ | refine vo_loadA rfl (by assumption) rfl rfl ?_ | refine vo_loadAt rfl (by assumption) rfl rfl ?_ | refine vo_val _ (runs_lenS rfl) rfl ?_ | refine vo_val _ (runs_lenL rfl) rfl ?_ | refine vo_val _ (runs_add rfl rfl (by omega)) rfl ?_ | refine vo_val _ (runs_sub rfl rfl (by omega)) rfl ?_ | refine vo_val _ (runs_catL rfl rfl (by ((try simp only[List.length_append,List.length_cons,List.length_nil]); omega))) rfl ?_ | refine vq_val _ (fun _ _=>runs_catL rfl rfl (by ((try simp only[List.length_append,List.length_cons,List.length_nil]); omega))) rfl ?_ | refine vo_val _ (runs_eqB rfl rfl) rfl ?_ | refine vo_val _ (runs_neB rfl rfl) rfl ?_ | refine vo_build rfl rfl rfl ?_ | refine vo_val _ (runs_index0 rfl (by omega)) rfl ?_ | refine vo_val _ (runs_index rfl rfl (by omega)) rfl ?_ | refine vs_drawn (by kernel_rfl) ?_ | refine vq_pure rfl rfl ?_ | refine vo_val _ (runs_nilCheck rfl) rfl ?_ | refine vq_val _ (fun _ _=>runs_nilCheck rfl) rfl ?_ | refine vq_guard_take rfl rfl ?_ | refine vq_guard_skip rfl rfl rfl rfl ?_ | refine vq_guard_undef rfl rfl rfl ?_ | refine vq_fieldAddr rfl rfl ?_ | refine vq_loadB rfl (by assumption) rfl rfl ?_ | refine vq_load rfl (by assumption) rfl rfl ?_ | refine vq_loadA rfl (by assumption) rfl rfl ?_ | refine vq_loadAt rfl (by assumption) rfl rfl ?_ | refine vq_val _ (fun _ _=>runs_lenS rfl) rfl ?_ | refine vq_val _ (fun _ _=>runs_lenL rfl) rfl ?_ | refine vq_val _ (fun _ _=>runs_add rfl rfl (by omega)) rfl ?_ | refine vq_val _ (fun _ _=>runs_sub rfl rfl (by omega)) rfl ?_ | refine vq_val _ (fun _ _=>runs_eqB rfl rfl) rfl ?_ | refine vq_val _ (fun _ _=>runs_neB rfl rfl) rfl ?_ | refine vq_build rfl rfl rfl ?_ | refine vq_val _ (fun _ _=>runs_index0 rfl (by omega)) rfl ?_ | refine vq_val _ (fun _ _=>runs_index rfl rfl (by omega)) rfl ?_ | refine vs_label ?_))
   refine vs_cond rfl (fun hc2=>?_) (fun hc2=>?_)
   ·rw[if_pos hc2,u28J4] at H;obtain⟨hn,H⟩:=gd_some H;have hn1:=in_i64 hn.1;have hn2:v18+1<=9223372036854775807:=hn1.2;have hn3 : -9223372036854775808<=v18+1:=hn1.1
    (repeat (first | refine vo_pure rfl rfl ?_ | refine vo_guard_take rfl rfl ?_ | refine vo_guard_skip rfl rfl rfl rfl ?_ | refine vo_guard_undef rfl rfl rfl ?_ | refine vs_seq ?_ | refine vs_region ?_ | refine oN ?_ | refine nQ ?_ | refine vs_skip ?_ | refine vs_block ?_ | refine vs_ret ?_ | refine fin_seq_ret ?_ | refine fin_blk_ret ?_ | refine fin_loop_ret ?_ | refine vs_cond_true rfl ?_ | refine vs_cond_false rfl ?_ | refine fin_blk ?_ | refine vs_exit ?_ | refine fin_seq_exit ?_ | refine fin_loop_exit ?_ | refine fin_blk_exit rfl ?_ | refine fin_blk_other rfl ?_ | refine vo_fieldAddr rfl rfl ?_ | refine vo_loadB rfl (by assumption) rfl rfl ?_ | refine vo_load rfl (by assumption) rfl ?_ | refine vo_loadA rfl (by assumption) rfl rfl ?_ | refine vo_loadAt rfl (by assumption) rfl rfl ?_ | refine vo_val _ (runs_lenS rfl) rfl ?_ | refine vo_val _ (runs_lenL rfl) rfl ?_ | refine vo_val _ (runs_add rfl rfl (by omega)) rfl ?_ | refine vo_val _ (runs_sub rfl rfl (by omega)) rfl ?_ | refine vo_val _ (runs_catL rfl rfl (by ((try simp only[List.length_append,List.length_cons,List.length_nil]); omega))) rfl ?_ | refine vq_val _ (fun _ _=>runs_catL rfl rfl (by ((try simp only[List.length_append,List.length_cons,List.length_nil]); omega))) rfl ?_ | refine vo_val _ (runs_eqB rfl rfl) rfl ?_ | refine vo_val _ (runs_neB rfl rfl) rfl ?_ | refine vo_build rfl rfl rfl ?_ | refine vo_val _ (runs_index0 rfl (by omega)) rfl ?_ | refine vo_val _ (runs_index rfl rfl (by omega)) rfl ?_ | refine vs_drawn (by kernel_rfl) ?_ | refine vq_pure rfl rfl ?_ | refine vo_val _ (runs_nilCheck rfl) rfl ?_ | refine vq_val _ (fun _ _=>runs_nilCheck rfl) rfl ?_ | refine vq_guard_take rfl rfl ?_ | refine vq_guard_skip rfl rfl rfl rfl ?_ | refine vq_guard_undef rfl rfl rfl ?_ | refine vq_fieldAddr rfl rfl ?_ | refine vq_loadB rfl (by assumption) rfl rfl ?_ | refine vq_load rfl (by assumption) rfl rfl ?_ | refine vq_loadA rfl (by assumption) rfl rfl ?_ | refine vq_loadAt rfl (by assumption) rfl rfl ?_ | refine vq_val _ (fun _ _=>runs_lenS rfl) rfl ?_ | refine vq_val _ (fun _ _=>runs_lenL rfl) rfl ?_ | refine vq_val _ (fun _ _=>runs_add rfl rfl (by omega)) rfl ?_ | refine vq_val _ (fun _ _=>runs_sub rfl rfl (by omega)) rfl ?_ | refine vq_val _ (fun _ _=>runs_eqB rfl rfl) rfl ?_ | refine vq_val _ (fun _ _=>runs_neB rfl rfl) rfl ?_ | refine vq_build rfl rfl rfl ?_ | refine vq_val _ (fun _ _=>runs_index0 rfl (by omega)) rfl ?_ | refine vq_val _ (fun _ _=>runs_index rfl rfl (by omega)) rfl ?_ | refine vs_label ?_))
    exact fin_loop (m,(v17,v18+1,v19),u0,u4,u6,u7) ⟨by rw[hg3] at H; exact H,hn1,K,gI,gl,vs,gs,hJ,hU,hV⟩ (Nat.lt_succ_self m) (by ((repeat (refine sub_cons rfl ?_)); exact sub_nil))
   rw[if_neg (by rw[hc2]; decide)] at H;refine vs_skip (nQ ?_);refine vs_vx hJ.kw [p 0 (D y119.pt a0),p 3 (I v0),p 4 (L Ty.bool.sl v5),p 6 (AV.v u6),p 7 (AV.v u7),p 8 (I v18),p 32 (I v0),p 33 (I v18)] (es_cons rfl (rg_false hU) (es_cons rfl ⟨rfl,hv0⟩ (es_cons rfl (rg_false hV) (es_cons rfl rfl (es_cons rfl rfl (es_cons rfl ⟨rfl,hv⟩ (es_cons rfl ⟨rfl,hv0⟩ (es_cons rfl ⟨rfl,hv⟩ es_nil)))))))) ?_;refine qa tok hT [0,3,4,6,7,8,9,32,33] (St.mk [p 0 (D y119.pt a0),p 3 (I v0),p 4 (L Ty.bool.sl v5),p 6 (AV.v u6),p 7 (AV.v u7),p 8 (I v18),p 9 (AV.v (Value.slice none 0 0)),p 32 (I v0),p 33 (I v18)] []) (by kernel_rfl) ?_;refine jn r (fun(v24:List Int)=>St.mk [p 0 (D y119.pt a0),p 3 (I v0),p 4 (L Ty.bool.sl v5),p 6 (AV.v u6),p 7 (AV.v u7),p 8 (I v18),p 9 (AV.os 63 0),p 32 (I v0),p 33 (I v18)] [(63,Ob.arr 2 true i64 v24 0)]) (u28J5 v18 v19 v17 a0 g3) (fun v24 H=>?_) (fun _ n5 e5 t5=>?_)
   ·refine vQ<|?_
    refine qb tok hT [0,3,4,6,7,9,32,33,69,70,71,72,73] (St.mk [p 0 (D y119.pt a0),p 3 (I v0),p 4 (L Ty.bool.sl v5),p 6 (AV.v u6),p 7 (AV.v u7),p 9 (AV.os 63 0),p 32 (I v0),p 33 (I v18),p 73 (B (decide ((v24.length:Int)<2)&&!vl (u64 a0 v18)))] [(63,Ob.arr 2 true i64 v24 0)]) H (by kernel_rfl) fun H=>?_;refine cd H (by kernel_rfl) (fun H=>?_) (fun H=>?_)
    ·refine vE<|fE<|fX rfl<|fQ<|?_
     refine zb tok hT [0,3,4,6,7,32,33] (St.mk [p 0 (D y119.pt a0),p 3 (I v0),p 4 (L Ty.bool.sl v5),p 6 (AV.v u6),p 7 (AV.v u7),p 32 (I v0),p 33 (I (v18+1))] [(63,Ob.arr 2 true i64 v24 0)]) H (by kernel_rfl) fun H=>?_;intro G2 a2 S2 ho2 hE2;exact loopQ_of (m,(v17,v18+1,v19),a2.tmps.getD 0 undef,a2.tmps.getD 4 undef,u6,u7) ⟨by rw[hg3] at H; exact H,(avr_i64 (hE2.at (t:=33) (A:=I (v18+1)) rfl)).2,G2.K,gI,gl,vs,gs,hJ.out S2,RT.up (hE2.at (t:=0) (A:=D y119.pt a0) rfl) fun k hk=>hk.1,RT.up (hE2.at (t:=4) (A:=L Ty.bool.sl v5) rfl) fun k hk=>hk.1⟩ (Nat.lt_succ_self m) (agr_cons (agr_cons (agr_cons (agr_cons (agr_cons (agr_cons (agr_cons (agr_nil hE2) rfl) (avr_i64 (hE2.at (t:=3) (A:=I v0) rfl)).1) rfl) (hE2.at (t:=6) (A:=AV.v u6) rfl)) (hE2.at (t:=7) (A:=AV.v u7) rfl)) (avr_i64 (hE2.at (t:=32) (A:=I v0) rfl)).1) (avr_i64 (hE2.at (t:=33) (A:=I (v18+1)) rfl)).1)
    refine vK<|fQ<|?_
    refine vx_vs fun G2 a2 S2 ho2 hE2=>?_;have hJ2:=hJ.out S2;have hx:=hJ.new (idx:=63) (verx:=0) (frx:=true) (E:=2) (x:=v24) S2 (by rw[ho2]; rfl) (hE2.at (t:=9) (A:=AV.os 63 0) rfl);have hU2:RT G2.K G2.w y119.pt [a2.tmps.getD 0 undef] a0:=RT.up (hE2.at (t:=0) (A:=D y119.pt a0) rfl) fun k hk=>hk.1;have hV2:RT G2.K G2.w Ty.bool.sl.sl [a2.tmps.getD 4 undef] v5:=RT.up (hE2.at (t:=4) (A:=L Ty.bool.sl v5) rfl) fun k hk=>hk.1;obtain⟨p9,c9,e9⟩:∃p9 c9,a2.tmps.getD 9 undef=.slice p9 v24.length c9:=by
     obtain⟨p9,c9,e9,_⟩:=hx.1;exact⟨p9,c9,(List.cons.inj e9).1⟩
    rw[e9] at hx;refine⟨(33,.int .i64 v18) :: (32,.int .i64 v0) :: (9,.slice p9 v24.length c9) :: (7,u7) :: (6,u6) :: (4,a2.tmps.getD 4 undef) :: (3,.int .i64 v0) :: (0,a2.tmps.getD 0 undef) :: [],agr_cons (agr_cons (agr_cons (agr_cons (agr_cons (agr_cons (agr_cons (agr_cons (agr_nil hE2) rfl) (avr_i64 (hE2.at (t:=3) (A:=I v0) rfl)).1) rfl) (hE2.at (t:=6) (A:=AV.v u6) rfl)) (hE2.at (t:=7) (A:=AV.v u7) rfl)) e9) (avr_i64 (hE2.at (t:=32) (A:=I v0) rfl)).1) (avr_i64 (hE2.at (t:=33) (A:=I v18) rfl)).1,?_⟩
    (repeat (first | refine vo_pure rfl rfl ?_ | refine vo_guard_take rfl rfl ?_ | refine vo_guard_skip rfl rfl rfl rfl ?_ | refine vo_guard_undef rfl rfl rfl ?_ | refine vs_seq ?_ | refine vs_region ?_ | refine oN ?_ | refine nQ ?_ | refine vs_skip ?_ | refine vs_block ?_ | refine vs_ret ?_ | refine fin_seq_ret ?_ | refine fin_blk_ret ?_ | refine fin_loop_ret ?_ | refine vs_cond_true rfl ?_ | refine vs_cond_false rfl ?_ | refine fin_blk ?_ | refine vs_exit ?_ | refine fin_seq_exit ?_ | refine fin_loop_exit ?_ | refine fin_blk_exit rfl ?_ | refine fin_blk_other rfl ?_ | refine vo_fieldAddr rfl rfl ?_ | refine vo_loadB rfl (by assumption) rfl rfl ?_ | refine vo_load rfl (by assumption) rfl ?_ | refine vo_loadA rfl (by assumption) rfl rfl ?_ | refine vo_loadAt rfl (by assumption) rfl rfl ?_ | refine vo_val _ (runs_lenS rfl) rfl ?_ | refine vo_val _ (runs_lenL rfl) rfl ?_ | refine vo_val _ (runs_add rfl rfl (by omega)) rfl ?_ | refine vo_val _ (runs_sub rfl rfl (by omega)) rfl ?_ | refine vo_val _ (runs_catL rfl rfl (by ((try simp only[List.length_append,List.length_cons,List.length_nil]); omega))) rfl ?_ | refine vq_val _ (fun _ _=>runs_catL rfl rfl (by ((try simp only[List.length_append,List.length_cons,List.length_nil]); omega))) rfl ?_ | refine vo_val _ (runs_eqB rfl rfl) rfl ?_ | refine vo_val _ (runs_neB rfl rfl) rfl ?_ | refine vo_build rfl rfl rfl ?_ | refine vo_val _ (runs_index0 rfl (by omega)) rfl ?_ | refine vo_val _ (runs_index rfl rfl (by omega)) rfl ?_ | refine vs_drawn (by kernel_rfl) ?_ | refine vq_pure rfl rfl ?_ | refine vo_val _ (runs_nilCheck rfl) rfl ?_ | refine vq_val _ (fun _ _=>runs_nilCheck rfl) rfl ?_ | refine vq_guard_take rfl rfl ?_ | refine vq_guard_skip rfl rfl rfl rfl ?_ | refine vq_guard_undef rfl rfl rfl ?_ | refine vq_fieldAddr rfl rfl ?_ | refine vq_loadB rfl (by assumption) rfl rfl ?_ | refine vq_load rfl (by assumption) rfl rfl ?_ | refine vq_loadA rfl (by assumption) rfl rfl ?_ | refine vq_loadAt rfl (by assumption) rfl rfl ?_ | refine vq_val _ (fun _ _=>runs_lenS rfl) rfl ?_ | refine vq_val _ (fun _ _=>runs_lenL rfl) rfl ?_ | refine vq_val _ (fun _ _=>runs_add rfl rfl (by omega)) rfl ?_ | refine vq_val _ (fun _ _=>runs_sub rfl rfl (by omega)) rfl ?_ | refine vq_val _ (fun _ _=>runs_eqB rfl rfl) rfl ?_ | refine vq_val _ (fun _ _=>runs_neB rfl rfl) rfl ?_ | refine vq_build rfl rfl rfl ?_ | refine vq_val _ (fun _ _=>runs_index0 rfl (by omega)) rfl ?_ | refine vq_val _ (fun _ _=>runs_index rfl rfl (by omega)) rfl ?_ | refine vs_label ?_))
    refine vs_loop (E29 v0 v18 v24.length (a2.tmps.getD 0 undef) (a2.tmps.getD 4 undef) u6 u7 (.slice p9 v24.length c9)) (J29 w a0 v5 v24 v18 v17 g3 r G2.K gI gl (G2.γ 63) vs gs (a2.tmps.getD 0 undef) (a2.tmps.getD 4 undef) u6 u7 (.slice p9 v24.length c9)) (fun s=>s.1) (big,0,v19) ⟨H,(show Xv.lo .i64<=(0:Int)/\(0:Int)<=Xv.hi .i64 by decide),hJ2,hx,hU2,hV2⟩ (by unfold E29; ((repeat (refine sub_cons rfl ?_)); exact sub_nil)) ?_;clear hJ2 hx hU2 hV2 H hJ hU hV hcell e6 hgb;rintro⟨m2,v26,v27⟩ w3 ⟨H,hv26,hJ,hx,hU,hV⟩;cases m2 with
    | zero=>cases H
    | succ m2 =>
    have H:u28L9 v24 v18 v17 g3 (itF (u28L9 v24 v18 v17 g3) m2) (v26,v27)=some r:=H;dsimp only at hJ hx hU hV hv26;rw[u28L9] at H;unfold E29;dsimp only
    (repeat (first | refine vo_pure rfl rfl ?_ | refine vo_guard_take rfl rfl ?_ | refine vo_guard_skip rfl rfl rfl rfl ?_ | refine vo_guard_undef rfl rfl rfl ?_ | refine vs_seq ?_ | refine vs_region ?_ | refine oN ?_ | refine nQ ?_ | refine vs_skip ?_ | refine vs_block ?_ | refine vs_ret ?_ | refine fin_seq_ret ?_ | refine fin_blk_ret ?_ | refine fin_loop_ret ?_ | refine vs_cond_true rfl ?_ | refine vs_cond_false rfl ?_ | refine fin_blk ?_ | refine vs_exit ?_ | refine fin_seq_exit ?_ | refine fin_loop_exit ?_ | refine fin_blk_exit rfl ?_ | refine fin_blk_other rfl ?_ | refine vo_fieldAddr rfl rfl ?_ | refine vo_loadB rfl (by assumption) rfl rfl ?_ | refine vo_load rfl (by assumption) rfl ?_ | refine vo_loadA rfl (by assumption) rfl rfl ?_ | refine vo_loadAt rfl (by assumption) rfl rfl ?_ | refine vo_val _ (runs_lenS rfl) rfl ?_ | refine vo_val _ (runs_lenL rfl) rfl ?_ | refine vo_val _ (runs_add rfl rfl (by omega)) rfl ?_ | refine vo_val _ (runs_sub rfl rfl (by omega)) rfl ?_ | refine vo_val _ (runs_catL rfl rfl (by ((try simp only[List.length_append,List.length_cons,List.length_nil]); omega))) rfl ?_ | refine vq_val _ (fun _ _=>runs_catL rfl rfl (by ((try simp only[List.length_append,List.length_cons,List.length_nil]); omega))) rfl ?_ | refine vo_val _ (runs_eqB rfl rfl) rfl ?_ | refine vo_val _ (runs_neB rfl rfl) rfl ?_ | refine vo_build rfl rfl rfl ?_ | refine vo_val _ (runs_index0 rfl (by omega)) rfl ?_ | refine vo_val _ (runs_index rfl rfl (by omega)) rfl ?_ | refine vs_drawn (by kernel_rfl) ?_ | refine vq_pure rfl rfl ?_ | refine vo_val _ (runs_nilCheck rfl) rfl ?_ | refine vq_val _ (fun _ _=>runs_nilCheck rfl) rfl ?_ | refine vq_guard_take rfl rfl ?_ | refine vq_guard_skip rfl rfl rfl rfl ?_ | refine vq_guard_undef rfl rfl rfl ?_ | refine vq_fieldAddr rfl rfl ?_ | refine vq_loadB rfl (by assumption) rfl rfl ?_ | refine vq_load rfl (by assumption) rfl rfl ?_ | refine vq_loadA rfl (by assumption) rfl rfl ?_ | refine vq_loadAt rfl (by assumption) rfl rfl ?_ | refine vq_val _ (fun _ _=>runs_lenS rfl) rfl ?_ | refine vq_val _ (fun _ _=>runs_lenL rfl) rfl ?_ | refine vq_val _ (fun _ _=>runs_add rfl rfl (by omega)) rfl ?_ | refine vq_val _ (fun _ _=>runs_sub rfl rfl (by omega)) rfl ?_ | refine vq_val _ (fun _ _=>runs_eqB rfl rfl) rfl ?_ | refine vq_val _ (fun _ _=>runs_neB rfl rfl) rfl ?_ | refine vq_build rfl rfl rfl ?_ | refine vq_val _ (fun _ _=>runs_index0 rfl (by omega)) rfl ?_ | refine vq_val _ (fun _ _=>runs_index rfl rfl (by omega)) rfl ?_ | refine vs_label ?_))
    refine vs_cond rfl (fun hc3=>?_) (fun hc3=>?_)
    ·rw[if_pos hc3] at H;obtain⟨q1,H⟩:=gd_some H;obtain⟨q2,H⟩:=gd_some H;obtain⟨q3,H⟩:=gd_some H;have hn1:=in_i64 q3.1;have hn2:v26+1<=9223372036854775807:=hn1.2;have hn3 : -9223372036854775808<=v26+1:=hn1.1;have hk26:v26=(v26.toNat:Int):=by have:=q1.1.1; omega
     have hl26:v26.toNat<v24.length:=q1.2.1;obtain⟨b9,o9,cap9,e9',hc9,hi9⟩:=row_int hx.1 hl26;have hkx:v24.getD v26.toNat 0=((v24.getD v26.toNat 0).toNat:Int):=by have:=q2.1.1; omega
     have hlx:(v24.getD v26.toNat 0).toNat<v27.length:=q2.2.1;obtain⟨b6,o6,cap6,e6,hc6,hg6,_⟩:=row_bool hJ.flg hlx
     (repeat (first | refine vo_pure rfl rfl ?_ | refine vo_guard_take rfl rfl ?_ | refine vo_guard_skip rfl rfl rfl rfl ?_ | refine vo_guard_undef rfl rfl rfl ?_ | refine vs_seq ?_ | refine vs_region ?_ | refine oN ?_ | refine nQ ?_ | refine vs_skip ?_ | refine vs_block ?_ | refine vs_ret ?_ | refine fin_seq_ret ?_ | refine fin_blk_ret ?_ | refine fin_loop_ret ?_ | refine vs_cond_true rfl ?_ | refine vs_cond_false rfl ?_ | refine fin_blk ?_ | refine vs_exit ?_ | refine fin_seq_exit ?_ | refine fin_loop_exit ?_ | refine fin_blk_exit rfl ?_ | refine fin_blk_other rfl ?_ | refine vo_fieldAddr rfl rfl ?_ | refine vo_loadB rfl (by assumption) rfl rfl ?_ | refine vo_load rfl (by assumption) rfl ?_ | refine vo_loadA rfl (by assumption) rfl rfl ?_ | refine vo_loadAt rfl (by assumption) rfl rfl ?_ | refine vo_val _ (runs_lenS rfl) rfl ?_ | refine vo_val _ (runs_lenL rfl) rfl ?_ | refine vo_val _ (runs_add rfl rfl (by omega)) rfl ?_ | refine vo_val _ (runs_sub rfl rfl (by omega)) rfl ?_ | refine vo_val _ (runs_catL rfl rfl (by ((try simp only[List.length_append,List.length_cons,List.length_nil]); omega))) rfl ?_ | refine vq_val _ (fun _ _=>runs_catL rfl rfl (by ((try simp only[List.length_append,List.length_cons,List.length_nil]); omega))) rfl ?_ | refine vo_val _ (runs_eqB rfl rfl) rfl ?_ | refine vo_val _ (runs_neB rfl rfl) rfl ?_ | refine vo_build rfl rfl rfl ?_ | refine vo_val _ (runs_index0 rfl (by omega)) rfl ?_ | refine vo_val _ (runs_index rfl rfl (by omega)) rfl ?_ | refine vs_drawn (by kernel_rfl) ?_ | refine vq_pure rfl rfl ?_ | refine vo_val _ (runs_nilCheck rfl) rfl ?_ | refine vq_val _ (fun _ _=>runs_nilCheck rfl) rfl ?_ | refine vq_guard_take rfl rfl ?_ | refine vq_guard_skip rfl rfl rfl rfl ?_ | refine vq_guard_undef rfl rfl rfl ?_ | refine vq_fieldAddr rfl rfl ?_ | refine vq_loadB rfl (by assumption) rfl rfl ?_ | refine vq_load rfl (by assumption) rfl rfl ?_ | refine vq_loadA rfl (by assumption) rfl rfl ?_ | refine vq_loadAt rfl (by assumption) rfl rfl ?_ | refine vq_val _ (fun _ _=>runs_lenS rfl) rfl ?_ | refine vq_val _ (fun _ _=>runs_lenL rfl) rfl ?_ | refine vq_val _ (fun _ _=>runs_add rfl rfl (by omega)) rfl ?_ | refine vq_val _ (fun _ _=>runs_sub rfl rfl (by omega)) rfl ?_ | refine vq_val _ (fun _ _=>runs_eqB rfl rfl) rfl ?_ | refine vq_val _ (fun _ _=>runs_neB rfl rfl) rfl ?_ | refine vq_build rfl rfl rfl ?_ | refine vq_val _ (fun _ _=>runs_index0 rfl (by omega)) rfl ?_ | refine vq_val _ (fun _ _=>runs_index rfl rfl (by omega)) rfl ?_ | refine vs_label ?_))
     refine vo_idxN (k:=v26.toNat) (congrArg some e9') (congrArg (fun z=>some (Value.int .i64 z)) hk26) hl26 rfl ?_;refine vo_load rfl (by rw[Nat.mul_one]; exact hc9) rfl ?_
     (repeat (first | refine vo_pure rfl rfl ?_ | refine vo_guard_take rfl rfl ?_ | refine vo_guard_skip rfl rfl rfl rfl ?_ | refine vo_guard_undef rfl rfl rfl ?_ | refine vs_seq ?_ | refine vs_region ?_ | refine oN ?_ | refine nQ ?_ | refine vs_skip ?_ | refine vs_block ?_ | refine vs_ret ?_ | refine fin_seq_ret ?_ | refine fin_blk_ret ?_ | refine fin_loop_ret ?_ | refine vs_cond_true rfl ?_ | refine vs_cond_false rfl ?_ | refine fin_blk ?_ | refine vs_exit ?_ | refine fin_seq_exit ?_ | refine fin_loop_exit ?_ | refine fin_blk_exit rfl ?_ | refine fin_blk_other rfl ?_ | refine vo_fieldAddr rfl rfl ?_ | refine vo_loadB rfl (by assumption) rfl rfl ?_ | refine vo_load rfl (by assumption) rfl ?_ | refine vo_loadA rfl (by assumption) rfl rfl ?_ | refine vo_loadAt rfl (by assumption) rfl rfl ?_ | refine vo_val _ (runs_lenS rfl) rfl ?_ | refine vo_val _ (runs_lenL rfl) rfl ?_ | refine vo_val _ (runs_add rfl rfl (by omega)) rfl ?_ | refine vo_val _ (runs_sub rfl rfl (by omega)) rfl ?_ | refine vo_val _ (runs_catL rfl rfl (by ((try simp only[List.length_append,List.length_cons,List.length_nil]); omega))) rfl ?_ | refine vq_val _ (fun _ _=>runs_catL rfl rfl (by ((try simp only[List.length_append,List.length_cons,List.length_nil]); omega))) rfl ?_ | refine vo_val _ (runs_eqB rfl rfl) rfl ?_ | refine vo_val _ (runs_neB rfl rfl) rfl ?_ | refine vo_build rfl rfl rfl ?_ | refine vo_val _ (runs_index0 rfl (by omega)) rfl ?_ | refine vo_val _ (runs_index rfl rfl (by omega)) rfl ?_ | refine vs_drawn (by kernel_rfl) ?_ | refine vq_pure rfl rfl ?_ | refine vo_val _ (runs_nilCheck rfl) rfl ?_ | refine vq_val _ (fun _ _=>runs_nilCheck rfl) rfl ?_ | refine vq_guard_take rfl rfl ?_ | refine vq_guard_skip rfl rfl rfl rfl ?_ | refine vq_guard_undef rfl rfl rfl ?_ | refine vq_fieldAddr rfl rfl ?_ | refine vq_loadB rfl (by assumption) rfl rfl ?_ | refine vq_load rfl (by assumption) rfl rfl ?_ | refine vq_loadA rfl (by assumption) rfl rfl ?_ | refine vq_loadAt rfl (by assumption) rfl rfl ?_ | refine vq_val _ (fun _ _=>runs_lenS rfl) rfl ?_ | refine vq_val _ (fun _ _=>runs_lenL rfl) rfl ?_ | refine vq_val _ (fun _ _=>runs_add rfl rfl (by omega)) rfl ?_ | refine vq_val _ (fun _ _=>runs_sub rfl rfl (by omega)) rfl ?_ | refine vq_val _ (fun _ _=>runs_eqB rfl rfl) rfl ?_ | refine vq_val _ (fun _ _=>runs_neB rfl rfl) rfl ?_ | refine vq_build rfl rfl rfl ?_ | refine vq_val _ (fun _ _=>runs_index0 rfl (by omega)) rfl ?_ | refine vq_val _ (fun _ _=>runs_index rfl rfl (by omega)) rfl ?_ | refine vs_label ?_))
     refine vo_idxN (k:=(v24.getD v26.toNat 0).toNat) (congrArg some e6) (congrArg (fun z=>some (Value.int .i64 z)) hkx) hlx rfl ?_;rw[Nat.mul_one];refine vo_storeF rfl rfl (by rw[<- e6]; exact hJ.flg) hlx (hJ.fg b6 hg6).2.1 ?_;intro w4 hO hu hF;rw[<- e6] at hF;have hx:=hJ.nww hg6 hO hu hx;have hU:=hJ.rtw hg6 hO hU;have hV:=hJ.rtw hg6 hO hV;have hJ:=hJ.wr hg6 hO hu hF
     (repeat (first | refine vo_pure rfl rfl ?_ | refine vo_guard_take rfl rfl ?_ | refine vo_guard_skip rfl rfl rfl rfl ?_ | refine vo_guard_undef rfl rfl rfl ?_ | refine vs_seq ?_ | refine vs_region ?_ | refine oN ?_ | refine nQ ?_ | refine vs_skip ?_ | refine vs_block ?_ | refine vs_ret ?_ | refine fin_seq_ret ?_ | refine fin_blk_ret ?_ | refine fin_loop_ret ?_ | refine vs_cond_true rfl ?_ | refine vs_cond_false rfl ?_ | refine fin_blk ?_ | refine vs_exit ?_ | refine fin_seq_exit ?_ | refine fin_loop_exit ?_ | refine fin_blk_exit rfl ?_ | refine fin_blk_other rfl ?_ | refine vo_fieldAddr rfl rfl ?_ | refine vo_loadB rfl (by assumption) rfl rfl ?_ | refine vo_load rfl (by assumption) rfl ?_ | refine vo_loadA rfl (by assumption) rfl rfl ?_ | refine vo_loadAt rfl (by assumption) rfl rfl ?_ | refine vo_val _ (runs_lenS rfl) rfl ?_ | refine vo_val _ (runs_lenL rfl) rfl ?_ | refine vo_val _ (runs_add rfl rfl (by omega)) rfl ?_ | refine vo_val _ (runs_sub rfl rfl (by omega)) rfl ?_ | refine vo_val _ (runs_catL rfl rfl (by ((try simp only[List.length_append,List.length_cons,List.length_nil]); omega))) rfl ?_ | refine vq_val _ (fun _ _=>runs_catL rfl rfl (by ((try simp only[List.length_append,List.length_cons,List.length_nil]); omega))) rfl ?_ | refine vo_val _ (runs_eqB rfl rfl) rfl ?_ | refine vo_val _ (runs_neB rfl rfl) rfl ?_ | refine vo_build rfl rfl rfl ?_ | refine vo_val _ (runs_index0 rfl (by omega)) rfl ?_ | refine vo_val _ (runs_index rfl rfl (by omega)) rfl ?_ | refine vs_drawn (by kernel_rfl) ?_ | refine vq_pure rfl rfl ?_ | refine vo_val _ (runs_nilCheck rfl) rfl ?_ | refine vq_val _ (fun _ _=>runs_nilCheck rfl) rfl ?_ | refine vq_guard_take rfl rfl ?_ | refine vq_guard_skip rfl rfl rfl rfl ?_ | refine vq_guard_undef rfl rfl rfl ?_ | refine vq_fieldAddr rfl rfl ?_ | refine vq_loadB rfl (by assumption) rfl rfl ?_ | refine vq_load rfl (by assumption) rfl rfl ?_ | refine vq_loadA rfl (by assumption) rfl rfl ?_ | refine vq_loadAt rfl (by assumption) rfl rfl ?_ | refine vq_val _ (fun _ _=>runs_lenS rfl) rfl ?_ | refine vq_val _ (fun _ _=>runs_lenL rfl) rfl ?_ | refine vq_val _ (fun _ _=>runs_add rfl rfl (by omega)) rfl ?_ | refine vq_val _ (fun _ _=>runs_sub rfl rfl (by omega)) rfl ?_ | refine vq_val _ (fun _ _=>runs_eqB rfl rfl) rfl ?_ | refine vq_val _ (fun _ _=>runs_neB rfl rfl) rfl ?_ | refine vq_build rfl rfl rfl ?_ | refine vq_val _ (fun _ _=>runs_index0 rfl (by omega)) rfl ?_ | refine vq_val _ (fun _ _=>runs_index rfl rfl (by omega)) rfl ?_ | refine vs_label ?_))
     exact fin_loop (m2,v26+1,v27.set (v24.getD v26.toNat 0).toNat true) ⟨H,hn1,hJ,hx,hU,hV⟩ (Nat.lt_succ_self m2) (by ((repeat (refine sub_cons rfl ?_)); exact sub_nil))
    rw[if_neg (by rw[hc3]; decide),u28J8] at H;obtain⟨q1,H⟩:=gd_some H;have q11:=q1.1.1;have q12:=q1.1.2;rw[List.length_singleton] at q11 q12;rw[u28J4] at H;obtain⟨hn,H⟩:=gd_some H;have hn1:=in_i64 hn.1;have hn2:v18+1<=9223372036854775807:=hn1.2;have hn3 : -9223372036854775808<=v18+1:=hn1.1;refine vs_exit ?_;refine fin_seq_exit ?_;refine fin_loop_exit ?_;refine fin_blk_exit rfl ?_;refine nQ ?_
    (repeat (first | refine vo_pure rfl rfl ?_ | refine vo_guard_take rfl rfl ?_ | refine vo_guard_skip rfl rfl rfl rfl ?_ | refine vo_guard_undef rfl rfl rfl ?_ | refine vs_seq ?_ | refine vs_region ?_ | refine oN ?_ | refine nQ ?_ | refine vs_skip ?_ | refine vs_block ?_ | refine vs_ret ?_ | refine fin_seq_ret ?_ | refine fin_blk_ret ?_ | refine fin_loop_ret ?_ | refine vs_cond_true rfl ?_ | refine vs_cond_false rfl ?_ | refine fin_blk ?_ | refine vs_exit ?_ | refine fin_seq_exit ?_ | refine fin_loop_exit ?_ | refine fin_blk_exit rfl ?_ | refine fin_blk_other rfl ?_ | refine vo_fieldAddr rfl rfl ?_ | refine vo_loadB rfl (by assumption) rfl rfl ?_ | refine vo_load rfl (by assumption) rfl ?_ | refine vo_loadA rfl (by assumption) rfl rfl ?_ | refine vo_loadAt rfl (by assumption) rfl rfl ?_ | refine vo_val _ (runs_lenS rfl) rfl ?_ | refine vo_val _ (runs_lenL rfl) rfl ?_ | refine vo_val _ (runs_add rfl rfl (by omega)) rfl ?_ | refine vo_val _ (runs_sub rfl rfl (by omega)) rfl ?_ | refine vo_val _ (runs_catL rfl rfl (by ((try simp only[List.length_append,List.length_cons,List.length_nil]); omega))) rfl ?_ | refine vq_val _ (fun _ _=>runs_catL rfl rfl (by ((try simp only[List.length_append,List.length_cons,List.length_nil]); omega))) rfl ?_ | refine vo_val _ (runs_eqB rfl rfl) rfl ?_ | refine vo_val _ (runs_neB rfl rfl) rfl ?_ | refine vo_build rfl rfl rfl ?_ | refine vo_val _ (runs_index0 rfl (by omega)) rfl ?_ | refine vo_val _ (runs_index rfl rfl (by omega)) rfl ?_ | refine vs_drawn (by kernel_rfl) ?_ | refine vq_pure rfl rfl ?_ | refine vo_val _ (runs_nilCheck rfl) rfl ?_ | refine vq_val _ (fun _ _=>runs_nilCheck rfl) rfl ?_ | refine vq_guard_take rfl rfl ?_ | refine vq_guard_skip rfl rfl rfl rfl ?_ | refine vq_guard_undef rfl rfl rfl ?_ | refine vq_fieldAddr rfl rfl ?_ | refine vq_loadB rfl (by assumption) rfl rfl ?_ | refine vq_load rfl (by assumption) rfl rfl ?_ | refine vq_loadA rfl (by assumption) rfl rfl ?_ | refine vq_loadAt rfl (by assumption) rfl rfl ?_ | refine vq_val _ (fun _ _=>runs_lenS rfl) rfl ?_ | refine vq_val _ (fun _ _=>runs_lenL rfl) rfl ?_ | refine vq_val _ (fun _ _=>runs_add rfl rfl (by omega)) rfl ?_ | refine vq_val _ (fun _ _=>runs_sub rfl rfl (by omega)) rfl ?_ | refine vq_val _ (fun _ _=>runs_eqB rfl rfl) rfl ?_ | refine vq_val _ (fun _ _=>runs_neB rfl rfl) rfl ?_ | refine vq_build rfl rfl rfl ?_ | refine vq_val _ (fun _ _=>runs_index0 rfl (by omega)) rfl ?_ | refine vq_val _ (fun _ _=>runs_index rfl rfl (by omega)) rfl ?_ | refine vs_label ?_))
    refine vo_buildSlice rfl rfl rfl rfl rfl ?_;intro bN w4 hN BN;have hEN:=hN.ext
    (repeat (first | refine vo_pure rfl rfl ?_ | refine vo_guard_take rfl rfl ?_ | refine vo_guard_skip rfl rfl rfl rfl ?_ | refine vo_guard_undef rfl rfl rfl ?_ | refine vs_seq ?_ | refine vs_region ?_ | refine oN ?_ | refine nQ ?_ | refine vs_skip ?_ | refine vs_block ?_ | refine vs_ret ?_ | refine fin_seq_ret ?_ | refine fin_blk_ret ?_ | refine fin_loop_ret ?_ | refine vs_cond_true rfl ?_ | refine vs_cond_false rfl ?_ | refine fin_blk ?_ | refine vs_exit ?_ | refine fin_seq_exit ?_ | refine fin_loop_exit ?_ | refine fin_blk_exit rfl ?_ | refine fin_blk_other rfl ?_ | refine vo_fieldAddr rfl rfl ?_ | refine vo_loadB rfl (by assumption) rfl rfl ?_ | refine vo_load rfl (by assumption) rfl ?_ | refine vo_loadA rfl (by assumption) rfl rfl ?_ | refine vo_loadAt rfl (by assumption) rfl rfl ?_ | refine vo_val _ (runs_lenS rfl) rfl ?_ | refine vo_val _ (runs_lenL rfl) rfl ?_ | refine vo_val _ (runs_add rfl rfl (by omega)) rfl ?_ | refine vo_val _ (runs_sub rfl rfl (by omega)) rfl ?_ | refine vo_val _ (runs_catL rfl rfl (by ((try simp only[List.length_append,List.length_cons,List.length_nil]); omega))) rfl ?_ | refine vq_val _ (fun _ _=>runs_catL rfl rfl (by ((try simp only[List.length_append,List.length_cons,List.length_nil]); omega))) rfl ?_ | refine vo_val _ (runs_eqB rfl rfl) rfl ?_ | refine vo_val _ (runs_neB rfl rfl) rfl ?_ | refine vo_build rfl rfl rfl ?_ | refine vo_val _ (runs_index0 rfl (by omega)) rfl ?_ | refine vo_val _ (runs_index rfl rfl (by omega)) rfl ?_ | refine vs_drawn (by kernel_rfl) ?_ | refine vq_pure rfl rfl ?_ | refine vo_val _ (runs_nilCheck rfl) rfl ?_ | refine vq_val _ (fun _ _=>runs_nilCheck rfl) rfl ?_ | refine vq_guard_take rfl rfl ?_ | refine vq_guard_skip rfl rfl rfl rfl ?_ | refine vq_guard_undef rfl rfl rfl ?_ | refine vq_fieldAddr rfl rfl ?_ | refine vq_loadB rfl (by assumption) rfl rfl ?_ | refine vq_load rfl (by assumption) rfl rfl ?_ | refine vq_loadA rfl (by assumption) rfl rfl ?_ | refine vq_loadAt rfl (by assumption) rfl rfl ?_ | refine vq_val _ (fun _ _=>runs_lenS rfl) rfl ?_ | refine vq_val _ (fun _ _=>runs_lenL rfl) rfl ?_ | refine vq_val _ (fun _ _=>runs_add rfl rfl (by omega)) rfl ?_ | refine vq_val _ (fun _ _=>runs_sub rfl rfl (by omega)) rfl ?_ | refine vq_val _ (fun _ _=>runs_eqB rfl rfl) rfl ?_ | refine vq_val _ (fun _ _=>runs_neB rfl rfl) rfl ?_ | refine vq_build rfl rfl rfl ?_ | refine vq_val _ (fun _ _=>runs_index0 rfl (by omega)) rfl ?_ | refine vq_val _ (fun _ _=>runs_index rfl rfl (by omega)) rfl ?_ | refine vs_label ?_))
    refine vo_append (m:=1) (news:=[.slice p9 v24.length c9]) (b2:=bN) (o2:=0) rfl rfl rfl rfl rfl (hJ.lst.up hEN) (.inr rfl) rfl BN.at rfl (by omega) (by omega) ?_;intro v' w5 g' hO' hWE hg';obtain⟨hJ',hRT⟩:=hJ.row hEN hx hWE hO' hg';have hU:=hRT hU;have hV:=hRT hV
    (repeat (first | refine vo_pure rfl rfl ?_ | refine vo_guard_take rfl rfl ?_ | refine vo_guard_skip rfl rfl rfl rfl ?_ | refine vo_guard_undef rfl rfl rfl ?_ | refine vs_seq ?_ | refine vs_region ?_ | refine oN ?_ | refine nQ ?_ | refine vs_skip ?_ | refine vs_block ?_ | refine vs_ret ?_ | refine fin_seq_ret ?_ | refine fin_blk_ret ?_ | refine fin_loop_ret ?_ | refine vs_cond_true rfl ?_ | refine vs_cond_false rfl ?_ | refine fin_blk ?_ | refine vs_exit ?_ | refine fin_seq_exit ?_ | refine fin_loop_exit ?_ | refine fin_blk_exit rfl ?_ | refine fin_blk_other rfl ?_ | refine vo_fieldAddr rfl rfl ?_ | refine vo_loadB rfl (by assumption) rfl rfl ?_ | refine vo_load rfl (by assumption) rfl ?_ | refine vo_loadA rfl (by assumption) rfl rfl ?_ | refine vo_loadAt rfl (by assumption) rfl rfl ?_ | refine vo_val _ (runs_lenS rfl) rfl ?_ | refine vo_val _ (runs_lenL rfl) rfl ?_ | refine vo_val _ (runs_add rfl rfl (by omega)) rfl ?_ | refine vo_val _ (runs_sub rfl rfl (by omega)) rfl ?_ | refine vo_val _ (runs_catL rfl rfl (by ((try simp only[List.length_append,List.length_cons,List.length_nil]); omega))) rfl ?_ | refine vq_val _ (fun _ _=>runs_catL rfl rfl (by ((try simp only[List.length_append,List.length_cons,List.length_nil]); omega))) rfl ?_ | refine vo_val _ (runs_eqB rfl rfl) rfl ?_ | refine vo_val _ (runs_neB rfl rfl) rfl ?_ | refine vo_build rfl rfl rfl ?_ | refine vo_val _ (runs_index0 rfl (by omega)) rfl ?_ | refine vo_val _ (runs_index rfl rfl (by omega)) rfl ?_ | refine vs_drawn (by kernel_rfl) ?_ | refine vq_pure rfl rfl ?_ | refine vo_val _ (runs_nilCheck rfl) rfl ?_ | refine vq_val _ (fun _ _=>runs_nilCheck rfl) rfl ?_ | refine vq_guard_take rfl rfl ?_ | refine vq_guard_skip rfl rfl rfl rfl ?_ | refine vq_guard_undef rfl rfl rfl ?_ | refine vq_fieldAddr rfl rfl ?_ | refine vq_loadB rfl (by assumption) rfl rfl ?_ | refine vq_load rfl (by assumption) rfl rfl ?_ | refine vq_loadA rfl (by assumption) rfl rfl ?_ | refine vq_loadAt rfl (by assumption) rfl rfl ?_ | refine vq_val _ (fun _ _=>runs_lenS rfl) rfl ?_ | refine vq_val _ (fun _ _=>runs_lenL rfl) rfl ?_ | refine vq_val _ (fun _ _=>runs_add rfl rfl (by omega)) rfl ?_ | refine vq_val _ (fun _ _=>runs_sub rfl rfl (by omega)) rfl ?_ | refine vq_val _ (fun _ _=>runs_eqB rfl rfl) rfl ?_ | refine vq_val _ (fun _ _=>runs_neB rfl rfl) rfl ?_ | refine vq_build rfl rfl rfl ?_ | refine vq_val _ (fun _ _=>runs_index0 rfl (by omega)) rfl ?_ | refine vq_val _ (fun _ _=>runs_index rfl rfl (by omega)) rfl ?_ | refine vs_label ?_))
    exact fin_loop (m,(v17++[v24],v18+1,v27),a2.tmps.getD 0 undef,a2.tmps.getD 4 undef,u6,v') ⟨by rw[hg3] at H; exact H,hn1,G2.K,gI,g',_,_,hJ',hU,hV⟩ (Nat.lt_succ_self m) (by ((repeat (refine sub_cons rfl ?_)); exact sub_nil))
   refine qa tok hT [0,3,4,6,7,8,9,32,33,40,41] (St.mk [p 0 (D y119.pt a0),p 3 (I v0),p 4 (L Ty.bool.sl v5),p 6 (AV.v u6),p 7 (AV.v u7),p 8 (I v18),p 9 (AV.v (Value.slice none 0 0)),p 32 (I v0),p 33 (I v18),p 40 (I v0),p 41 (I 0)] []) (by kernel_rfl) ?_;refine vB<|?_
   refine lx (fun((v21,v22):List Int×Int)=>St.mk [p 0 (D y119.pt a0),p 3 (I v0),p 4 (L Ty.bool.sl v5),p 6 (AV.v u6),p 7 (AV.v u7),p 8 (I v18),p 9 (AV.os 63 0),p 32 (I v0),p 33 (I v18),p 40 (I v0),p 41 (I v22)] [(63,Ob.arr 2 true i64 v21 0)]) ([],0) H (by kernel_rfl) fun _ g6 b6 e6 t6 ⟨v21,v22⟩ H=>?_;refine qa tok hT [0,3,4,6,7,8,9,32,33,40,41,42] (St.mk [p 0 (D y119.pt a0),p 3 (I v0),p 4 (L Ty.bool.sl v5),p 6 (AV.v u6),p 7 (AV.v u7),p 8 (I v18),p 9 (AV.os 63 0),p 32 (I v0),p 33 (I v18),p 40 (I v0),p 41 (I v22),p 42 (B (decide (v22<v0)))] [(63,Ob.arr 2 true i64 v21 0)]) (by kernel_rfl) ?_;refine vQ<|?_
   refine cd H (by kernel_rfl) (fun H=>?_) (fun H=>?_)
   ·refine vK<|fQ<|?_
    refine jn r (fun(v23:List Int)=>St.mk [p 0 (D y119.pt a0),p 3 (I v0),p 4 (L Ty.bool.sl v5),p 6 (AV.v u6),p 7 (AV.v u7),p 8 (I v18),p 9 (AV.os 63 0),p 32 (I v0),p 33 (I v18),p 40 (I v0),p 41 (I v22)] [(63,Ob.arr 2 true i64 v23 0)]) (u28J7 v22 g6) (fun v23 H=>?_) (fun _ n7 e7 t7=>?_)
    ·refine zb tok hT [0,3,4,6,7,8,9,32,33,40,41] (St.mk [p 0 (D y119.pt a0),p 3 (I v0),p 4 (L Ty.bool.sl v5),p 6 (AV.v u6),p 7 (AV.v u7),p 8 (I v18),p 9 (AV.os 63 0),p 32 (I v0),p 33 (I v18),p 40 (I v0),p 41 (I (v22+1))] [(63,Ob.arr 2 true i64 v23 0)]) H (by kernel_rfl) fun H=>?_;exact b6 H (by kernel_rfl)
    refine vB<|?_
    refine qa tok hT [0,3,4,6,7,8,9,10,32,33,40,41] (St.mk [p 0 (D y119.pt a0),p 3 (I v0),p 4 (L Ty.bool.sl v5),p 6 (AV.v u6),p 7 (AV.v u7),p 8 (I v18),p 9 (AV.os 63 0),p 10 (I v22),p 32 (I v0),p 33 (I v18),p 40 (I v0),p 41 (I v22)] [(63,Ob.arr 2 true i64 v21 0)]) (by kernel_rfl) ?_;obtain⟨⟨q1,q2,q3,q4,q5,q6,_⟩,H⟩:=gd_some H
    replace H:=(gP (show ix v18 v5.length/\ix v22 (List.length (v5.getD v18.toNat []))/\(List.getD (v5.getD v18.toNat []) v22.toNat false=true/\True->ix v22 v5.length)/\(List.getD (v5.getD v18.toNat []) v22.toNat false=true/\True->ix v18 (List.length (v5.getD v22.toNat [])))/\True from⟨q1,q3,q4,q6,trivial⟩)).trans H
    refine qb tok hT [0,3,4,6,7,8,9,10,32,33,40,41,52,53,54,55,56,57,58,59] (St.mk [p 0 (D y119.pt a0),p 3 (I v0),p 4 (L Ty.bool.sl v5),p 6 (AV.v u6),p 7 (AV.v u7),p 8 (I v18),p 9 (AV.os 63 0),p 10 (I v22),p 32 (I v0),p 33 (I v18),p 40 (I v0),p 41 (I v22),p 59 (B (List.getD (v5.getD v18.toNat []) v22.toNat false&&List.getD (v5.getD v22.toNat []) v18.toNat false))] [(63,Ob.arr 2 true i64 v21 0)]) H (by kernel_rfl) fun H=>?_;refine cd H (by kernel_rfl) (fun H=>?_) (fun H=>?_)
    ·refine zb tok hT [0,3,4,6,7,8,9,32,33,40,41] (St.mk [p 0 (D y119.pt a0),p 3 (I v0),p 4 (L Ty.bool.sl v5),p 6 (AV.v u6),p 7 (AV.v u7),p 8 (I v18),p 9 (AV.os 63 1),p 32 (I v0),p 33 (I v18),p 40 (I v0),p 41 (I v22)] [(63,Ob.arr 2 true i64 (v21++[v22]) 1),(62,Ob.arr 2 true i64 [v22] 0)]) H (by kernel_rfl) fun H=>?_;exact fK<|n7 H (by kernel_rfl)
    exact vK<|fK<|n7 H (by kernel_rfl)
   exact vE<|fE<|e6<|fX rfl<|n5 H (by kernel_rfl)
  rw[if_neg (by rw[hc]; decide),u28J2] at H;cases H
  (repeat (first | refine vo_pure rfl rfl ?_ | refine vo_guard_take rfl rfl ?_ | refine vo_guard_skip rfl rfl rfl rfl ?_ | refine vo_guard_undef rfl rfl rfl ?_ | refine vs_seq ?_ | refine vs_region ?_ | refine oN ?_ | refine nQ ?_ | refine vs_skip ?_ | refine vs_block ?_ | refine vs_ret ?_ | refine fin_seq_ret ?_ | refine fin_blk_ret ?_ | refine fin_loop_ret ?_ | refine vs_cond_true rfl ?_ | refine vs_cond_false rfl ?_ | refine fin_blk ?_ | refine vs_exit ?_ | refine fin_seq_exit ?_ | refine fin_loop_exit ?_ | refine fin_blk_exit rfl ?_ | refine fin_blk_other rfl ?_ | refine vo_fieldAddr rfl rfl ?_ | refine vo_loadB rfl (by assumption) rfl rfl ?_ | refine vo_load rfl (by assumption) rfl ?_ | refine vo_loadA rfl (by assumption) rfl rfl ?_ | refine vo_loadAt rfl (by assumption) rfl rfl ?_ | refine vo_val _ (runs_lenS rfl) rfl ?_ | refine vo_val _ (runs_lenL rfl) rfl ?_ | refine vo_val _ (runs_add rfl rfl (by omega)) rfl ?_ | refine vo_val _ (runs_sub rfl rfl (by omega)) rfl ?_ | refine vo_val _ (runs_catL rfl rfl (by ((try simp only[List.length_append,List.length_cons,List.length_nil]); omega))) rfl ?_ | refine vq_val _ (fun _ _=>runs_catL rfl rfl (by ((try simp only[List.length_append,List.length_cons,List.length_nil]); omega))) rfl ?_ | refine vo_val _ (runs_eqB rfl rfl) rfl ?_ | refine vo_val _ (runs_neB rfl rfl) rfl ?_ | refine vo_build rfl rfl rfl ?_ | refine vo_val _ (runs_index0 rfl (by omega)) rfl ?_ | refine vo_val _ (runs_index rfl rfl (by omega)) rfl ?_ | refine vs_drawn (by kernel_rfl) ?_ | refine vq_pure rfl rfl ?_ | refine vo_val _ (runs_nilCheck rfl) rfl ?_ | refine vq_val _ (fun _ _=>runs_nilCheck rfl) rfl ?_ | refine vq_guard_take rfl rfl ?_ | refine vq_guard_skip rfl rfl rfl rfl ?_ | refine vq_guard_undef rfl rfl rfl ?_ | refine vq_fieldAddr rfl rfl ?_ | refine vq_loadB rfl (by assumption) rfl rfl ?_ | refine vq_load rfl (by assumption) rfl rfl ?_ | refine vq_loadA rfl (by assumption) rfl rfl ?_ | refine vq_loadAt rfl (by assumption) rfl rfl ?_ | refine vq_val _ (fun _ _=>runs_lenS rfl) rfl ?_ | refine vq_val _ (fun _ _=>runs_lenL rfl) rfl ?_ | refine vq_val _ (fun _ _=>runs_add rfl rfl (by omega)) rfl ?_ | refine vq_val _ (fun _ _=>runs_sub rfl rfl (by omega)) rfl ?_ | refine vq_val _ (fun _ _=>runs_eqB rfl rfl) rfl ?_ | refine vq_val _ (fun _ _=>runs_neB rfl rfl) rfl ?_ | refine vq_build rfl rfl rfl ?_ | refine vq_val _ (fun _ _=>runs_index0 rfl (by omega)) rfl ?_ | refine vq_val _ (fun _ _=>runs_index rfl rfl (by omega)) rfl ?_ | refine vs_label ?_))
  (first | refine fin_ret1 Tryz.results28 rfl ?_ | refine fin_end1 Tryz.results28 rfl ?_ | refine fin_ret2 Tryz.results28 rfl rfl ?_ | refine fin_retC1 Tryz.results28 rfl (by assumption) rfl rfl ?_ | refine fin_retC Tryz.results28 rfl (by assumption) rfl ?_)
  exact⟨_,rfl,hJ.ext0,hJ.apr⟩
 refine qa tok hT [0,3,4,18,19] (St.mk [p 0 (D y119.pt a0),p 3 (I v0),p 4 (AV.v (Value.slice none 0 0)),p 18 (I v0),p 19 (I 0)] []) (by kernel_rfl) ?_;refine vB<|?_
 refine lx (fun((v2,v3):List (List Bool)×Int)=>St.mk [p 0 (D y119.pt a0),p 3 (I v0),p 4 (AV.os 28 0),p 18 (I v0),p 19 (I v3)] [(28,Ob.arr 65 true Ty.bool.sl v2 0)]) ([],0) H (by kernel_rfl) fun _ g1 b1 e1 t1 ⟨v2,v3⟩ H=>?_;refine qa tok hT [0,3,4,18,19,20] (St.mk [p 0 (D y119.pt a0),p 3 (I v0),p 4 (AV.os 28 0),p 18 (I v0),p 19 (I v3),p 20 (B (decide (v3<v0)))] [(28,Ob.arr 65 true Ty.bool.sl v2 0)]) (by kernel_rfl) ?_;refine vQ<|?_
 refine cd H (by kernel_rfl) (fun H=>?_) (fun H=>?_)
 ·refine vK<|fQ<|vQ<|vB<|?_
  refine qa tok hT [0,3,4,5,18,19] (St.mk [p 0 (D y119.pt a0),p 3 (I v0),p 4 (AV.os 28 0),p 5 (I v3),p 18 (I v0),p 19 (I v3)] [(28,Ob.arr 65 true Ty.bool.sl v2 0)]) (by kernel_rfl) ?_;refine zd tok hT [0,3,4,18,19] (fun v4=>St.mk [p 0 (D y119.pt a0),p 3 (I v0),p 4 (AV.os 28 1),p 18 (I v0),p 19 (I v3)] [(28,Ob.arr 65 true Ty.bool.sl (v2++[v4]) 1),(27,Ob.arr 65 true Ty.bool.sl [v4] 0),(25,Ob.arr 2 true i64 [v3] 0)]) H (by kernel_rfl) fun v4 H=>?_;refine fK<|fQ<|?_
  refine zb tok hT [0,3,4,18,19] (St.mk [p 0 (D y119.pt a0),p 3 (I v0),p 4 (AV.os 28 1),p 18 (I v0),p 19 (I (v3+1))] [(28,Ob.arr 65 true Ty.bool.sl (v2++[v4]) 1),(27,Ob.arr 65 true Ty.bool.sl [v4] 0),(25,Ob.arr 2 true i64 [v3] 0)]) H (by kernel_rfl) fun H=>?_;exact b1 H (by kernel_rfl)
 exact vE<|fE<|e1<|fX rfl<|n0 H (by kernel_rfl)
theorem apr_nil{n m:Nat}{w:World}:ApR n m w (.slice none 0 0) []:=⟨none,0,[],[],rfl,Nat.le_refl _,by omega,⟨rfl,rfl⟩,trivial,.inl rfl⟩
set_option maxHeartbeats 4000000 in
theorem cA8{a0:Y47}{a1:List Int}{l:List (List Int)}{c:Int}{w:World}{vs:List Value}(H:u8 a0 a1=some (l,c))(ha:ArgsR (fun k=>k<w.heap.size) w none [.agg y47,.dat i64.sl] (a0,a1,()) vs):Calls Tryz.prog 8 vs.toArray w fun en w'=>∃u,en=.returned (.tuple #[u,.int .i64 c])/\Ext w w'/\ApR w.heap.size w'.heap.size w' u l:=by
 have hF:Fac Tryz.prog w:=FacT.h _;refine calls_vx (ps:=[.agg y47,.dat i64.sl]) (x:=(a0,a1,())) (go:=none) (K:=fun k=>k<w.heap.size) Tryz.func8 Tryz.ntmps8 rfl rfl ⟨fun _ h=>h,w,hF,Ext.refl w,fun k e=>by cases e⟩ ha ?_;have hT:=@tn Tryz.prog;refine qa tok hT [1,2] (St.mk [p 1 (L i64 a1),p 2 (AV.ptr 2 0)] [(2,Ob.box 47 (cellsD false y47 a0))]) (by kernel_rfl) ?_;refine sp H (fun H=>?_) (fun H=>?_)
 ·have hT:=tc o27L hT;refine qb tok hT [6,7] (St.mk [p 6 (AV.v (Value.pointer none)),p 7 (I (vL (u27 a0 a1)))] [(2,Ob.box 47 (cellsD false y47 a0))]) H (by kernel_rfl) fun H=>?_;refine vQ<|?_
  refine qa tok hT [6,7,15] (St.mk [p 6 (AV.v (Value.pointer none)),p 7 (I (vL (u27 a0 a1))),p 15 (B (vL (u27 a0 a1) != 0))] [(2,Ob.box 47 (cellsD false y47 a0))]) (by kernel_rfl) ?_;refine cd H (by kernel_rfl) (fun H=>?_) (fun H=>?_)
  ·refine qa tok hT [4,5] (St.mk [p 4 (AV.v (Value.slice none 0 0)),p 5 (I (vL (u27 a0 a1)))] [(2,Ob.box 47 (cellsD false y47 a0))]) (by kernel_rfl) ?_;refine vTT<|fR<|fx_fs fun G2 a2 S2 ho2 hE2=>⟨(5,.int .i64 (vL (u27 a0 a1))) :: (4,.slice none 0 0) :: [],agr_cons (agr_cons (agr_nil hE2) (hE2.at (t:=4) (A:=AV.v (Value.slice none 0 0)) rfl)) (avr_i64 (hE2.at (t:=5) (A:=I (vL (u27 a0 a1))) rfl)).1,?_⟩
   cases H;refine fin_ret2 Tryz.results8 rfl rfl ?_;exact⟨_,rfl,sat_ext S2,apr_nil⟩
  exact vK<|fQ<|dead H
 have hT:=tc o27R hT;refine qb tok hT [6,7] (St.mk [p 6 (D y119.pt (vR (u27 a0 a1)).1),p 7 (I (vR (u27 a0 a1)).2)] [(2,Ob.box 47 (cellsD false y47 a0))]) H (by kernel_rfl) fun H=>?_;refine vQ<|?_
 refine qa tok hT [6,7,15] (St.mk [p 6 (D y119.pt (vR (u27 a0 a1)).1),p 7 (I (vR (u27 a0 a1)).2),p 15 (B ((vR (u27 a0 a1)).2 != 0))] [(2,Ob.box 47 (cellsD false y47 a0))]) (by kernel_rfl) ?_;refine cd H (by kernel_rfl) (fun H=>?_) (fun H=>?_)
 ·refine qa tok hT [4,5] (St.mk [p 4 (AV.v (Value.slice none 0 0)),p 5 (I (vR (u27 a0 a1)).2)] [(2,Ob.box 47 (cellsD false y47 a0))]) (by kernel_rfl) ?_;refine vTT<|fR<|fx_fs fun G2 a2 S2 ho2 hE2=>⟨(5,.int .i64 (vR (u27 a0 a1)).2) :: (4,.slice none 0 0) :: [],agr_cons (agr_cons (agr_nil hE2) (hE2.at (t:=4) (A:=AV.v (Value.slice none 0 0)) rfl)) (avr_i64 (hE2.at (t:=5) (A:=I (vR (u27 a0 a1)).2) rfl)).1,?_⟩
  cases H;refine fin_ret2 Tryz.results8 rfl rfl ?_;exact⟨_,rfl,sat_ext S2,apr_nil⟩
 refine vK<|fQ<|?_
 obtain⟨hs,H⟩:=gd_some H;obtain⟨l',hl⟩:=Option.isSome_iff_exists.1 hs.1;rw[hl] at H;cases H;refine vx_vs fun G2 a2 S2 ho2 hE2=>⟨(6,a2.tmps.getD 6 undef) :: [],agr_cons (agr_nil hE2) rfl,?_⟩;have hR:RT (fun k=>k<G2.w.heap.size) G2.w y119.pt [a2.tmps.getD 6 undef] (vR (u27 a0 a1)).1:=RT.up (hE2.at (t:=6) (A:=D y119.pt (vR (u27 a0 a1)).1) rfl) fun k hk=>(S2.klt k hk.1).lt;have e0:=sat_ext S2;generalize G2.w=w2 at hR e0 ⊢
 (repeat (first | refine vo_pure rfl rfl ?_ | refine vo_guard_take rfl rfl ?_ | refine vo_guard_skip rfl rfl rfl rfl ?_ | refine vo_guard_undef rfl rfl rfl ?_ | refine vs_seq ?_ | refine vs_region ?_ | refine oN ?_ | refine nQ ?_ | refine vs_skip ?_ | refine vs_block ?_ | refine vs_ret ?_ | refine fin_seq_ret ?_ | refine fin_blk_ret ?_ | refine fin_loop_ret ?_ | refine vs_cond_true rfl ?_ | refine vs_cond_false rfl ?_ | refine fin_blk ?_ | refine vs_exit ?_ | refine fin_seq_exit ?_ | refine fin_loop_exit ?_ | refine fin_blk_exit rfl ?_ | refine fin_blk_other rfl ?_ | refine vo_fieldAddr rfl rfl ?_ | refine vo_loadB rfl (by assumption) rfl rfl ?_ | refine vo_load rfl (by assumption) rfl ?_ | refine vo_loadA rfl (by assumption) rfl rfl ?_ | refine vo_loadAt rfl (by assumption) rfl rfl ?_ | refine vo_val _ (runs_lenS rfl) rfl ?_ | refine vo_val _ (runs_lenL rfl) rfl ?_ | refine vo_val _ (runs_add rfl rfl (by omega)) rfl ?_ | refine vo_val _ (runs_sub rfl rfl (by omega)) rfl ?_ | refine vo_val _ (runs_catL rfl rfl (by ((try simp only[List.length_append,List.length_cons,List.length_nil]); omega))) rfl ?_ | refine vq_val _ (fun _ _=>runs_catL rfl rfl (by ((try simp only[List.length_append,List.length_cons,List.length_nil]); omega))) rfl ?_ | refine vo_val _ (runs_eqB rfl rfl) rfl ?_ | refine vo_val _ (runs_neB rfl rfl) rfl ?_ | refine vo_build rfl rfl rfl ?_ | refine vo_val _ (runs_index0 rfl (by omega)) rfl ?_ | refine vo_val _ (runs_index rfl rfl (by omega)) rfl ?_ | refine vs_drawn (by kernel_rfl) ?_ | refine vq_pure rfl rfl ?_ | refine vo_val _ (runs_nilCheck rfl) rfl ?_ | refine vq_val _ (fun _ _=>runs_nilCheck rfl) rfl ?_ | refine vq_guard_take rfl rfl ?_ | refine vq_guard_skip rfl rfl rfl rfl ?_ | refine vq_guard_undef rfl rfl rfl ?_ | refine vq_fieldAddr rfl rfl ?_ | refine vq_loadB rfl (by assumption) rfl rfl ?_ | refine vq_load rfl (by assumption) rfl rfl ?_ | refine vq_loadA rfl (by assumption) rfl rfl ?_ | refine vq_loadAt rfl (by assumption) rfl rfl ?_ | refine vq_val _ (fun _ _=>runs_lenS rfl) rfl ?_ | refine vq_val _ (fun _ _=>runs_lenL rfl) rfl ?_ | refine vq_val _ (fun _ _=>runs_add rfl rfl (by omega)) rfl ?_ | refine vq_val _ (fun _ _=>runs_sub rfl rfl (by omega)) rfl ?_ | refine vq_val _ (fun _ _=>runs_eqB rfl rfl) rfl ?_ | refine vq_val _ (fun _ _=>runs_neB rfl rfl) rfl ?_ | refine vq_build rfl rfl rfl ?_ | refine vq_val _ (fun _ _=>runs_index0 rfl (by omega)) rfl ?_ | refine vq_val _ (fun _ _=>runs_index rfl rfl (by omega)) rfl ?_ | refine vs_label ?_))
 refine vo_call rfl rfl (Calls.mono (c28 ⟨w2,FacT.h _,Ext.refl w2,fun k h=>h⟩ hR hl) ?_);rintro _ w3 ⟨v,rfl,hE,hA⟩;refine⟨_,rfl,?_⟩
 (repeat (first | refine vo_pure rfl rfl ?_ | refine vo_guard_take rfl rfl ?_ | refine vo_guard_skip rfl rfl rfl rfl ?_ | refine vo_guard_undef rfl rfl rfl ?_ | refine vs_seq ?_ | refine vs_region ?_ | refine oN ?_ | refine nQ ?_ | refine vs_skip ?_ | refine vs_block ?_ | refine vs_ret ?_ | refine fin_seq_ret ?_ | refine fin_blk_ret ?_ | refine fin_loop_ret ?_ | refine vs_cond_true rfl ?_ | refine vs_cond_false rfl ?_ | refine fin_blk ?_ | refine vs_exit ?_ | refine fin_seq_exit ?_ | refine fin_loop_exit ?_ | refine fin_blk_exit rfl ?_ | refine fin_blk_other rfl ?_ | refine vo_fieldAddr rfl rfl ?_ | refine vo_loadB rfl (by assumption) rfl rfl ?_ | refine vo_load rfl (by assumption) rfl ?_ | refine vo_loadA rfl (by assumption) rfl rfl ?_ | refine vo_loadAt rfl (by assumption) rfl rfl ?_ | refine vo_val _ (runs_lenS rfl) rfl ?_ | refine vo_val _ (runs_lenL rfl) rfl ?_ | refine vo_val _ (runs_add rfl rfl (by omega)) rfl ?_ | refine vo_val _ (runs_sub rfl rfl (by omega)) rfl ?_ | refine vo_val _ (runs_catL rfl rfl (by ((try simp only[List.length_append,List.length_cons,List.length_nil]); omega))) rfl ?_ | refine vq_val _ (fun _ _=>runs_catL rfl rfl (by ((try simp only[List.length_append,List.length_cons,List.length_nil]); omega))) rfl ?_ | refine vo_val _ (runs_eqB rfl rfl) rfl ?_ | refine vo_val _ (runs_neB rfl rfl) rfl ?_ | refine vo_build rfl rfl rfl ?_ | refine vo_val _ (runs_index0 rfl (by omega)) rfl ?_ | refine vo_val _ (runs_index rfl rfl (by omega)) rfl ?_ | refine vs_drawn (by kernel_rfl) ?_ | refine vq_pure rfl rfl ?_ | refine vo_val _ (runs_nilCheck rfl) rfl ?_ | refine vq_val _ (fun _ _=>runs_nilCheck rfl) rfl ?_ | refine vq_guard_take rfl rfl ?_ | refine vq_guard_skip rfl rfl rfl rfl ?_ | refine vq_guard_undef rfl rfl rfl ?_ | refine vq_fieldAddr rfl rfl ?_ | refine vq_loadB rfl (by assumption) rfl rfl ?_ | refine vq_load rfl (by assumption) rfl rfl ?_ | refine vq_loadA rfl (by assumption) rfl rfl ?_ | refine vq_loadAt rfl (by assumption) rfl rfl ?_ | refine vq_val _ (fun _ _=>runs_lenS rfl) rfl ?_ | refine vq_val _ (fun _ _=>runs_lenL rfl) rfl ?_ | refine vq_val _ (fun _ _=>runs_add rfl rfl (by omega)) rfl ?_ | refine vq_val _ (fun _ _=>runs_sub rfl rfl (by omega)) rfl ?_ | refine vq_val _ (fun _ _=>runs_eqB rfl rfl) rfl ?_ | refine vq_val _ (fun _ _=>runs_neB rfl rfl) rfl ?_ | refine vq_build rfl rfl rfl ?_ | refine vq_val _ (fun _ _=>runs_index0 rfl (by omega)) rfl ?_ | refine vq_val _ (fun _ _=>runs_index rfl rfl (by omega)) rfl ?_ | refine vs_label ?_))
 refine fin_ret2 Tryz.results8 rfl rfl ?_;obtain⟨p,cap,vs',gs,h1,h2,h3,h4,h5,h6⟩:=hA;have z:=e0.size;exact⟨_,rfl,e0.trans hE,p,cap,vs',gs,h1,h2,h3,h4.wide z (Nat.le_refl _),h5,h6.imp_right fun⟨b,o,k1,k2,k3,k4,k5,k6⟩=>⟨b,o,k1,by omega,k3,k4,k5,k6⟩⟩
end Go.Proofs.YtlfeppknkfknhaaGreatDoor
end
section
namespace Go.Proofs.YtlfeppknkfknhaaGreatDoor
open Go Go.Proofs Go.Proofs.Sv
instance:NotAgg Tryz.prog 5:=⟨by kernel_rfl⟩
instance:Info Tryz.prog 5 1 1 (.int .u8 0):=⟨by kernel_rfl⟩
instance:NotAgg Tryz.prog 9:=⟨by kernel_rfl⟩
instance:StringT Tryz.prog 9:=⟨by kernel_rfl⟩
instance:Info Tryz.prog 9 1 16 (.string ⟨#[]⟩):=⟨by kernel_rfl⟩
instance:NotAgg Tryz.prog 26:=⟨by kernel_rfl⟩
instance:SliceOf Tryz.prog 26 9:=⟨by kernel_rfl⟩
instance:Info Tryz.prog 26 1 24 (.slice none 0 0):=⟨by kernel_rfl⟩
instance:AggT Tryz.prog 32:=⟨by kernel_rfl⟩
instance:FieldAt Tryz.prog 32 0 0:=⟨by kernel_rfl⟩
instance:FieldAt Tryz.prog 32 1 1:=⟨by kernel_rfl⟩
instance:FieldAt Tryz.prog 32 2 4:=⟨by kernel_rfl⟩
instance:Info Tryz.prog 32 5 120 (.agg #[.slice none 0 0,.slice none 0 0,.slice none 0 0,.slice none 0 0,.slice none 0 0]):=⟨by kernel_rfl⟩
instance:NotAgg Tryz.prog 38:=⟨by kernel_rfl⟩
instance:SliceOf Tryz.prog 38 92:=⟨by kernel_rfl⟩
instance:Info Tryz.prog 38 1 24 (.slice none 0 0):=⟨by kernel_rfl⟩
instance:AggT Tryz.prog 40:=⟨by kernel_rfl⟩
instance:FieldAt Tryz.prog 40 0 0:=⟨by kernel_rfl⟩
instance:Info Tryz.prog 40 1 24 (.agg #[.slice none 0 0]):=⟨by kernel_rfl⟩
instance:NotAgg Tryz.prog 41:=⟨by kernel_rfl⟩
instance:SliceOf Tryz.prog 41 94:=⟨by kernel_rfl⟩
instance:Info Tryz.prog 41 1 24 (.slice none 0 0):=⟨by kernel_rfl⟩
instance:NotAgg Tryz.prog 42:=⟨by kernel_rfl⟩
instance:SliceOf Tryz.prog 42 149:=⟨by kernel_rfl⟩
instance:Info Tryz.prog 42 1 24 (.slice none 0 0):=⟨by kernel_rfl⟩
instance:AggT Tryz.prog 44:=⟨by kernel_rfl⟩
instance:FieldAt Tryz.prog 44 0 0:=⟨by kernel_rfl⟩
instance:FieldAt Tryz.prog 44 1 1:=⟨by kernel_rfl⟩
instance:FieldAt Tryz.prog 44 2 2:=⟨by kernel_rfl⟩
instance:Info Tryz.prog 44 3 72 (.agg #[.slice none 0 0,.slice none 0 0,.slice none 0 0]):=⟨by kernel_rfl⟩
instance:NotAgg Tryz.prog 45:=⟨by kernel_rfl⟩
instance:SliceOf Tryz.prog 45 111:=⟨by kernel_rfl⟩
instance:Info Tryz.prog 45 1 24 (.slice none 0 0):=⟨by kernel_rfl⟩
instance:NotAgg Tryz.prog 89:=⟨by kernel_rfl⟩
instance:SliceOf Tryz.prog 89 194:=⟨by kernel_rfl⟩
instance:Info Tryz.prog 89 1 24 (.slice none 0 0):=⟨by kernel_rfl⟩
instance:NotAgg Tryz.prog 90:=⟨by kernel_rfl⟩
instance:SliceOf Tryz.prog 90 97:=⟨by kernel_rfl⟩
instance:Info Tryz.prog 90 1 24 (.slice none 0 0):=⟨by kernel_rfl⟩
instance:AggT Tryz.prog 92:=⟨by kernel_rfl⟩
instance:FieldAt Tryz.prog 92 0 0:=⟨by kernel_rfl⟩
instance:FieldAt Tryz.prog 92 1 1:=⟨by kernel_rfl⟩
instance:FieldAt Tryz.prog 92 2 2:=⟨by kernel_rfl⟩
instance:FieldAt Tryz.prog 92 3 3:=⟨by kernel_rfl⟩
instance:FieldAt Tryz.prog 92 4 4:=⟨by kernel_rfl⟩
instance:FieldAt Tryz.prog 92 5 5:=⟨by kernel_rfl⟩
instance:FieldAt Tryz.prog 92 6 6:=⟨by kernel_rfl⟩
instance:Info Tryz.prog 92 7 112 (.agg #[.string ⟨#[]⟩,.int .i64 0,.slice none 0 0,.slice none 0 0,.slice none 0 0,.int .i64 0,.int .i64 0]):=⟨by kernel_rfl⟩
instance:AggT Tryz.prog 94:=⟨by kernel_rfl⟩
instance:FieldAt Tryz.prog 94 0 0:=⟨by kernel_rfl⟩
instance:FieldAt Tryz.prog 94 1 1:=⟨by kernel_rfl⟩
instance:FieldAt Tryz.prog 94 2 2:=⟨by kernel_rfl⟩
instance:Info Tryz.prog 94 3 48 (.agg #[.string ⟨#[]⟩,.int .i64 0,.slice none 0 0]):=⟨by kernel_rfl⟩
instance:NotAgg Tryz.prog 95:=⟨by kernel_rfl⟩
instance:SliceOf Tryz.prog 95 213:=⟨by kernel_rfl⟩
instance:Info Tryz.prog 95 1 24 (.slice none 0 0):=⟨by kernel_rfl⟩
instance:AggT Tryz.prog 97:=⟨by kernel_rfl⟩
instance:FieldAt Tryz.prog 97 0 0:=⟨by kernel_rfl⟩
instance:FieldAt Tryz.prog 97 1 1:=⟨by kernel_rfl⟩
instance:FieldAt Tryz.prog 97 2 2:=⟨by kernel_rfl⟩
instance:FieldAt Tryz.prog 97 3 3:=⟨by kernel_rfl⟩
instance:FieldAt Tryz.prog 97 4 4:=⟨by kernel_rfl⟩
instance:FieldAt Tryz.prog 97 5 5:=⟨by kernel_rfl⟩
instance:Info Tryz.prog 97 6 80 (.agg #[.int .i64 0,.int .i64 0,.int .i64 0,.int .i64 0,.slice none 0 0,.slice none 0 0]):=⟨by kernel_rfl⟩
instance:AggT Tryz.prog 111:=⟨by kernel_rfl⟩
instance:FieldAt Tryz.prog 111 0 0:=⟨by kernel_rfl⟩
instance:FieldAt Tryz.prog 111 1 1:=⟨by kernel_rfl⟩
instance:FieldAt Tryz.prog 111 2 2:=⟨by kernel_rfl⟩
instance:FieldAt Tryz.prog 111 3 3:=⟨by kernel_rfl⟩
instance:Info Tryz.prog 111 4 96 (.agg #[.slice none 0 0,.slice none 0 0,.slice none 0 0,.slice none 0 0]):=⟨by kernel_rfl⟩
instance:AggT Tryz.prog 149:=⟨by kernel_rfl⟩
instance:FieldAt Tryz.prog 149 0 0:=⟨by kernel_rfl⟩
instance:FieldAt Tryz.prog 149 1 1:=⟨by kernel_rfl⟩
instance:FieldAt Tryz.prog 149 2 2:=⟨by kernel_rfl⟩
instance:Info Tryz.prog 149 3 32 (.agg #[.string ⟨#[]⟩,.int .i64 0,.int .i64 0]):=⟨by kernel_rfl⟩
instance:NotAgg Tryz.prog 192:=⟨by kernel_rfl⟩
instance:SliceOf Tryz.prog 192 5:=⟨by kernel_rfl⟩
instance:Info Tryz.prog 192 1 24 (.slice none 0 0):=⟨by kernel_rfl⟩
instance:AggT Tryz.prog 194:=⟨by kernel_rfl⟩
instance:FieldAt Tryz.prog 194 0 0:=⟨by kernel_rfl⟩
instance:FieldAt Tryz.prog 194 1 1:=⟨by kernel_rfl⟩
instance:FieldAt Tryz.prog 194 2 2:=⟨by kernel_rfl⟩
instance:FieldAt Tryz.prog 194 3 3:=⟨by kernel_rfl⟩
instance:Info Tryz.prog 194 4 40 (.agg #[.string ⟨#[]⟩,.int .i64 0,.int .i64 0,.bool false]):=⟨by kernel_rfl⟩
instance:AggT Tryz.prog 213:=⟨by kernel_rfl⟩
instance:FieldAt Tryz.prog 213 0 0:=⟨by kernel_rfl⟩
instance:FieldAt Tryz.prog 213 1 1:=⟨by kernel_rfl⟩
instance:FieldAt Tryz.prog 213 2 2:=⟨by kernel_rfl⟩
instance:Info Tryz.prog 213 3 72 (.agg #[.slice none 0 0,.slice none 0 0,.slice none 0 0]):=⟨by kernel_rfl⟩
instance:HasBody Tryz.prog 4:=⟨by kernel_rfl⟩
instance:HasBody Tryz.prog 5:=⟨by kernel_rfl⟩
instance:HasBody Tryz.prog 6:=⟨by kernel_rfl⟩
instance:HasBody Tryz.prog 7:=⟨by kernel_rfl⟩
instance:HasBody Tryz.prog 8:=⟨by kernel_rfl⟩
instance:HasBody Tryz.prog 9:=⟨by kernel_rfl⟩
instance:HasBody Tryz.prog 10:=⟨by kernel_rfl⟩
instance:HasBody Tryz.prog 11:=⟨by kernel_rfl⟩
instance:HasBody Tryz.prog 12:=⟨by kernel_rfl⟩
instance:HasBody Tryz.prog 13:=⟨by kernel_rfl⟩
instance:HasBody Tryz.prog 14:=⟨by kernel_rfl⟩
instance:HasBody Tryz.prog 15:=⟨by kernel_rfl⟩
instance:HasBody Tryz.prog 32:=⟨by kernel_rfl⟩
instance:HasBody Tryz.prog 33:=⟨by kernel_rfl⟩
instance:HasBody Tryz.prog 34:=⟨by kernel_rfl⟩
instance:HasBody Tryz.prog 70:=⟨by kernel_rfl⟩
instance:HasBody Tryz.prog 71:=⟨by kernel_rfl⟩
instance:HasBody Tryz.prog 72:=⟨by kernel_rfl⟩
instance:HasBody Tryz.prog 73:=⟨by kernel_rfl⟩
instance:HasBody Tryz.prog 101:=⟨by kernel_rfl⟩
instance:HasBody Tryz.prog 102:=⟨by kernel_rfl⟩
instance:HasBody Tryz.prog 103:=⟨by kernel_rfl⟩
instance:HasBody Tryz.prog 127:=⟨by kernel_rfl⟩
end Go.Proofs.YtlfeppknkfknhaaGreatDoor
end
section
namespace Go.Proofs.YtlfeppknkfknhaaGreatDoor
open Go Go.Proofs Go.Proofs.Sv Go.Proofs.Xv Go.RowKit
attribute [local irreducible] VS VO VQ VH FinS seqQ blkQ loopQ RunsOp RunsU
attribute [local simp] spl reps Value.cells
instance:ByteT Tryz.prog 5:=⟨by kernel_rfl⟩
instance:IntT Tryz.prog 3:=⟨by kernel_rfl⟩
instance:IntT Tryz.prog 2:=⟨by kernel_rfl⟩
theorem pow_step{k:Int}{n:Nat}(hk:0<k)(h:k*(10:Int) ^ n<=9223372036854775807):n<=18/\k.tdiv 10*(10:Int) ^ (n+1)<=9223372036854775807:=by
 have hp:(0:Int) < (10:Int) ^ n:=Int.pow_pos (by decide);constructor
 ·rcases Nat.lt_or_ge 18 n with hn | hn
  ·have h19:(10:Int) ^ 19<=(10:Int) ^ n:=by
    have h0:10 ^ 19<=10 ^ n:=Nat.pow_le_pow_right (n:=10) (by decide) (by omega:19<=n)
    exact_mod_cast h0
   have h1:(1:Int)*(10:Int) ^ n<=k*(10:Int) ^ n:=Int.mul_le_mul_of_nonneg_right (by omega) (by omega);have:(10:Int) ^ 19=10000000000000000000:=by decide
   omega
  ·exact hn
 ·have e:k.tdiv 10*(10:Int) ^ (n+1)=(k.tdiv 10*10)*(10:Int) ^ n:=by rw[Int.pow_succ,Int.mul_comm ((10:Int) ^ n) 10,<- Int.mul_assoc]
  have h2:k.tdiv 10*10<=k:=by
   rw[Int.tdiv_eq_ediv_of_nonneg (by omega)];omega
  rw[e];exact Int.le_trans (Int.mul_le_mul_of_nonneg_right h2 (by omega)) h
set_option maxHeartbeats 2000000 in
theorem cText{k:Int}{w:World}(hk:InI k):Calls Tryz.prog 101 #[.int .i64 k] w fun en w'=>∃s,en=.returned (.string s)/\s.size<=9223372036854775807/\Ext w w':=by
 have hb:Below w.heap.size w w:=Below.refl _ _;refine calls_vs Tryz.func101 Tryz.ntmps101 rfl rfl ?_
 (repeat (first | refine vo_pure rfl rfl ?_ | refine vs_seq ?_ | refine vs_region ?_ | refine oN ?_ | refine nQ ?_ | refine vs_skip ?_ | refine vs_block ?_ | refine vs_ret ?_ | refine fin_seq_ret ?_ | refine fin_blk ?_ | refine vs_exit ?_ | refine fin_seq_exit ?_ | refine fin_loop_exit ?_ | refine fin_blk_exit rfl ?_))
 refine vs_cond rfl (fun hc=>?_) (fun hc=>?_)
 · (repeat (first | refine vo_pure rfl rfl ?_ | refine vs_seq ?_ | refine vs_region ?_ | refine oN ?_ | refine nQ ?_ | refine vs_skip ?_ | refine vs_block ?_ | refine vs_ret ?_ | refine fin_seq_ret ?_ | refine fin_blk ?_ | refine vs_exit ?_ | refine fin_seq_exit ?_ | refine fin_loop_exit ?_ | refine fin_blk_exit rfl ?_))
   (first | refine fin_ret1 Tryz.results101 rfl ?_ | refine fin_end1 Tryz.results101 rfl ?_ | refine fin_ret2 Tryz.results101 rfl rfl ?_ | refine fin_retC1 Tryz.results101 rfl (by assumption) rfl rfl ?_ | refine fin_retC Tryz.results101 rfl (by assumption) rfl ?_)
   exact⟨_,rfl,by decide,hb⟩
 · (repeat (first | refine vo_pure rfl rfl ?_ | refine vs_seq ?_ | refine vs_region ?_ | refine oN ?_ | refine nQ ?_ | refine vs_skip ?_ | refine vs_block ?_ | refine vs_ret ?_ | refine fin_seq_ret ?_ | refine fin_blk ?_ | refine vs_exit ?_ | refine fin_seq_exit ?_ | refine fin_loop_exit ?_ | refine fin_blk_exit rfl ?_))
   have hk0:0<k:=by simp at hc; omega
   refine vs_loop (fun s:Int×ByteArray=>(3,.string s.2) :: (0,.int .i64 s.1) :: []) (fun s w'=>0<=s.1/\s.1<=9223372036854775807/\s.1*(10:Int) ^ s.2.size<=9223372036854775807/\(s.1=0->s.2.size<=19)/\Below w.heap.size w w') (fun s=>s.1.toNat) (k,⟨#[]⟩) ⟨by omega,hk.2,by show k*(10:Int) ^ 0<=_; rw[Int.pow_zero,Int.mul_one]; exact hk.2,fun _=>Nat.zero_le _,hb⟩ (by ((repeat (refine sub_cons rfl ?_)); exact sub_nil)) ?_;rintro⟨m,s⟩ w1 ⟨h1,h2,h3,h4,hb⟩;dsimp only at h1 h2 h3 h4
   (repeat (first | refine vo_pure rfl rfl ?_ | refine vs_seq ?_ | refine vs_region ?_ | refine oN ?_ | refine nQ ?_ | refine vs_skip ?_ | refine vs_block ?_ | refine vs_ret ?_ | refine fin_seq_ret ?_ | refine fin_blk ?_ | refine vs_exit ?_ | refine fin_seq_exit ?_ | refine fin_loop_exit ?_ | refine fin_blk_exit rfl ?_))
   refine vs_cond rfl (fun hc=>?_) (fun hc=>?_)
   ·have hm:0<m:=by simpa using hc
    obtain⟨q1,q2⟩:=pow_step hm h3
    (repeat (first | refine vo_pure rfl rfl ?_ | refine vs_seq ?_ | refine vs_region ?_ | refine oN ?_ | refine nQ ?_ | refine vs_skip ?_ | refine vs_block ?_ | refine vs_ret ?_ | refine fin_seq_ret ?_ | refine fin_blk ?_ | refine vs_exit ?_ | refine fin_seq_exit ?_ | refine fin_loop_exit ?_ | refine fin_blk_exit rfl ?_))
    have r1:=Int.tmod_nonneg 10 h1;have r2:=Int.tmod_lt_of_pos m (show(0:Int)<10 by decide);have d1:0<=m.tdiv 10:=Int.tdiv_nonneg h1 (by decide);have d2:m.tdiv 10<m:=by
     rw[Int.tdiv_eq_ediv_of_nonneg h1];omega
    refine vo_val _ (runs_rem (a:=m) rfl rfl (show(10:Int)≠0 by decide)) rfl ?_;refine vo_val _ (runs_add rfl rfl (by omega)) rfl ?_;refine vo_val _ (runs_toByte rfl) rfl ?_
    (refine vo_buildSlice rfl rfl rfl rfl rfl ?_; intro b1 w1 hN B1; have zz:=hN.eq; have zz:=hN.size; have hE:=hN.ext; replace hb:=hb.trans (hE.mono hb.size))
    refine vo_val _ (runs_toStr (ms:=[((48:Int)+m.tmod 10) % 256]) rfl rfl B1.at) rfl ?_;have hz:(strOfNums [((48:Int)+m.tmod 10) % 256]).size=1:=rfl;generalize strOfNums [((48:Int)+m.tmod 10) % 256]=c at hz
    (repeat (first | refine vo_pure rfl rfl ?_ | refine vs_seq ?_ | refine vs_region ?_ | refine oN ?_ | refine nQ ?_ | refine vs_skip ?_ | refine vs_block ?_ | refine vs_ret ?_ | refine fin_seq_ret ?_ | refine fin_blk ?_ | refine vs_exit ?_ | refine fin_seq_exit ?_ | refine fin_loop_exit ?_ | refine fin_blk_exit rfl ?_))
    refine vo_val _ (runs_cat rfl rfl (by show c.size+s.size<=_; omega)) rfl ?_
    (repeat (first | refine vo_pure rfl rfl ?_ | refine vs_seq ?_ | refine vs_region ?_ | refine oN ?_ | refine nQ ?_ | refine vs_skip ?_ | refine vs_block ?_ | refine vs_ret ?_ | refine fin_seq_ret ?_ | refine fin_blk ?_ | refine vs_exit ?_ | refine fin_seq_exit ?_ | refine fin_loop_exit ?_ | refine fin_blk_exit rfl ?_))
    refine vo_val _ (runs_quo rfl rfl ⟨by omega,h2⟩ (show(0:Int)<10 by decide)) rfl ?_
    (repeat (first | refine vo_pure rfl rfl ?_ | refine vs_seq ?_ | refine vs_region ?_ | refine oN ?_ | refine nQ ?_ | refine vs_skip ?_ | refine vs_block ?_ | refine vs_ret ?_ | refine fin_seq_ret ?_ | refine fin_blk ?_ | refine vs_exit ?_ | refine fin_seq_exit ?_ | refine fin_loop_exit ?_ | refine fin_blk_exit rfl ?_))
    refine fin_loop (m.tdiv 10,c++s) ⟨d1,by show m.tdiv 10<=_; omega,?_,?_,hb⟩ (by show(m.tdiv 10).toNat<m.toNat; omega) (by ((repeat (refine sub_cons rfl ?_)); exact sub_nil))
    ·show m.tdiv 10*(10:Int) ^ (c++s).size<=_;rw[ByteArray.size_append,hz,Nat.add_comm];exact q2
    ·intro _;show(c++s).size<=19;rw[ByteArray.size_append,hz];omega
   ·have hm:m=0:=by
     have:¬(0<m):=by simpa using hc
     omega
    have hs:=h4 hm
    (repeat (first | refine vo_pure rfl rfl ?_ | refine vs_seq ?_ | refine vs_region ?_ | refine oN ?_ | refine nQ ?_ | refine vs_skip ?_ | refine vs_block ?_ | refine vs_ret ?_ | refine fin_seq_ret ?_ | refine fin_blk ?_ | refine vs_exit ?_ | refine fin_seq_exit ?_ | refine fin_loop_exit ?_ | refine fin_blk_exit rfl ?_))
    refine vo_val _ (runs_cat rfl rfl (by show(ByteArray.mk #[109]).size+s.size<=_; have:(ByteArray.mk #[109]).size=1:=rfl; omega)) rfl ?_
    (repeat (first | refine vo_pure rfl rfl ?_ | refine vs_seq ?_ | refine vs_region ?_ | refine oN ?_ | refine nQ ?_ | refine vs_skip ?_ | refine vs_block ?_ | refine vs_ret ?_ | refine fin_seq_ret ?_ | refine fin_blk ?_ | refine vs_exit ?_ | refine fin_seq_exit ?_ | refine fin_loop_exit ?_ | refine fin_blk_exit rfl ?_))
    (first | refine fin_ret1 Tryz.results101 rfl ?_ | refine fin_end1 Tryz.results101 rfl ?_ | refine fin_ret2 Tryz.results101 rfl rfl ?_ | refine fin_retC1 Tryz.results101 rfl (by assumption) rfl rfl ?_ | refine fin_retC Tryz.results101 rfl (by assumption) rfl ?_)
    refine⟨_,rfl,?_,hb⟩;show(ByteArray.mk #[109]++s).size<=_;rw[ByteArray.size_append];have:(ByteArray.mk #[109]).size=1:=rfl;omega
theorem tC:TxC Tryz.prog 101:=fun _ _ h=>cText h
set_option maxHeartbeats 2000000 in
theorem m13:MkS Tryz.prog 13 (.sl (.int .i64)):=by
 intro F w u x k hF0 hS h0 hk;have hS0:=hS;obtain⟨p,cap,hu,hcap,hmax,_⟩:=hS0;simp only[List.cons.injEq,and_true] at hu;subst hu;have hall:=cntP_all (.int .i64) x;refine calls_vs Tryz.func13 Tryz.ntmps13 rfl rfl ?_;refine ra ?_;refine pu ?_;refine oN (nQ (vs_seq (ra ?_)));refine pu ?_;refine oN (nQ (vs_block ?_));refine vs_loop (fun i:Nat=>(1,.int .i64 (k+(cntP (.int .i64) x i:Int))) :: (5,.int .i64 (i:Int)) :: (0,.slice p x.length cap) :: []) (fun i w'=>i<=x.length/\WM F w w') (fun i=>x.length-i) 0 ⟨Nat.zero_le _,WM.refl F w⟩ (by rw[cntP_zero]; simp only[Int.natCast_zero,Int.add_zero]; ((repeat (refine sub_cons rfl ?_)); exact sub_nil)) ?_;rintro i w1 ⟨hi,hm⟩;have hle:=cntP_le (.int .i64) x i hi;refine vs_seq (ra ?_);refine pu ?_;refine pu ?_;refine vo_val _ (runs_lenL rfl) rfl ?_;refine pu ?_;refine oN (nQ ?_);refine vs_cond rfl (fun hc=>?_) (fun hc=>?_)
 ·have hlt:i<x.length:=by simpa using hc
  obtain⟨_,b,o,c,rfl,hF,hU,hat,hs⟩:=SH.get hS hlt;have hsu:=cntP_succ (e:=(.int .i64)) (xs:=x) hlt;have hle1:=cntP_le (.int .i64) x (i+1) (by omega);generalize x[i]=y at hs hsu;obtain⟨z0,rfl,_,_⟩:=hs;have hy:cntM (.int .i64) y=1:=rfl;refine vs_skip (nQ (vs_seq (vs_block ?_)));refine ra ?_;refine pu ?_;refine pu ?_;refine pu ?_;refine im hlt ?_;refine si hm hF hU (hat 0 _ rfl) fun w2 hm=>?_;refine rc ?_;refine pu ?_;refine ad ?_;refine pu ?_;refine rd' ?_;refine pu ?_;refine ad ?_;refine pu ?_;refine oN ?_;have he:k+((cntP (.int .i64) x (i+1):Nat):Int)=((k+(cntP (.int .i64) x i:Int))+1):=by rw[hsu,hy]; omega
  refine fin_loop (i+1) ⟨by omega,hm⟩ (by omega) (by rw[he,Int.natCast_succ]; ((repeat (refine sub_cons rfl ?_)); exact sub_nil))
 ·have hge:i=x.length:=by
   have:¬i<x.length:=by simpa using hc
   omega
  subst hge;refine vs_exit (fin_seq_exit (fin_loop_exit (fin_blk_exit rfl (nQ (ra ?_)))));refine pu ?_;refine pu ?_;refine oN (nQ (vs_ret ?_));refine fin_ret1 Tryz.results13 rfl ?_;rw[hall];exact⟨rfl,hm⟩
set_option maxHeartbeats 2000000 in
theorem m127:MkS Tryz.prog 127 (.sl y213):=by
 intro F w u x k hF0 hS h0 hk;have hS0:=hS;obtain⟨p,cap,hu,hcap,hmax,_⟩:=hS0;simp only[List.cons.injEq,and_true] at hu;subst hu;have hall:=cntP_all y213 x;refine calls_vs Tryz.func127 Tryz.ntmps127 rfl rfl ?_;refine ra ?_;refine pu ?_;refine oN (nQ (vs_seq (ra ?_)));refine pu ?_;refine oN (nQ (vs_block ?_));refine vs_loop (fun i:Nat=>(1,.int .i64 (k+(cntP y213 x i:Int))) :: (5,.int .i64 (i:Int)) :: (0,.slice p x.length cap) :: []) (fun i w'=>i<=x.length/\WM F w w') (fun i=>x.length-i) 0 ⟨Nat.zero_le _,WM.refl F w⟩ (by rw[cntP_zero]; simp only[Int.natCast_zero,Int.add_zero]; ((repeat (refine sub_cons rfl ?_)); exact sub_nil)) ?_;rintro i w1 ⟨hi,hm⟩;have hle:=cntP_le y213 x i hi;refine vs_seq (ra ?_);refine pu ?_;refine pu ?_;refine vo_val _ (runs_lenL rfl) rfl ?_;refine pu ?_;refine oN (nQ ?_);refine vs_cond rfl (fun hc=>?_) (fun hc=>?_)
 ·have hlt:i<x.length:=by simpa using hc
  obtain⟨_,b,o,c,rfl,hF,hU,hat,hs⟩:=SH.get hS hlt;have hsu:=cntP_succ (e:=y213) (xs:=x) hlt;have hle1:=cntP_le y213 x (i+1) (by omega);generalize x[i]=y at hs hsu;obtain⟨_,_,rfl,q0,⟨_,_,rfl,q1,q2⟩⟩:=hs;have r0:=q0;obtain⟨_,_,rfl,_⟩:=r0;have r1:=q1;obtain⟨_,_,rfl,_⟩:=r1;have r2:=q2;obtain⟨_,_,rfl,_⟩:=r2;have hy:cntM y213 y=(cntM (.sl (.int .i64)) y.1+(cntM (.sl (.int .i64)) y.2.1+cntM (.sl (.int .i64)) y.2.2)):=rfl;refine vs_skip (nQ (vs_seq (vs_block ?_)));refine ra ?_;refine pu ?_;refine pu ?_;refine im hlt ?_;refine fm ?_;refine lm hm hF (hat 0 _ rfl) ?_;refine pu ?_;refine mc m13 hF0 hm q0 fun w2 hm _=>?_;refine pu ?_;refine rb ?_;refine pu ?_;refine pu ?_;refine im hlt ?_;refine fm ?_;refine lm hm hF (hat 1 _ rfl) ?_;refine pu ?_;refine mc m13 hF0 hm q1 fun w2 hm _=>?_;refine pu ?_;refine rc ?_;refine pu ?_;refine pu ?_;refine im hlt ?_;refine fm ?_;refine lm hm hF (hat 2 _ rfl) ?_;refine pu ?_;refine mc m13 hF0 hm q2 fun w2 hm _=>?_;refine pu ?_;refine rd' ?_;refine pu ?_;refine ad ?_;refine pu ?_;refine oN ?_;have he:k+((cntP y213 x (i+1):Nat):Int)=((((k+(cntP y213 x i:Int))+(cntM (.sl (.int .i64)) y.1:Int))+(cntM (.sl (.int .i64)) y.2.1:Int))+(cntM (.sl (.int .i64)) y.2.2:Int)):=by rw[hsu,hy]; omega
  refine fin_loop (i+1) ⟨by omega,hm⟩ (by omega) (by rw[he,Int.natCast_succ]; ((repeat (refine sub_cons rfl ?_)); exact sub_nil))
 ·have hge:i=x.length:=by
   have:¬i<x.length:=by simpa using hc
   omega
  subst hge;refine vs_exit (fin_seq_exit (fin_loop_exit (fin_blk_exit rfl (nQ (ra ?_)))));refine pu ?_;refine pu ?_;refine oN (nQ (vs_ret ?_));refine fin_ret1 Tryz.results127 rfl ?_;rw[hall];exact⟨rfl,hm⟩
set_option maxHeartbeats 2000000 in
theorem m103:MkS Tryz.prog 103 (.sl y97):=by
 intro F w u x k hF0 hS h0 hk;have hS0:=hS;obtain⟨p,cap,hu,hcap,hmax,_⟩:=hS0;simp only[List.cons.injEq,and_true] at hu;subst hu;have hall:=cntP_all y97 x;refine calls_vs Tryz.func103 Tryz.ntmps103 rfl rfl ?_;refine ra ?_;refine pu ?_;refine oN (nQ (vs_seq (ra ?_)));refine pu ?_;refine oN (nQ (vs_block ?_));refine vs_loop (fun i:Nat=>(1,.int .i64 (k+(cntP y97 x i:Int))) :: (5,.int .i64 (i:Int)) :: (0,.slice p x.length cap) :: []) (fun i w'=>i<=x.length/\WM F w w') (fun i=>x.length-i) 0 ⟨Nat.zero_le _,WM.refl F w⟩ (by rw[cntP_zero]; simp only[Int.natCast_zero,Int.add_zero]; ((repeat (refine sub_cons rfl ?_)); exact sub_nil)) ?_;rintro i w1 ⟨hi,hm⟩;have hle:=cntP_le y97 x i hi;refine vs_seq (ra ?_);refine pu ?_;refine pu ?_;refine vo_val _ (runs_lenL rfl) rfl ?_;refine pu ?_;refine oN (nQ ?_);refine vs_cond rfl (fun hc=>?_) (fun hc=>?_)
 ·have hlt:i<x.length:=by simpa using hc
  obtain⟨_,b,o,c,rfl,hF,hU,hat,hs⟩:=SH.get hS hlt;have hsu:=cntP_succ (e:=y97) (xs:=x) hlt;have hle1:=cntP_le y97 x (i+1) (by omega);generalize x[i]=y at hs hsu;obtain⟨_,_,rfl,⟨z0,rfl,_,_⟩,⟨_,_,rfl,⟨z1,rfl,_,_⟩,⟨_,_,rfl,⟨z2,rfl,_,_⟩,⟨_,_,rfl,⟨z3,rfl,_,_⟩,⟨_,_,rfl,q4,q5⟩⟩⟩⟩⟩:=hs;have r4:=q4;obtain⟨_,_,rfl,_⟩:=r4;have r5:=q5;obtain⟨_,_,rfl,_⟩:=r5;have hy:cntM y97 y=(1+(1+(1+(1+(cntM (.sl y213) y.2.2.2.2.1+cntM (.sl y213) y.2.2.2.2.2))))):=rfl;refine vs_skip (nQ (vs_seq (vs_block ?_)));refine ra ?_;refine pu ?_;refine pu ?_;refine pu ?_;refine im hlt ?_;refine fm ?_;refine si hm hF hU (hat 0 _ rfl) fun w2 hm=>?_;refine rb ?_;refine pu ?_;refine ad ?_;refine pu ?_;refine rb ?_;refine pu ?_;refine pu ?_;refine pu ?_;refine im hlt ?_;refine fm ?_;refine si hm hF hU (hat 1 _ rfl) fun w2 hm=>?_;refine rb ?_;refine pu ?_;refine ad ?_;refine pu ?_;refine rb ?_;refine pu ?_;refine pu ?_;refine pu ?_;refine im hlt ?_;refine fm ?_;refine si hm hF hU (hat 2 _ rfl) fun w2 hm=>?_;refine rb ?_;refine pu ?_;refine ad ?_;refine pu ?_;refine rb ?_;refine pu ?_;refine pu ?_;refine pu ?_;refine im hlt ?_;refine fm ?_;refine si hm hF hU (hat 3 _ rfl) fun w2 hm=>?_;refine rb ?_;refine pu ?_;refine ad ?_;refine pu ?_;refine rb ?_;refine pu ?_;refine pu ?_;refine im hlt ?_;refine fm ?_;refine lm hm hF (hat 4 _ rfl) ?_;refine pu ?_;refine mc m127 hF0 hm q4 fun w2 hm _=>?_;refine pu ?_;refine rc ?_;refine pu ?_;refine pu ?_;refine im hlt ?_;refine fm ?_;refine lm hm hF (hat 5 _ rfl) ?_;refine pu ?_;refine mc m127 hF0 hm q5 fun w2 hm _=>?_;refine pu ?_;refine rd' ?_;refine pu ?_;refine ad ?_;refine pu ?_;refine oN ?_;have he:k+((cntP y97 x (i+1):Nat):Int)=(((((((k+(cntP y97 x i:Int))+1)+1)+1)+1)+(cntM (.sl y213) y.2.2.2.2.1:Int))+(cntM (.sl y213) y.2.2.2.2.2:Int)):=by rw[hsu,hy]; omega
  refine fin_loop (i+1) ⟨by omega,hm⟩ (by omega) (by rw[he,Int.natCast_succ]; ((repeat (refine sub_cons rfl ?_)); exact sub_nil))
 ·have hge:i=x.length:=by
   have:¬i<x.length:=by simpa using hc
   omega
  subst hge;refine vs_exit (fin_seq_exit (fin_loop_exit (fin_blk_exit rfl (nQ (ra ?_)))));refine pu ?_;refine pu ?_;refine oN (nQ (vs_ret ?_));refine fin_ret1 Tryz.results103 rfl ?_;rw[hall];exact⟨rfl,hm⟩
set_option maxHeartbeats 2000000 in
theorem m102:MkS Tryz.prog 102 (.sl y194):=by
 intro F w u x k hF0 hS h0 hk;have hS0:=hS;obtain⟨p,cap,hu,hcap,hmax,_⟩:=hS0;simp only[List.cons.injEq,and_true] at hu;subst hu;have hall:=cntP_all y194 x;refine calls_vs Tryz.func102 Tryz.ntmps102 rfl rfl ?_;refine ra ?_;refine pu ?_;refine oN (nQ (vs_seq (ra ?_)));refine pu ?_;refine oN (nQ (vs_block ?_));refine vs_loop (fun i:Nat=>(1,.int .i64 (k+(cntP y194 x i:Int))) :: (5,.int .i64 (i:Int)) :: (0,.slice p x.length cap) :: []) (fun i w'=>i<=x.length/\WM F w w') (fun i=>x.length-i) 0 ⟨Nat.zero_le _,WM.refl F w⟩ (by rw[cntP_zero]; simp only[Int.natCast_zero,Int.add_zero]; ((repeat (refine sub_cons rfl ?_)); exact sub_nil)) ?_;rintro i w1 ⟨hi,hm⟩;have hle:=cntP_le y194 x i hi;refine vs_seq (ra ?_);refine pu ?_;refine pu ?_;refine vo_val _ (runs_lenL rfl) rfl ?_;refine pu ?_;refine oN (nQ ?_);refine vs_cond rfl (fun hc=>?_) (fun hc=>?_)
 ·have hlt:i<x.length:=by simpa using hc
  obtain⟨_,b,o,c,rfl,hF,hU,hat,hs⟩:=SH.get hS hlt;have hsu:=cntP_succ (e:=y194) (xs:=x) hlt;have hle1:=cntP_le y194 x (i+1) (by omega);generalize x[i]=y at hs hsu;obtain⟨_,_,rfl,⟨z0,rfl,_⟩,⟨_,_,rfl,⟨z1,rfl,_,_⟩,⟨_,_,rfl,⟨z2,rfl,_,_⟩,⟨z3,rfl⟩⟩⟩⟩:=hs;have hy:cntM y194 y=(1+(1+(1+1))):=rfl;refine vs_skip (nQ (vs_seq (vs_block ?_)));refine ra ?_;refine pu ?_;refine pu ?_;refine pu ?_;refine tc' tC hm fun w2 s1 hs1 hm=>?_;refine im hlt ?_;refine fm ?_;refine ss hm hF hU (hat 0 _ rfl) hs1 fun w2 hm=>?_;refine rb ?_;refine pu ?_;refine ad ?_;refine pu ?_;refine rb ?_;refine pu ?_;refine pu ?_;refine pu ?_;refine im hlt ?_;refine fm ?_;refine si hm hF hU (hat 1 _ rfl) fun w2 hm=>?_;refine rb ?_;refine pu ?_;refine ad ?_;refine pu ?_;refine rb ?_;refine pu ?_;refine pu ?_;refine pu ?_;refine im hlt ?_;refine fm ?_;refine si hm hF hU (hat 2 _ rfl) fun w2 hm=>?_;refine rb ?_;refine pu ?_;refine ad ?_;refine pu ?_;refine rb ?_;refine pu ?_;refine pu ?_;refine pu ?_;refine vo_val _ (runs_rem rfl rfl (show(3:Int)≠0 by decide)) rfl ?_;refine pu ?_;refine im hlt ?_;refine fm ?_;refine sb hm hF hU (hat 3 _ rfl) fun w2 hm=>?_;refine rc ?_;refine pu ?_;refine ad ?_;refine pu ?_;refine rd' ?_;refine pu ?_;refine ad ?_;refine pu ?_;refine oN ?_;have he:k+((cntP y194 x (i+1):Nat):Int)=(((((k+(cntP y194 x i:Int))+1)+1)+1)+1):=by rw[hsu,hy]; omega
  refine fin_loop (i+1) ⟨by omega,hm⟩ (by omega) (by rw[he,Int.natCast_succ]; ((repeat (refine sub_cons rfl ?_)); exact sub_nil))
 ·have hge:i=x.length:=by
   have:¬i<x.length:=by simpa using hc
   omega
  subst hge;refine vs_exit (fin_seq_exit (fin_loop_exit (fin_blk_exit rfl (nQ (ra ?_)))));refine pu ?_;refine pu ?_;refine oN (nQ (vs_ret ?_));refine fin_ret1 Tryz.results102 rfl ?_;rw[hall];exact⟨rfl,hm⟩
set_option maxHeartbeats 2000000 in
theorem m72:MkS Tryz.prog 72 (.sl .str):=by
 intro F w u x k hF0 hS h0 hk;have hS0:=hS;obtain⟨p,cap,hu,hcap,hmax,_⟩:=hS0;simp only[List.cons.injEq,and_true] at hu;subst hu;have hall:=cntP_all .str x;refine calls_vs Tryz.func72 Tryz.ntmps72 rfl rfl ?_;refine ra ?_;refine pu ?_;refine oN (nQ (vs_seq (ra ?_)));refine pu ?_;refine oN (nQ (vs_block ?_));refine vs_loop (fun i:Nat=>(1,.int .i64 (k+(cntP .str x i:Int))) :: (5,.int .i64 (i:Int)) :: (0,.slice p x.length cap) :: []) (fun i w'=>i<=x.length/\WM F w w') (fun i=>x.length-i) 0 ⟨Nat.zero_le _,WM.refl F w⟩ (by rw[cntP_zero]; simp only[Int.natCast_zero,Int.add_zero]; ((repeat (refine sub_cons rfl ?_)); exact sub_nil)) ?_;rintro i w1 ⟨hi,hm⟩;have hle:=cntP_le .str x i hi;refine vs_seq (ra ?_);refine pu ?_;refine pu ?_;refine vo_val _ (runs_lenL rfl) rfl ?_;refine pu ?_;refine oN (nQ ?_);refine vs_cond rfl (fun hc=>?_) (fun hc=>?_)
 ·have hlt:i<x.length:=by simpa using hc
  obtain⟨_,b,o,c,rfl,hF,hU,hat,hs⟩:=SH.get hS hlt;have hsu:=cntP_succ (e:=.str) (xs:=x) hlt;have hle1:=cntP_le .str x (i+1) (by omega);generalize x[i]=y at hs hsu;obtain⟨z0,rfl,_⟩:=hs;have hy:cntM .str y=1:=rfl;refine vs_skip (nQ (vs_seq (vs_block ?_)));refine ra ?_;refine pu ?_;refine pu ?_;refine pu ?_;refine tc' tC hm fun w2 s1 hs1 hm=>?_;refine im hlt ?_;refine ss hm hF hU (hat 0 _ rfl) hs1 fun w2 hm=>?_;refine rc ?_;refine pu ?_;refine ad ?_;refine pu ?_;refine rd' ?_;refine pu ?_;refine ad ?_;refine pu ?_;refine oN ?_;have he:k+((cntP .str x (i+1):Nat):Int)=((k+(cntP .str x i:Int))+1):=by rw[hsu,hy]; omega
  refine fin_loop (i+1) ⟨by omega,hm⟩ (by omega) (by rw[he,Int.natCast_succ]; ((repeat (refine sub_cons rfl ?_)); exact sub_nil))
 ·have hge:i=x.length:=by
   have:¬i<x.length:=by simpa using hc
   omega
  subst hge;refine vs_exit (fin_seq_exit (fin_loop_exit (fin_blk_exit rfl (nQ (ra ?_)))));refine pu ?_;refine pu ?_;refine oN (nQ (vs_ret ?_));refine fin_ret1 Tryz.results72 rfl ?_;rw[hall];exact⟨rfl,hm⟩
set_option maxHeartbeats 2000000 in
theorem m73:MkS Tryz.prog 73 (.sl y149):=by
 intro F w u x k hF0 hS h0 hk;have hS0:=hS;obtain⟨p,cap,hu,hcap,hmax,_⟩:=hS0;simp only[List.cons.injEq,and_true] at hu;subst hu;have hall:=cntP_all y149 x;refine calls_vs Tryz.func73 Tryz.ntmps73 rfl rfl ?_;refine ra ?_;refine pu ?_;refine oN (nQ (vs_seq (ra ?_)));refine pu ?_;refine oN (nQ (vs_block ?_));refine vs_loop (fun i:Nat=>(1,.int .i64 (k+(cntP y149 x i:Int))) :: (5,.int .i64 (i:Int)) :: (0,.slice p x.length cap) :: []) (fun i w'=>i<=x.length/\WM F w w') (fun i=>x.length-i) 0 ⟨Nat.zero_le _,WM.refl F w⟩ (by rw[cntP_zero]; simp only[Int.natCast_zero,Int.add_zero]; ((repeat (refine sub_cons rfl ?_)); exact sub_nil)) ?_;rintro i w1 ⟨hi,hm⟩;have hle:=cntP_le y149 x i hi;refine vs_seq (ra ?_);refine pu ?_;refine pu ?_;refine vo_val _ (runs_lenL rfl) rfl ?_;refine pu ?_;refine oN (nQ ?_);refine vs_cond rfl (fun hc=>?_) (fun hc=>?_)
 ·have hlt:i<x.length:=by simpa using hc
  obtain⟨_,b,o,c,rfl,hF,hU,hat,hs⟩:=SH.get hS hlt;have hsu:=cntP_succ (e:=y149) (xs:=x) hlt;have hle1:=cntP_le y149 x (i+1) (by omega);generalize x[i]=y at hs hsu;obtain⟨_,_,rfl,⟨z0,rfl,_⟩,⟨_,_,rfl,⟨z1,rfl,_,_⟩,⟨z2,rfl,_,_⟩⟩⟩:=hs;have hy:cntM y149 y=(1+(1+1)):=rfl;refine vs_skip (nQ (vs_seq (vs_block ?_)));refine ra ?_;refine pu ?_;refine pu ?_;refine pu ?_;refine tc' tC hm fun w2 s1 hs1 hm=>?_;refine im hlt ?_;refine fm ?_;refine ss hm hF hU (hat 0 _ rfl) hs1 fun w2 hm=>?_;refine rb ?_;refine pu ?_;refine ad ?_;refine pu ?_;refine rb ?_;refine pu ?_;refine pu ?_;refine pu ?_;refine im hlt ?_;refine fm ?_;refine si hm hF hU (hat 1 _ rfl) fun w2 hm=>?_;refine rb ?_;refine pu ?_;refine ad ?_;refine pu ?_;refine rb ?_;refine pu ?_;refine pu ?_;refine pu ?_;refine im hlt ?_;refine fm ?_;refine si hm hF hU (hat 2 _ rfl) fun w2 hm=>?_;refine rc ?_;refine pu ?_;refine ad ?_;refine pu ?_;refine rd' ?_;refine pu ?_;refine ad ?_;refine pu ?_;refine oN ?_;have he:k+((cntP y149 x (i+1):Nat):Int)=((((k+(cntP y149 x i:Int))+1)+1)+1):=by rw[hsu,hy]; omega
  refine fin_loop (i+1) ⟨by omega,hm⟩ (by omega) (by rw[he,Int.natCast_succ]; ((repeat (refine sub_cons rfl ?_)); exact sub_nil))
 ·have hge:i=x.length:=by
   have:¬i<x.length:=by simpa using hc
   omega
  subst hge;refine vs_exit (fin_seq_exit (fin_loop_exit (fin_blk_exit rfl (nQ (ra ?_)))));refine pu ?_;refine pu ?_;refine oN (nQ (vs_ret ?_));refine fin_ret1 Tryz.results73 rfl ?_;rw[hall];exact⟨rfl,hm⟩
set_option maxHeartbeats 2000000 in
theorem m71:MkS Tryz.prog 71 (.sl y94):=by
 intro F w u x k hF0 hS h0 hk;have hS0:=hS;obtain⟨p,cap,hu,hcap,hmax,_⟩:=hS0;simp only[List.cons.injEq,and_true] at hu;subst hu;have hall:=cntP_all y94 x;refine calls_vs Tryz.func71 Tryz.ntmps71 rfl rfl ?_;refine ra ?_;refine pu ?_;refine oN (nQ (vs_seq (ra ?_)));refine pu ?_;refine oN (nQ (vs_block ?_));refine vs_loop (fun i:Nat=>(1,.int .i64 (k+(cntP y94 x i:Int))) :: (5,.int .i64 (i:Int)) :: (0,.slice p x.length cap) :: []) (fun i w'=>i<=x.length/\WM F w w') (fun i=>x.length-i) 0 ⟨Nat.zero_le _,WM.refl F w⟩ (by rw[cntP_zero]; simp only[Int.natCast_zero,Int.add_zero]; ((repeat (refine sub_cons rfl ?_)); exact sub_nil)) ?_;rintro i w1 ⟨hi,hm⟩;have hle:=cntP_le y94 x i hi;refine vs_seq (ra ?_);refine pu ?_;refine pu ?_;refine vo_val _ (runs_lenL rfl) rfl ?_;refine pu ?_;refine oN (nQ ?_);refine vs_cond rfl (fun hc=>?_) (fun hc=>?_)
 ·have hlt:i<x.length:=by simpa using hc
  obtain⟨_,b,o,c,rfl,hF,hU,hat,hs⟩:=SH.get hS hlt;have hsu:=cntP_succ (e:=y94) (xs:=x) hlt;have hle1:=cntP_le y94 x (i+1) (by omega);generalize x[i]=y at hs hsu;obtain⟨_,_,rfl,⟨z0,rfl,_⟩,⟨_,_,rfl,⟨z1,rfl,_,_⟩,q2⟩⟩:=hs;have r2:=q2;obtain⟨_,_,rfl,_⟩:=r2;have hy:cntM y94 y=(1+(1+cntM (.sl (.int .i64)) y.2.2)):=rfl;refine vs_skip (nQ (vs_seq (vs_block ?_)));refine ra ?_;refine pu ?_;refine pu ?_;refine pu ?_;refine tc' tC hm fun w2 s1 hs1 hm=>?_;refine im hlt ?_;refine fm ?_;refine ss hm hF hU (hat 0 _ rfl) hs1 fun w2 hm=>?_;refine rb ?_;refine pu ?_;refine ad ?_;refine pu ?_;refine rb ?_;refine pu ?_;refine pu ?_;refine pu ?_;refine im hlt ?_;refine fm ?_;refine si hm hF hU (hat 1 _ rfl) fun w2 hm=>?_;refine rb ?_;refine pu ?_;refine ad ?_;refine pu ?_;refine rc ?_;refine pu ?_;refine pu ?_;refine im hlt ?_;refine fm ?_;refine lm hm hF (hat 2 _ rfl) ?_;refine pu ?_;refine mc m13 hF0 hm q2 fun w2 hm _=>?_;refine pu ?_;refine rd' ?_;refine pu ?_;refine ad ?_;refine pu ?_;refine oN ?_;have he:k+((cntP y94 x (i+1):Nat):Int)=((((k+(cntP y94 x i:Int))+1)+1)+(cntM (.sl (.int .i64)) y.2.2:Int)):=by rw[hsu,hy]; omega
  refine fin_loop (i+1) ⟨by omega,hm⟩ (by omega) (by rw[he,Int.natCast_succ]; ((repeat (refine sub_cons rfl ?_)); exact sub_nil))
 ·have hge:i=x.length:=by
   have:¬i<x.length:=by simpa using hc
   omega
  subst hge;refine vs_exit (fin_seq_exit (fin_loop_exit (fin_blk_exit rfl (nQ (ra ?_)))));refine pu ?_;refine pu ?_;refine oN (nQ (vs_ret ?_));refine fin_ret1 Tryz.results71 rfl ?_;rw[hall];exact⟨rfl,hm⟩
set_option maxHeartbeats 2000000 in
theorem m70:MkS Tryz.prog 70 (.sl y92):=by
 intro F w u x k hF0 hS h0 hk;have hS0:=hS;obtain⟨p,cap,hu,hcap,hmax,_⟩:=hS0;simp only[List.cons.injEq,and_true] at hu;subst hu;have hall:=cntP_all y92 x;refine calls_vs Tryz.func70 Tryz.ntmps70 rfl rfl ?_;refine ra ?_;refine pu ?_;refine oN (nQ (vs_seq (ra ?_)));refine pu ?_;refine oN (nQ (vs_block ?_));refine vs_loop (fun i:Nat=>(1,.int .i64 (k+(cntP y92 x i:Int))) :: (5,.int .i64 (i:Int)) :: (0,.slice p x.length cap) :: []) (fun i w'=>i<=x.length/\WM F w w') (fun i=>x.length-i) 0 ⟨Nat.zero_le _,WM.refl F w⟩ (by rw[cntP_zero]; simp only[Int.natCast_zero,Int.add_zero]; ((repeat (refine sub_cons rfl ?_)); exact sub_nil)) ?_;rintro i w1 ⟨hi,hm⟩;have hle:=cntP_le y92 x i hi;refine vs_seq (ra ?_);refine pu ?_;refine pu ?_;refine vo_val _ (runs_lenL rfl) rfl ?_;refine pu ?_;refine oN (nQ ?_);refine vs_cond rfl (fun hc=>?_) (fun hc=>?_)
 ·have hlt:i<x.length:=by simpa using hc
  obtain⟨_,b,o,c,rfl,hF,hU,hat,hs⟩:=SH.get hS hlt;have hsu:=cntP_succ (e:=y92) (xs:=x) hlt;have hle1:=cntP_le y92 x (i+1) (by omega);generalize x[i]=y at hs hsu;obtain⟨_,_,rfl,⟨z0,rfl,_⟩,⟨_,_,rfl,⟨z1,rfl,_,_⟩,⟨_,_,rfl,q2,⟨_,_,rfl,q3,⟨_,_,rfl,q4,⟨_,_,rfl,⟨z5,rfl,_,_⟩,⟨z6,rfl,_,_⟩⟩⟩⟩⟩⟩⟩:=hs;have r2:=q2;obtain⟨_,_,rfl,_⟩:=r2;have r3:=q3;obtain⟨_,_,rfl,_⟩:=r3;have r4:=q4;obtain⟨_,_,rfl,_⟩:=r4;have hy:cntM y92 y=(1+(1+(cntM (.sl y194) y.2.2.1+(cntM (.sl y97) y.2.2.2.1+(cntM (.sl (.int .i64)) y.2.2.2.2.1+(1+1)))))):=rfl;refine vs_skip (nQ (vs_seq (vs_block ?_)));refine ra ?_;refine pu ?_;refine pu ?_;refine pu ?_;refine tc' tC hm fun w2 s1 hs1 hm=>?_;refine im hlt ?_;refine fm ?_;refine ss hm hF hU (hat 0 _ rfl) hs1 fun w2 hm=>?_;refine rb ?_;refine pu ?_;refine ad ?_;refine pu ?_;refine rb ?_;refine pu ?_;refine pu ?_;refine pu ?_;refine im hlt ?_;refine fm ?_;refine si hm hF hU (hat 1 _ rfl) fun w2 hm=>?_;refine rb ?_;refine pu ?_;refine ad ?_;refine pu ?_;refine rb ?_;refine pu ?_;refine pu ?_;refine im hlt ?_;refine fm ?_;refine lm hm hF (hat 2 _ rfl) ?_;refine pu ?_;refine mc m102 hF0 hm q2 fun w2 hm _=>?_;refine pu ?_;refine rb ?_;refine pu ?_;refine pu ?_;refine im hlt ?_;refine fm ?_;refine lm hm hF (hat 3 _ rfl) ?_;refine pu ?_;refine mc m103 hF0 hm q3 fun w2 hm _=>?_;refine pu ?_;refine rb ?_;refine pu ?_;refine pu ?_;refine im hlt ?_;refine fm ?_;refine lm hm hF (hat 4 _ rfl) ?_;refine pu ?_;refine mc m13 hF0 hm q4 fun w2 hm _=>?_;refine pu ?_;refine rb ?_;refine pu ?_;refine pu ?_;refine pu ?_;refine im hlt ?_;refine fm ?_;refine si hm hF hU (hat 5 _ rfl) fun w2 hm=>?_;refine rb ?_;refine pu ?_;refine ad ?_;refine pu ?_;refine rb ?_;refine pu ?_;refine pu ?_;refine pu ?_;refine im hlt ?_;refine fm ?_;refine si hm hF hU (hat 6 _ rfl) fun w2 hm=>?_;refine rc ?_;refine pu ?_;refine ad ?_;refine pu ?_;refine rd' ?_;refine pu ?_;refine ad ?_;refine pu ?_;refine oN ?_;have he:k+((cntP y92 x (i+1):Nat):Int)=((((((((k+(cntP y92 x i:Int))+1)+1)+(cntM (.sl y194) y.2.2.1:Int))+(cntM (.sl y97) y.2.2.2.1:Int))+(cntM (.sl (.int .i64)) y.2.2.2.2.1:Int))+1)+1):=by rw[hsu,hy]; omega
  refine fin_loop (i+1) ⟨by omega,hm⟩ (by omega) (by rw[he,Int.natCast_succ]; ((repeat (refine sub_cons rfl ?_)); exact sub_nil))
 ·have hge:i=x.length:=by
   have:¬i<x.length:=by simpa using hc
   omega
  subst hge;refine vs_exit (fin_seq_exit (fin_loop_exit (fin_blk_exit rfl (nQ (ra ?_)))));refine pu ?_;refine pu ?_;refine oN (nQ (vs_ret ?_));refine fin_ret1 Tryz.results70 rfl ?_;rw[hall];exact⟨rfl,hm⟩
set_option maxHeartbeats 2000000 in
theorem m34:MkS Tryz.prog 34 (.sl y111):=by
 intro F w u x k hF0 hS h0 hk;have hS0:=hS;obtain⟨p,cap,hu,hcap,hmax,_⟩:=hS0;simp only[List.cons.injEq,and_true] at hu;subst hu;have hall:=cntP_all y111 x;refine calls_vs Tryz.func34 Tryz.ntmps34 rfl rfl ?_;refine ra ?_;refine pu ?_;refine oN (nQ (vs_seq (ra ?_)));refine pu ?_;refine oN (nQ (vs_block ?_));refine vs_loop (fun i:Nat=>(1,.int .i64 (k+(cntP y111 x i:Int))) :: (5,.int .i64 (i:Int)) :: (0,.slice p x.length cap) :: []) (fun i w'=>i<=x.length/\WM F w w') (fun i=>x.length-i) 0 ⟨Nat.zero_le _,WM.refl F w⟩ (by rw[cntP_zero]; simp only[Int.natCast_zero,Int.add_zero]; ((repeat (refine sub_cons rfl ?_)); exact sub_nil)) ?_;rintro i w1 ⟨hi,hm⟩;have hle:=cntP_le y111 x i hi;refine vs_seq (ra ?_);refine pu ?_;refine pu ?_;refine vo_val _ (runs_lenL rfl) rfl ?_;refine pu ?_;refine oN (nQ ?_);refine vs_cond rfl (fun hc=>?_) (fun hc=>?_)
 ·have hlt:i<x.length:=by simpa using hc
  obtain⟨_,b,o,c,rfl,hF,hU,hat,hs⟩:=SH.get hS hlt;have hsu:=cntP_succ (e:=y111) (xs:=x) hlt;have hle1:=cntP_le y111 x (i+1) (by omega);generalize x[i]=y at hs hsu;obtain⟨_,_,rfl,q0,⟨_,_,rfl,q1,⟨_,_,rfl,q2,q3⟩⟩⟩:=hs;have r0:=q0;obtain⟨_,_,rfl,_⟩:=r0;have r1:=q1;obtain⟨_,_,rfl,_⟩:=r1;have r2:=q2;obtain⟨_,_,rfl,_⟩:=r2;have r3:=q3;obtain⟨_,_,rfl,_⟩:=r3;have hy:cntM y111 y=(cntM (.sl (.int .i64)) y.1+(cntM (.sl (.int .i64)) y.2.1+(cntM (.sl (.int .i64)) y.2.2.1+cntM (.sl (.int .i64)) y.2.2.2))):=rfl;refine vs_skip (nQ (vs_seq (vs_block ?_)));refine ra ?_;refine pu ?_;refine pu ?_;refine im hlt ?_;refine fm ?_;refine lm hm hF (hat 0 _ rfl) ?_;refine pu ?_;refine mc m13 hF0 hm q0 fun w2 hm _=>?_;refine pu ?_;refine rb ?_;refine pu ?_;refine pu ?_;refine im hlt ?_;refine fm ?_;refine lm hm hF (hat 1 _ rfl) ?_;refine pu ?_;refine mc m13 hF0 hm q1 fun w2 hm _=>?_;refine pu ?_;refine rb ?_;refine pu ?_;refine pu ?_;refine im hlt ?_;refine fm ?_;refine lm hm hF (hat 2 _ rfl) ?_;refine pu ?_;refine mc m13 hF0 hm q2 fun w2 hm _=>?_;refine pu ?_;refine rc ?_;refine pu ?_;refine pu ?_;refine im hlt ?_;refine fm ?_;refine lm hm hF (hat 3 _ rfl) ?_;refine pu ?_;refine mc m13 hF0 hm q3 fun w2 hm _=>?_;refine pu ?_;refine rd' ?_;refine pu ?_;refine ad ?_;refine pu ?_;refine oN ?_;have he:k+((cntP y111 x (i+1):Nat):Int)=(((((k+(cntP y111 x i:Int))+(cntM (.sl (.int .i64)) y.1:Int))+(cntM (.sl (.int .i64)) y.2.1:Int))+(cntM (.sl (.int .i64)) y.2.2.1:Int))+(cntM (.sl (.int .i64)) y.2.2.2:Int)):=by rw[hsu,hy]; omega
  refine fin_loop (i+1) ⟨by omega,hm⟩ (by omega) (by rw[he,Int.natCast_succ]; ((repeat (refine sub_cons rfl ?_)); exact sub_nil))
 ·have hge:i=x.length:=by
   have:¬i<x.length:=by simpa using hc
   omega
  subst hge;refine vs_exit (fin_seq_exit (fin_loop_exit (fin_blk_exit rfl (nQ (ra ?_)))));refine pu ?_;refine pu ?_;refine oN (nQ (vs_ret ?_));refine fin_ret1 Tryz.results34 rfl ?_;rw[hall];exact⟨rfl,hm⟩
set_option maxHeartbeats 2000000 in
theorem m32:MkA Tryz.prog 32 (.sl y92):=by
 intro F w cs x k hF0 hS h0 hk;have hc:cntM (.sl y92) x=cntM (.sl y92) x:=rfl;have q0:=hS;have r0:=q0;obtain⟨_,_,rfl,_⟩:=r0;refine calls_vs Tryz.func32 Tryz.ntmps32 rfl rfl ?_;refine vs_seq ?_;refine vs_region ?_;refine vo_box rfl rfl rfl ?_;intro b w1 hN B;have hm:WM F w w1:=WM.of_ext hN.ext;have hbF:¬F b:=by intro hb; have h1:=hF0 b hb; have h2:=hN.eq; have h3:=hN.size; omega
 refine pu ?_;refine oN ?_;refine nQ ?_;refine ra ?_;refine fm ?_;refine vo_loadB rfl B rfl rfl ?_;refine pu ?_;refine mc m70 hF0 hm q0 fun w2 hm hm2=>?_
 replace B:=blk_wm B hm2 hbF
 refine pu ?_;refine oN (nQ ?_);refine vs_seq ?_;refine vs_region ?_;refine pu ?_;refine pu ?_;refine oN ?_;refine nQ ?_;refine vs_ret ?_;refine fin_ret1 Tryz.results32 rfl ?_;refine⟨?_,hm⟩;rw[show k+(cntM (.sl y92) x:Int)=(k+(cntM (.sl y92) x:Int)) by omega]
set_option maxHeartbeats 2000000 in
theorem m33:MkA Tryz.prog 33 y44:=by
 intro F w cs x k hF0 hS h0 hk;have hc:cntM y44 x=(cntM (.sl y94) x.1+(cntM (.sl .str) x.2.1+cntM (.sl y149) x.2.2)):=rfl;obtain⟨_,_,rfl,q0,⟨_,_,rfl,q1,q2⟩⟩:=hS;have r0:=q0;obtain⟨_,_,rfl,_⟩:=r0;have r1:=q1;obtain⟨_,_,rfl,_⟩:=r1;have r2:=q2;obtain⟨_,_,rfl,_⟩:=r2;refine calls_vs Tryz.func33 Tryz.ntmps33 rfl rfl ?_;refine vs_seq ?_;refine vs_region ?_;refine vo_box rfl rfl rfl ?_;intro b w1 hN B;have hm:WM F w w1:=WM.of_ext hN.ext;have hbF:¬F b:=by intro hb; have h1:=hF0 b hb; have h2:=hN.eq; have h3:=hN.size; omega
 refine pu ?_;refine oN ?_;refine nQ ?_;refine ra ?_;refine fm ?_;refine vo_loadB rfl B rfl rfl ?_;refine pu ?_;refine mc m71 hF0 hm q0 fun w2 hm hm2=>?_
 replace B:=blk_wm B hm2 hbF
 refine pu ?_;refine oN (nQ ?_);refine ra ?_;refine fm ?_;refine vo_loadB rfl B rfl rfl ?_;refine pu ?_;refine mc m72 hF0 hm q1 fun w2 hm hm2=>?_
 replace B:=blk_wm B hm2 hbF
 refine pu ?_;refine oN (nQ ?_);refine ra ?_;refine fm ?_;refine vo_loadB rfl B rfl rfl ?_;refine pu ?_;refine mc m73 hF0 hm q2 fun w2 hm hm2=>?_
 replace B:=blk_wm B hm2 hbF
 refine pu ?_;refine oN (nQ ?_);refine vs_seq ?_;refine vs_region ?_;refine pu ?_;refine pu ?_;refine oN ?_;refine nQ ?_;refine vs_ret ?_;refine fin_ret1 Tryz.results33 rfl ?_;refine⟨?_,hm⟩;rw[show k+(cntM y44 x:Int)=(((k+(cntM (.sl y94) x.1:Int))+(cntM (.sl .str) x.2.1:Int))+(cntM (.sl y149) x.2.2:Int)) by omega]
set_option maxHeartbeats 2000000 in
theorem m12:MkA Tryz.prog 12 y47:=by
 intro F w cs x k hF0 hS h0 hk;have hc:cntM y47 x=(cntM (.sl y92) x.1+((cntM (.sl y94) x.2.1.1+(cntM (.sl .str) x.2.1.2.1+cntM (.sl y149) x.2.1.2.2))+cntM (.sl y111) x.2.2)):=rfl;obtain⟨_,_,rfl,q0,⟨_,_,rfl,⟨_,_,rfl,q1,⟨_,_,rfl,q2,q3⟩⟩,q4⟩⟩:=hS;have r0:=q0;obtain⟨_,_,rfl,_⟩:=r0;have r1:=q1;obtain⟨_,_,rfl,_⟩:=r1;have r2:=q2;obtain⟨_,_,rfl,_⟩:=r2;have r3:=q3;obtain⟨_,_,rfl,_⟩:=r3;have r4:=q4;obtain⟨_,_,rfl,_⟩:=r4;refine calls_vs Tryz.func12 Tryz.ntmps12 rfl rfl ?_;refine vs_seq ?_;refine vs_region ?_;refine vo_box rfl rfl rfl ?_;intro b w1 hN B;have hm:WM F w w1:=WM.of_ext hN.ext;have hbF:¬F b:=by intro hb; have h1:=hF0 b hb; have h2:=hN.eq; have h3:=hN.size; omega
 refine pu ?_;refine oN ?_;refine nQ ?_;refine ra ?_;refine fm ?_;refine vo_loadAt (cs:=[_]) rfl (B.at.mid (pre:=[]) (c:=[_]) (post:=[_,_,_,_])) rfl rfl ?_;refine pu ?_;have g0:SH F w (.sl y92) [_] x.1:=q0;have hn0:cntM (.sl y92) x.1=cntM (.sl y92) x.1:=rfl;refine ma m32 hF0 hm g0 fun w2 hm hm2=>?_
 replace B:=blk_wm B hm2 hbF
 refine pu ?_;refine oN (nQ ?_);refine ra ?_;refine fm ?_;refine vo_loadAt (cs:=[_,_,_]) rfl (B.at.mid (pre:=[_]) (c:=[_,_,_]) (post:=[_])) rfl rfl ?_;refine pu ?_;have g1:SH F w y44 [_,_,_] x.2.1:=⟨_,_,rfl,q1,⟨_,_,rfl,q2,q3⟩⟩;have hn1:cntM y44 x.2.1=(cntM (.sl y94) x.2.1.1+(cntM (.sl .str) x.2.1.2.1+cntM (.sl y149) x.2.1.2.2)):=rfl;refine ma m33 hF0 hm g1 fun w2 hm hm2=>?_
 replace B:=blk_wm B hm2 hbF
 refine pu ?_;refine oN (nQ ?_);refine ra ?_;refine fm ?_;refine vo_loadB rfl B rfl rfl ?_;refine pu ?_;refine mc m34 hF0 hm q4 fun w2 hm hm2=>?_
 replace B:=blk_wm B hm2 hbF
 refine pu ?_;refine oN (nQ ?_);refine vs_seq ?_;refine vs_region ?_;refine pu ?_;refine pu ?_;refine oN ?_;refine nQ ?_;refine vs_ret ?_;refine fin_ret1 Tryz.results12 rfl ?_;refine⟨?_,hm⟩;rw[show k+(cntM y47 x:Int)=(((k+(cntM (.sl y92) x.1:Int))+(cntM y44 x.2.1:Int))+(cntM (.sl y111) x.2.2:Int)) by omega]
set_option maxHeartbeats 2000000 in
theorem x13:MkE Tryz.prog 13 (.int .i64) 1 mkI:=by
 intro K w u x k hU hS h0 hk;obtain⟨p,cap,rfl,b,o,ds,hp,hat,hl,hcl⟩:=hS.row;have hsz:ds.length=x.length*1:=hl;refine calls_vs Tryz.func13 Tryz.ntmps13 rfl rfl ?_;refine vs_seq ?_;refine vs_region ?_;refine vo_pure rfl rfl ?_;refine oN ?_;refine nQ ?_;refine vs_seq ?_;refine vs_seq ?_;refine vs_region ?_;refine vo_pure rfl rfl ?_;refine oN ?_;refine nQ ?_;refine vs_block ?_;refine vs_loop (fun i:Nat=>(1,.int .i64 (k+((1*i:Nat):Int))) :: (5,.int .i64 (i:Int)) :: (0,.slice p x.length cap) :: []) (fun i w'=>i<=x.length/\WO K w w'/\(∀j,UF w j->UF w' j)/\At w' b o (mks k (1*i)++ds.drop (1*i))) (fun i=>x.length-i) 0 ⟨Nat.zero_le _,WO.refl K w,fun _ h=>h,hat⟩ (by simp only[Nat.mul_zero,Int.natCast_zero,Int.add_zero]; ((repeat (refine sub_cons rfl ?_)); exact sub_nil)) ?_;rintro i w1 ⟨hi,hm,hu,hat⟩;refine vs_seq ?_;refine vs_seq ?_;refine vs_region ?_;refine vo_pure rfl rfl ?_;refine vo_pure rfl rfl ?_;refine vo_val _ (runs_lenL rfl) rfl ?_;refine vo_pure rfl rfl ?_;refine oN ?_;refine nQ ?_;refine vs_cond rfl (fun hc=>?_) (fun hc=>?_)
 ·have hlt:i<x.length:=by simpa using hc
  obtain⟨rfl,hK⟩:=hp (by omega);have hUb:=hU b hK;refine vs_skip ?_;refine nQ ?_;refine vs_seq ?_;refine vs_block ?_;refine vs_seq ?_;refine vs_region ?_;refine vo_pure rfl rfl ?_;refine vo_pure rfl rfl ?_;refine vo_pure rfl rfl ?_;refine vo_idxN rfl rfl hlt rfl ?_;refine vo_storeK (j:=1*i+0) (k:=k) (ds:=ds) rfl rfl (by omega) (by omega) (by omega) hat (hu b hUb) ?_;intro w2 hm2 hu2 hat
  replace hm:=hm.trans (hm2.up (fun j e=>by rw[e]; exact hK))
  replace hu:∀j,UF w j->UF w2 j:=fun j h=>hu2 j (hu j h)
  refine oN ?_;refine nQ ?_;refine vs_region ?_;refine vo_pure rfl rfl ?_;refine vo_val _ (runs_add rfl rfl (by omega)) rfl ?_;refine vo_pure rfl rfl ?_;refine oN ?_;refine fin_blk ?_;refine nQ ?_;refine vs_region ?_;refine vo_pure rfl rfl ?_;refine vo_val _ (runs_add rfl rfl (by omega)) rfl ?_;refine vo_pure rfl rfl ?_;refine oN ?_;have he:k+((1*(i+1):Nat):Int)=k+((1*i:Nat):Int)+1:=by omega
  refine fin_loop (i+1) ⟨by omega,hm,hu,hat⟩ (by omega) (by rw[he,Int.natCast_succ]; ((repeat (refine sub_cons rfl ?_)); exact sub_nil))
 ·have hge:i=x.length:=by
   have:¬i<x.length:=by simpa using hc
   omega
  subst hge;refine vs_exit ?_;refine fin_seq_exit ?_;refine fin_loop_exit ?_;refine fin_blk_exit rfl ?_;refine nQ ?_;refine vs_seq ?_;refine vs_region ?_;refine vo_pure rfl rfl ?_;refine vo_pure rfl rfl ?_;refine oN ?_;refine nQ ?_;refine vs_ret ?_;refine fin_ret1 Tryz.results13 rfl ?_;refine⟨rfl,hm,hu,hcl _ _ (mkI_len _ _) (mks k (1*x.length)) ?_ (by rw[Nat.one_mul]; exact mkI_all _ _ h0 (by omega))⟩;rw[List.drop_eq_nil_of_le (by omega),List.append_nil] at hat;exact hat
end Go.Proofs.YtlfeppknkfknhaaGreatDoor
end
section
namespace Go.Proofs.YtlfeppknkfknhaaGreatDoor
open Go Go.Proofs Go.Proofs.Sv Go.Proofs.Xv Go.Proofs.Xl Go.RowKit
theorem cTo6{p:Prop}{n m:Nat}{w:World}{cs:List Value}{x:Y32}{r:Y47}(f:Fa p n m w y32 cs x)(h:u6 x=some r):Calls Tryz.prog 6 #[.agg cs.toArray] w fun en w'=>∃x0 x1 x2 x3 x4,en=.returned (.agg #[x0,x1,x2,x3,x4])/\Ext w w'/\Fa True w.heap.size w'.heap.size w' y47 [x0,x1,x2,x3,x4] r:=by
 refine Calls.mono (ok_call o6 (fun _=>rfl) rfl (x:=(x,())) h ⟨_,_,rfl,f.arg,rfl,rfl⟩) ?_;rintro _ w' ⟨v,rfl,hE,us,rfl,hr⟩;obtain⟨x0,_,rfl,h0,hr⟩:=rrs_cons hr;obtain⟨x1,_,rfl,h1,hr⟩:=rrs_cons hr;obtain⟨x2,_,rfl,h2,hr⟩:=rrs_cons hr;obtain⟨x3,_,rfl,h3,hr⟩:=rrs_cons hr;obtain⟨x4,_,rfl,h4,hr⟩:=rrs_cons hr;obtain⟨rfl,_⟩:=hr;exact⟨x0,x1,x2,x3,x4,rfl,hE,[x0],[x1,x2,x3,x4],rfl,RT.up h0.1 (fun _ h=>h rfl),[x1,x2,x3],[x4],rfl,⟨[x1],[x2,x3],rfl,RT.up h1.1 (fun _ h=>h rfl),[x2],[x3],rfl,RT.up h2.1 (fun _ h=>h rfl),RT.up h3.1 (fun _ h=>h rfl)⟩,RT.up h4.1 (fun _ h=>h rfl)⟩
end Go.Proofs.YtlfeppknkfknhaaGreatDoor
end
section
namespace Go.Proofs.YtlfeppknkfknhaaGreatDoor
open Go Go.Proofs Go.Proofs.Sv Go.Proofs.Xv Go.RowKit
attribute [local irreducible] VS VO VQ VH FinS seqQ blkQ loopQ RunsOp RunsU
attribute [local simp] spl reps Value.cells
set_option maxHeartbeats 2000000 in
theorem xs14:MkSS Tryz.prog 14:=by
 intro n m w u x k hA h0 hk;obtain⟨p,cap,hu,hc1,hc2⟩:∃p cap,u=.slice p x.length cap/\x.length<=cap/\cap<=9223372036854775807:=by
  obtain⟨p,cap,_,_,e,h1,h2,_⟩:=hA;exact⟨p,cap,e,h1,h2⟩
 subst hu;have e0:totL (x.take 0)=0:=rfl;refine calls_vs Tryz.func14 Tryz.ntmps14 rfl rfl ?_;refine ra ?_;refine pu ?_;refine oN (nQ (vs_seq (ra ?_)));refine pu ?_;refine oN (nQ (vs_block ?_));refine vs_loop (fun i:Nat=>(1,.int .i64 (k+(totL (x.take i):Int))) :: (5,.int .i64 (i:Int)) :: (0,.slice p x.length cap) :: []) (fun i w'=>i<=x.length/\WO (fun i=>n<=i/\i<m) w w'/\ApR n m w' (.slice p x.length cap) (halfL k x i)) (fun i=>x.length-i) 0 ⟨Nat.zero_le _,WO.refl _ w,hA⟩ (by rw[e0,Int.natCast_zero,Int.add_zero]; ((repeat (refine sub_cons rfl ?_)); exact sub_nil)) ?_;rintro i w1 ⟨hi,hm,hA⟩;refine vs_seq (ra ?_);refine pu ?_;refine pu ?_;refine vo_val _ (runs_lenL rfl) rfl ?_;refine pu ?_;refine oN (nQ ?_);refine vs_cond rfl (fun hc=>?_) (fun hc=>?_)
 ·have hlt:i<x.length:=by simpa using hc
  have hhl:=halfL_len k x i (by omega);obtain⟨b,o,c2,v,g,hv,hcell,hR,hb,hset⟩:=hA.at (i:=i) (by rw[hhl]; exact hlt);rw[hhl] at hv;cases hv;rw[halfL_get k x i hlt] at hR;have ht:=totL_take x i hlt;have hle:=totL_le x (i+1);refine vs_skip (nQ (vs_seq (vs_block ?_)));refine vs_region ?_;refine pu ?_;refine pu ?_;refine vo_idxN rfl rfl hlt rfl ?_;refine vo_load rfl (by rw[Nat.mul_one]; exact hcell) rfl ?_;refine pu ?_;refine vo_call rfl rfl (Calls.mono (x13 (fun j=>g=some j) w1 v (x.getD i []) _ (fun j e=>(hb j e).2.2) hR (by omega) (by omega)) ?_);rintro _ w2 ⟨rfl,o2,v2,q⟩;refine⟨_,rfl,?_⟩;have hA:=hset w2 _ o2 v2 q;rw[halfL_set k x i hlt] at hA
  replace hm:=hm.trans (o2.up fun j e=>⟨(hb j e).1,(hb j e).2.1⟩)
  refine pu ?_;refine rd' ?_;refine pu ?_;refine ad ?_;refine pu ?_;refine oN ?_;have he:k+(totL (x.take (i+1)):Int)=k+(totL (x.take i):Int)+((1*(x.getD i []).length:Nat):Int):=by rw[ht]; omega
  refine fin_loop (i+1) ⟨by omega,hm,hA⟩ (by omega) (by rw[he,Int.natCast_succ]; ((repeat (refine sub_cons rfl ?_)); exact sub_nil))
 ·have hge:i=x.length:=by
   have:¬i<x.length:=by simpa using hc
   omega
  subst hge;refine vs_exit (fin_seq_exit (fin_loop_exit (fin_blk_exit rfl (nQ (ra ?_)))));refine pu ?_;refine pu ?_;refine oN (nQ (vs_ret ?_));refine fin_ret1 Tryz.results14 rfl ?_;rw[halfL_all] at hA;rw[List.take_length];exact⟨rfl,hm,hA⟩
end Go.Proofs.YtlfeppknkfknhaaGreatDoor
end
section
namespace Go.Proofs.YtlfeppknkfknhaaGreatDoor
open Go Go.Proofs Go.Proofs.Sv Go.Proofs.Xv Go.Proofs.Xl Go.RowKit
attribute [local irreducible] VS VO VQ VH FinS seqQ blkQ loopQ RunsOp RunsU
attribute [local simp] spl reps Value.cells
structure HL3(x0:Y32)(x1:List Int)(l:List (List Int))(c:Int):Prop where
 ht1:u6 x0=some x0
 ht2:u7 x1=some x1
 hs3:u5 x0 x1=some (l,c)
 hs4:u8 x0 x1=some (l,c)
 he5:u9 l l=some true
 he6:u10 x0 x0=some true
 he7:u11 x1 x1=some true
 hk8:(1+(cntM y47 x0:Int))<=9223372036854775807
 hk9:((1+(cntM y47 x0:Int))+(cntM (.sl (.int .i64)) x1:Int))<=9223372036854775807
 hk10:(1+(totL l:Int))<=9223372036854775807
 hh11:u15 (mkL 1 l) (1:Int)=some (1+(totL l:Int))
def GL3(x0:Y32)(x1:List Int):Prop:=∃L0:Int,u4 x0 (1048576:Int)=some L0/\L0<=1048576/\(0<=L0->(x1.length<=1048576)->∃(l:List (List Int)) (c:Int),HL3 x0 x1 l c)
set_option maxRecDepth 100000 in
set_option maxHeartbeats 4000000 in
theorem law3{K:Nat->Prop}{w0:World}{cs0:List Value}{x0:Y32}(a0:RT K w0 y32 cs0 x0){v1:Value}{x1:List Int}(a1:RT K w0 (.sl (.int .i64)) [v1] x1)(hg:GL3 x0 x1):Calls Tryz.prog 3 #[.agg cs0.toArray,v1] w0 fun en w'=>en=.returned (.bool true)/\Ext w0 w':=by
 obtain⟨L0,hz0,hL0,hG⟩:=hg;obtain⟨c0a,c0b,c0c,c0d,c0e,rfl⟩:=list5 (RT.len a0);have f1:=Fa.of a0;obtain⟨p1,q1,rfl,_⟩:=RT.row a1;have f2:=Fa.of a1;have hb:Ext w0 w0:=Ext.refl w0;refine calls_vs Tryz.func3 Tryz.ntmps3 rfl rfl ?_;refine ra ?_;refine vo_box rfl rfl rfl ?_;intro b2 w1 hN B2;have i1:=hN.ext;have e2:=hN.eq;have s1:=hN.size;have B2:Blk w1 b2 [c0a,c0b,c0c,c0d,c0e] 32:=B2;refine pu ?_;refine oN (nQ (vs_seq (ra ?_)));refine pu ?_;refine vo_val _ (runs_lenL rfl) rfl ?_;refine pu ?_;refine oN (nQ (vs_cond rfl (fun hc=>?_) (fun hc=>?_)))
 ·refine ra ?_;refine pu ?_;refine oN (nQ (vs_ret ?_))
  (repeat refine fin_seq_ret ?_)
  refine fin_ret1 Tryz.results3 rfl ?_;have hb:=hb.trans i1;exact⟨rfl,hb⟩
 have hl0:x1.length<=1048576:=by simp at hc; omega
 refine vs_skip (nQ (ra ?_));refine pu ?_;refine rb ?_;refine vo_loadA rfl B2 rfl rfl ?_;refine pu ?_;have f1:=f1.ext i1;refine ci o4 (x:=(x0,(1048576:Int),())) hz0 ⟨_,_,rfl,f1.arg,⟨_,_,rfl,⟨rfl,by show lo .i64<=(1048576:Int); decide,by show(1048576:Int)<=hi .i64; decide⟩,⟨rfl,rfl⟩⟩⟩ fun w2 i2=>?_;have s2:=i2.size;refine pu ?_;refine oN (nQ (vs_seq (ra ?_)));refine pu ?_;refine pu ?_;refine oN (nQ (vs_cond rfl (fun hc=>?_) (fun hc=>?_)))
 ·refine ra ?_;refine pu ?_;refine oN (nQ (vs_ret ?_))
  (repeat refine fin_seq_ret ?_)
  refine fin_ret1 Tryz.results3 rfl ?_;have hb:=(hb.trans i1).trans i2;exact⟨rfl,hb⟩
 obtain⟨l,c,⟨ht1,ht2,hs3,hs4,he5,he6,he7,hk8,hk9,hk10,hh11⟩⟩:=hG (by simpa using hc) hl0;refine vs_skip (nQ (ra ?_));have B2:=B2.ext i2;refine vo_loadA rfl B2 rfl rfl ?_;have f1:=f1.ext i2;refine vo_call rfl rfl (Calls.mono (cTo6 f1 ht1) ?_);rintro _ w3 ⟨d3a,d3b,d3c,d3d,d3e,rfl,i3,g3⟩;refine⟨_,rfl,?_⟩;have s3:=i3.size;have f3:=g3;refine pu ?_;have f2:=f2.ext (i1.trans (i2.trans i3));refine vo_call rfl rfl (Calls.mono (ok_call o7 (fun _=>rfl) rfl (x:=(x1,())) ht2 ⟨_,_,rfl,f2.arg,⟨rfl,rfl⟩⟩) ?_);rintro _ w4 ⟨v4,rfl,i4,hr⟩;refine⟨_,rfl,?_⟩;have s4:=i4.size;have hq:=rr_dat (t:=(.sl (.int .i64))) (x:=x1) (fr:=true) hr;have f4:Fa True w3.heap.size w4.heap.size w4 (.sl (.int .i64)) [v4] x1:=RT.up hq (fun _ h=>h rfl);have f3:=f3.ext i4;refine vo_call rfl rfl (Calls.mono (ok_call o5 (fun _=>rfl) rfl (x:=(x0,x1,())) hs3 ⟨_,_,rfl,f3.arg,⟨_,_,rfl,f4.arg,⟨rfl,rfl⟩⟩⟩) ?_);rintro _ w5 ⟨v,rfl,i5,hr⟩;refine⟨_,rfl,?_⟩;have s5:=i5.size;obtain⟨u5,v5,rfl,hr1,hr2⟩:=rr_two hr;obtain rfl:=rr_int hr2;have hq:=rr_dat (t:=(.sl (.sl (.int .i64)))) (x:=l) (fr:=true) hr1;have f5:Fa True w4.heap.size w5.heap.size w5 (.sl (.sl (.int .i64))) [u5] l:=RT.up hq (fun _ h=>h rfl);refine pu ?_;refine pu ?_;refine pu ?_;refine pu ?_;refine pu ?_;refine rb ?_;have B2:=B2.ext (i3.trans (i4.trans i5));refine vo_loadA rfl B2 rfl rfl ?_;have f1:=f1.ext (i3.trans (i4.trans i5));refine vo_call rfl rfl (Calls.mono (cTo6 f1 ht1) ?_);rintro _ w6 ⟨d6a,d6b,d6c,d6d,d6e,rfl,i6,g6⟩;refine⟨_,rfl,?_⟩;have s6:=i6.size;have f6:=g6;refine vo_alloc rfl rfl ?_;intro b8 w7 hN B8;have i7:=hN.ext;have e8:=hN.eq;have s7:=hN.size;have f6:=f6.ext i7;refine vo_store (vs:=[d6a,d6b,d6c,d6d,d6e]) rfl rfl B8 rfl rfl (ones_of (RT.one f6)) rfl ?_;intro w8 hR hN;have i8:=wr_wo hR;have s8:=hR.size;have B8:Blk w8 b8 [d6a,d6b,d6c,d6d,d6e] 47:=hN;refine rb ?_;refine pu ?_;have f2:=(f2.ext (i4.trans (i5.trans (i6.trans i7)))).wo i8 fun i h1 h2 h3=>by omega
 refine vo_call rfl rfl (Calls.mono (ok_call o7 (fun _=>rfl) rfl (x:=(x1,())) ht2 ⟨_,_,rfl,f2.arg,⟨rfl,rfl⟩⟩) ?_);rintro _ w9 ⟨v7,rfl,i9,hr⟩;refine⟨_,rfl,?_⟩;have s9:=i9.size;have hq:=rr_dat (t:=(.sl (.int .i64))) (x:=x1) (fr:=true) hr;have f7:Fa True w8.heap.size w9.heap.size w9 (.sl (.int .i64)) [v7] x1:=RT.up hq (fun _ h=>h rfl);refine pu ?_;refine rb ?_;have B8:=B8.ext i9;refine vo_loadA rfl B8 rfl rfl ?_;refine pu ?_;have f6:=(f6.wo i8 fun i h1 h2 h3=>by omega).ext i9;refine vo_call rfl rfl (Calls.mono (cA8 hs4 ⟨_,_,rfl,f6.arg,⟨_,_,rfl,f7.arg,⟨rfl,rfl⟩⟩⟩) ?_);rintro _ w10 ⟨u8,rfl,i10,g8⟩;refine⟨_,rfl,?_⟩;have s10:=i10.size;have f8:=g8;refine pu ?_;refine pu ?_;refine pu ?_;refine pu ?_;refine pu ?_;refine oN (nQ (vs_seq (ra ?_)));refine pu ?_;refine pu ?_;have f5:=((f5.ext (i6.trans i7)).wo i8 fun i h1 h2 h3=>by omega).ext (i9.trans i10);refine cb o9 (x:=(l,l,())) he5 ⟨_,_,rfl,f8.arg,⟨_,_,rfl,f5.arg,⟨rfl,rfl⟩⟩⟩ fun w11 i11=>?_;have s11:=i11.size;refine pu ?_;refine pu ?_;refine vo_guard_take rfl rfl ?_;refine pu ?_;refine vo_guard_take rfl rfl ?_;refine pu ?_;refine vo_guard_take rfl rfl ?_;refine pu ?_;refine vo_isF (bne_self_eq_false _) ?_;refine pu ?_;refine oN (nQ (vs_cond_false rfl ?_));refine vs_skip (nQ (vs_seq (vs_seq ?_)));refine vs_held ?_;intro w12 i12;have s12:=i12.size;have hS:=Ext.refl w12;have B8:=B8.ext (i10.trans (i11.trans i12));have B2:=(blk_wo (B2.ext (i6.trans i7)) i8 fun h=>by omega).ext (i9.trans (i10.trans (i11.trans i12)));refine vh_take 0 rfl (fun _ hX=>runs_loadA rfl (lenIs_eq rfl) (B8.ext hX).at) rfl (by kernel_rfl) (by kernel_rfl) (by kernel_rfl) ?_;refine vh_take 1 rfl (fun _ hX=>runs_loadA rfl (lenIs_eq rfl) (B2.ext hX).at) rfl (by kernel_rfl) (by kernel_rfl) (by kernel_rfl) ?_;have f1:=((f1.ext (i6.trans i7)).wo i8 fun i h1 h2 h3=>by omega).ext (i9.trans (i10.trans (i11.trans i12)));refine vh_one 2 (by kernel_rfl) (vho_call rfl rfl rfl (Calls.mono (cTo6 f1 ht1) ?_)) hS;rintro _ w13 ⟨d9a,d9b,d9c,d9d,d9e,rfl,i13,g9⟩;refine⟨_,rfl,?_⟩
 replace hS:=hS.trans i13
 have s13:=i13.size;have f9:=g9;have f6:=f6.ext (i10.trans (i11.trans (i12.trans i13)));refine vh_one 3 (by kernel_rfl) (vho_call rfl rfl rfl (Calls.mono (ok_call o10 (fun _=>rfl) rfl (x:=(x0,x0,())) he6 ⟨_,_,rfl,f6.arg,⟨_,_,rfl,f9.arg,⟨rfl,rfl⟩⟩⟩) ?_)) hS;rintro _ w14 ⟨v,rfl,i14,hr⟩;obtain rfl:=rr_bool hr;refine⟨_,rfl,?_⟩
 replace hS:=hS.trans i14
 have s14:=i14.size;refine vh_only 4 rfl (by kernel_rfl) (runs_pure rfl) rfl ?_;refine vh_done (by kernel_rfl) ?_ hS;refine nQ (vs_cond_false rfl ?_);refine vs_skip (nQ (vs_seq (ra ?_)));refine pu ?_;refine pu ?_;have f2:=f2.ext (i9.trans (i10.trans (i11.trans (i12.trans (i13.trans i14)))));refine vo_call rfl rfl (Calls.mono (ok_call o7 (fun _=>rfl) rfl (x:=(x1,())) ht2 ⟨_,_,rfl,f2.arg,⟨rfl,rfl⟩⟩) ?_);rintro _ w15 ⟨v10,rfl,i15,hr⟩;refine⟨_,rfl,?_⟩;have s15:=i15.size;have hq:=rr_dat (t:=(.sl (.int .i64))) (x:=x1) (fr:=true) hr;have f10:Fa True w14.heap.size w15.heap.size w15 (.sl (.int .i64)) [v10] x1:=RT.up hq (fun _ h=>h rfl);have f7:=f7.ext (i10.trans (i11.trans (i12.trans (i13.trans (i14.trans i15)))));refine cb o11 (x:=(x1,x1,())) he7 ⟨_,_,rfl,f7.arg,⟨_,_,rfl,f10.arg,⟨rfl,rfl⟩⟩⟩ fun w16 i16=>?_;have s16:=i16.size;refine pu ?_;refine oN (nQ (vs_cond_false rfl ?_));refine vs_skip (nQ (ra ?_));refine pu ?_;refine rb ?_;have B8:=B8.ext (i13.trans (i14.trans (i15.trans i16)));refine vo_loadA rfl B8 rfl rfl ?_;refine pu ?_;have f6:=f6.ext (i14.trans (i15.trans i16));refine vo_call rfl rfl (Calls.mono (m12 (fun i=>w5.heap.size<=i/\i<w6.heap.size) _ _ _ _ (fun i hi=>by omega) (f6.sh rfl) (by omega) (by omega)) ?_);rintro _ w17 ⟨rfl,hM⟩;refine⟨_,rfl,?_⟩;have i17:=hM.wo;have s17:=i17.size;refine pu ?_;refine rb ?_;refine pu ?_;refine pu ?_;have f7:=(f7.ext i16).wo i17 fun i h1 h2 h3=>by omega
 refine vo_call rfl rfl (Calls.mono (m13 (fun i=>w8.heap.size<=i/\i<w9.heap.size) _ _ _ _ (fun i hi=>by omega) (f7.sh rfl) (by omega) (by omega)) ?_);rintro _ w18 ⟨rfl,hM⟩;refine⟨_,rfl,?_⟩;have i18:=hM.wo;have s18:=i18.size;refine pu ?_;refine oN (nQ (vs_seq (ra ?_)));refine pu ?_;refine pu ?_;refine vo_isF (decide_eq_false (by omega)) ?_;refine pu ?_;refine vo_guard_take rfl rfl ?_;refine pu ?_;refine vo_guard_take rfl rfl ?_;refine pu ?_;refine vo_guard_take rfl rfl ?_;have f8:=((f8.ext (i11.trans (i12.trans (i13.trans (i14.trans (i15.trans i16)))))).wo i17 fun i h1 h2 h3=>by omega).wo i18 fun i h1 h2 h3=>by omega
 have f5:=((f5.ext (i11.trans (i12.trans (i13.trans (i14.trans (i15.trans i16)))))).wo i17 fun i h1 h2 h3=>by omega).wo i18 fun i h1 h2 h3=>by omega
 refine cb o9 (x:=(l,l,())) he5 ⟨_,_,rfl,f8.arg,⟨_,_,rfl,f5.arg,⟨rfl,rfl⟩⟩⟩ fun w19 i19=>?_;have s19:=i19.size;refine vo_guard_take rfl rfl ?_;refine pu ?_;refine pu ?_;refine pu ?_;refine vo_guard_take rfl rfl ?_;refine pu ?_;refine vo_guard_take rfl rfl ?_;refine pu ?_;refine vo_guard_take rfl rfl ?_;refine pu ?_;refine vo_isF (bne_self_eq_false _) ?_;refine pu ?_;refine oN (nQ (vs_cond_false rfl ?_));refine vs_skip (nQ (ra ?_));refine pu ?_;refine rb ?_;refine pu ?_;refine pu ?_;have f8:=f8.ext i19;refine vo_call rfl rfl (Calls.mono (xs14 _ _ _ _ _ _ f8 (by omega) (by omega)) ?_);rintro _ w20 ⟨rfl,i20,g19⟩;refine⟨_,rfl,?_⟩;have s20:=i20.size;have f8:=g19;refine pu ?_;refine rb ?_;refine pu ?_;refine rb ?_;refine pu ?_;refine pu ?_;refine ci o15 (x:=((mkL 1 l),(1:Int),())) hh11 ⟨_,_,rfl,f8.arg,⟨_,_,rfl,⟨rfl,by show lo .i64<=(1:Int); decide,by show(1:Int)<=hi .i64; decide⟩,⟨rfl,rfl⟩⟩⟩ fun w21 i21=>?_;have s21:=i21.size;refine pu ?_;refine oN (nQ (vs_seq (ra ?_)));refine pu ?_;refine pu ?_;refine vo_isF (decide_eq_false (by omega)) ?_;refine oN (nQ (vs_cond_false rfl ?_));refine vs_skip (nQ (vs_seq (ra ?_)));refine pu ?_;refine pu ?_;refine pu ?_;refine vo_isF (bne_self_eq_false _) ?_;refine oN (nQ (vs_cond_false rfl ?_));refine vs_skip (nQ (ra ?_));have B2:=(blk_wo ((blk_wo (blk_wo (B2.ext (i13.trans (i14.trans (i15.trans i16)))) i17 fun h=>by omega) i18 fun h=>by omega).ext i19) i20 fun h=>by omega).ext i21;refine vo_loadA rfl B2 rfl rfl ?_;have f1:=(((((f1.ext (i13.trans (i14.trans (i15.trans i16)))).wo i17 fun i h1 h2 h3=>by omega).wo i18 fun i h1 h2 h3=>by omega).ext i19).wo i20 fun i h1 h2 h3=>by omega).ext i21;refine vo_call rfl rfl (Calls.mono (cTo6 f1 ht1) ?_);rintro _ w22 ⟨d11a,d11b,d11c,d11d,d11e,rfl,i22,g11⟩;refine⟨_,rfl,?_⟩;have s22:=i22.size;have f11:=g11;refine pu ?_;have f2:=(((((f2.ext (i15.trans i16)).wo i17 fun i h1 h2 h3=>by omega).wo i18 fun i h1 h2 h3=>by omega).ext i19).wo i20 fun i h1 h2 h3=>by omega).ext (i21.trans i22);refine vo_call rfl rfl (Calls.mono (ok_call o7 (fun _=>rfl) rfl (x:=(x1,())) ht2 ⟨_,_,rfl,f2.arg,⟨rfl,rfl⟩⟩) ?_);rintro _ w23 ⟨v12,rfl,i23,hr⟩;refine⟨_,rfl,?_⟩;have s23:=i23.size;have hq:=rr_dat (t:=(.sl (.int .i64))) (x:=x1) (fr:=true) hr;have f12:Fa True w22.heap.size w23.heap.size w23 (.sl (.int .i64)) [v12] x1:=RT.up hq (fun _ h=>h rfl);have f11:=f11.ext i23;refine vo_call rfl rfl (Calls.mono (cA8 hs4 ⟨_,_,rfl,f11.arg,⟨_,_,rfl,f12.arg,⟨rfl,rfl⟩⟩⟩) ?_);rintro _ w24 ⟨u13,rfl,i24,g13⟩;refine⟨_,rfl,?_⟩;have s24:=i24.size;have f13:=g13;refine pu ?_;refine pu ?_;refine pu ?_;refine pu ?_;refine pu ?_;refine oN (nQ (vs_seq (ra ?_)));refine pu ?_;refine pu ?_;have f5:=((f5.ext i19).wo i20 fun i h1 h2 h3=>by omega).ext (i21.trans (i22.trans (i23.trans i24)));refine cb o9 (x:=(l,l,())) he5 ⟨_,_,rfl,f13.arg,⟨_,_,rfl,f5.arg,⟨rfl,rfl⟩⟩⟩ fun w25 i25=>?_;have s25:=i25.size;refine pu ?_;refine pu ?_;refine vo_guard_take rfl rfl ?_;refine pu ?_;refine vo_guard_take rfl rfl ?_;refine pu ?_;refine vo_guard_take rfl rfl ?_;refine pu ?_;refine vo_isF (bne_self_eq_false _) ?_;refine pu ?_;refine oN (nQ (vs_cond_false rfl ?_));refine vs_skip (nQ (ra ?_));refine pu ?_;refine rb ?_;refine pu ?_;refine pu ?_;have f8:=f8.ext (i21.trans (i22.trans (i23.trans (i24.trans i25))));refine ci o15 (x:=((mkL 1 l),(1:Int),())) hh11 ⟨_,_,rfl,f8.arg,⟨_,_,rfl,⟨rfl,by show lo .i64<=(1:Int); decide,by show(1:Int)<=hi .i64; decide⟩,⟨rfl,rfl⟩⟩⟩ fun w26 i26=>?_;have s26:=i26.size;refine pu ?_;refine oN (nQ (vs_seq (ra ?_)));refine pu ?_;refine pu ?_;refine vo_isF (decide_eq_false (by omega)) ?_;refine oN (nQ (vs_cond_false rfl ?_));refine vs_skip (nQ (vs_seq (ra ?_)));refine pu ?_;refine pu ?_;refine pu ?_;refine vo_isF (bne_self_eq_false _) ?_;refine oN (nQ (vs_cond_false rfl ?_));refine vs_skip (nQ (ra ?_));refine pu ?_;refine oN (nQ (vs_ret ?_))
 (repeat refine fin_seq_ret ?_)
 refine fin_ret1 Tryz.results3 rfl ?_;have hb:=((((((i20.ext ((i18.ext (i17.ext (((((((((i8.ext (((((((hb.trans i1).trans i2).trans i3).trans i4).trans i5).trans i6).trans i7) fun i h=>by omega).trans i9).trans i10).trans i11).trans i12).trans i13).trans i14).trans i15).trans i16) fun i h=>by omega) fun i h=>by omega).trans i19) fun i h=>by omega).trans i21).trans i22).trans i23).trans i24).trans i25).trans i26;exact⟨rfl,hb⟩
end Go.Proofs.YtlfeppknkfknhaaGreatDoor
end
section
namespace Go.Proofs.Xd
open Go Go.Proofs.Xv Go.Proofs.Xl
abbrev DTbl:=List Int×List Int×List Int
abbrev DArc:=Int×Int×Int×Int×List DTbl×List DTbl
abbrev DPin:=ByteArray×Int×Int×Bool
abbrev DInst:=ByteArray×Int×List Int
abbrev DPort:=ByteArray×Int×Int
abbrev DWire:=List Int×List Int×List Int×List Int
def inB(x l h:Int):Bool:=decide (l<=x)&&decide (x<=h)
theorem inB_iff{x l h:Int}:inB x l h=true↔l<=x/\x<=h:=by simp[inB]
def incB(xs:List Int):Bool:=!(List.range xs.length).any fun i=>decide (0<i)&&decide (xs.getD i 0<=xs.getD (i-1) 0)
def isAxis(xs:List Int):Bool:=decide (1<=xs.length)&&decide (xs.length<=4)&&xs.all (inB · 0 100000)&&incB xs
def isTable(t:DTbl):Bool:=isAxis t.1&&isAxis t.2.1&&decide (t.2.2.length=t.1.length*t.2.1.length)&&t.2.2.all (inB · (-1000000) 1000000)
theorem axis_len{xs:List Int}(h:isAxis xs=true):1<=xs.length/\xs.length<=4:=by
 simp only[isAxis,ba,dq] at h;exact⟨h.1.1.1,h.1.1.2⟩
theorem table_len{t:DTbl}(h:isTable t=true):1<=t.1.length/\t.1.length<=4/\1<=t.2.1.length/\t.2.1.length<=4/\t.2.2.length=t.1.length*t.2.1.length/\1<=t.2.2.length/\t.2.2.length<=16:=by
 simp only[isTable,ba,dq] at h;obtain⟨⟨⟨h1,h2⟩,h3⟩,_⟩:=h;obtain⟨a1,a2⟩:=axis_len h1;obtain⟨b1,b2⟩:=axis_len h2;have c1:1*1<=t.1.length*t.2.1.length:=Nat.mul_le_mul a1 b1;have c2:t.1.length*t.2.1.length<=4*4:=Nat.mul_le_mul a2 b2;exact⟨a1,a2,b1,b2,h3,by omega,by omega⟩
def minN(xs:List Int):Int:=fN (fun i m=>min m (xs.getD (i+1) 0)) (xs.length-1) (xs.getD 0 0)
def areTables(l:List DTbl)(p:Bool):Bool:=decide (l.length=2)&&l.all fun t=>isTable t&&!(p&&decide (minN t.2.2<0))
theorem all_any{α:Type}(l:List α)(p:α->Bool):(!l.any fun x=>!p x)=l.all p:=by
 induction l with
 | nil=>rfl
 | cons a r ih=>simp only[List.any_cons,List.all_cons,Bool.not_or,Bool.not_not,ih]
end Go.Proofs.Xd
end
section
namespace Go.Proofs.Xd
open Go Go.Proofs.Sv Go.Proofs.Xv Go.Proofs.Xl
theorem nmTo_any(s:ByteArray):∀n,nmTo s n=!(List.range n).any fun i=>!chB (byteAt s i) i
 | 0=>rfl
 | n+1=>by
   rw[nmTo,nmTo_any s n,List.range_succ,List.any_append,Bool.not_or];simp
def dupB(f:Nat->ByteArray)(i:Nat):Bool:=(List.range i).any fun k=>decide (f k=f i)
def namesB(n:Nat)(f:Nat->ByteArray):Bool:=!(List.range n).any fun i=>!nmB (f i)||dupB f i
theorem namesB_congr{n:Nat}{f g:Nat->ByteArray}(h:∀i,i<n->f i=g i):namesB n f=namesB n g:=by
 unfold namesB;congr 1;refine any_congr' fun i hi=>?_;rw[h i hi];congr 1;unfold dupB;refine any_congr' fun k hk=>?_;rw[h i hi,h k (by omega)]
theorem take_any(l:List ByteArray)(d:ByteArray)(i:Nat)(h:i<l.length):((l.take i).any fun y=>decide (l.getD i d=y))=dupB (fun k=>l.getD k d) i:=by
 have hl:(l.take i).length=i:=by rw[List.length_take]; omega
 rw[<- any_getD (l.take i) d (fun y=>decide (l.getD i d=y)),hl];unfold dupB;refine any_congr' fun k hk=>?_;have:(l.take i).getD k d=l.getD k d:=by
  rw[gq,gq,List.getElem?_take_of_lt hk]
 rw[this,decide_eq_decide];exact eq_comm
theorem getD_map'{α β:Type}(f:α->β)(l:List α)(i:Nat)(d:α)(e:β)(h:i<l.length):(l.map f).getD i e=f (l.getD i d):=by
 rw[gq,gq,List.getElem?_map,List.getElem?_eq_getElem h]; rfl
theorem range_map{α β:Type}(l:List α)(d:α)(f:α->β):(List.range l.length).map (fun i=>f (l.getD i d))=l.map f:=by
 apply List.ext_getElem?;intro i;rw[List.getElem?_map,List.getElem?_map];by_cases h:i<l.length
 ·rw[List.getElem?_range h,List.getElem?_eq_getElem h];show some (f (l.getD i d))=some (f l[i]);rw[gq,List.getElem?_eq_getElem h]; rfl
 ·rw[List.getElem?_eq_none (by simpa using h),List.getElem?_eq_none (by omega)]; rfl
def pinB(n:Nat)(q:DPin)(i:Nat):Bool:=inB q.2.2.1 0 500&&(if i+1=n then q.2.1==2&&q.2.2.1==0&&!q.2.2.2 else q.2.1==1)
def pinsOk(n:Nat)(p:Nat->DPin):Bool:=decide (2<=n)&&decide (n<=5)&&namesB n (fun i=>(p i).1)&&!(List.range n).any fun i=>!pinB n (p i) i
def clkN(n:Nat)(p:Nat->DPin):Int:=fN (fun i s=>if(p i).2.2.2=true then s+1 else s) n 0
def clkI(n:Nat)(p:Nat->DPin):Int:=match(List.range n).find? (fun i=>(p i).2.2.2) with | some i=>(i:Int) | none => -1
def dupA(a:Nat->DArc)(i:Nat):Bool:=(List.range i).any fun k=>(a k).1==(a i).1&&(a k).2.1==(a i).2.1&&(a k).2.2.1==(a i).2.2.1
def isArcS(n:Nat)(p:Nat->DPin)(a:DArc):Bool :=
 inB a.2.1 0 ((n:Int)-1-1)&&inB a.2.2.1 0 ((n:Int)-1) &&
 if a.1=1 then !(p a.2.1.toNat).2.2.2&&a.2.2.1==(n:Int)-1&&inB a.2.2.2.1 1 3&&areTables a.2.2.2.2.1 true&&areTables a.2.2.2.2.2 true
 else if a.1=2∨a.1=3 then(p a.2.1.toNat).2.2.2&&a.2.2.1==(n:Int)-1&&a.2.2.2.1==0&&areTables a.2.2.2.2.1 true&&areTables a.2.2.2.2.2 true
 else if a.1=4∨a.1=5 then(p a.2.1.toNat).2.2.2&&decide (a.2.2.1 < (n:Int)-1)&&!(p a.2.2.1.toNat).2.2.2&&a.2.2.2.1==0&&areTables a.2.2.2.2.1 false&&(a.2.2.2.2.2.length:Int)==0
 else false
def isArcI(n:Nat)(p:Nat->DPin)(a:DArc):Bool :=
 if a.1=4∨a.1=5 then a.2.2.2.1==0&&(a.2.2.2.2.2.length:Int)==0&&areTables a.2.2.2.2.1 false&&a.2.1==clkI n p&&decide (0<=a.2.1)&&inB a.2.2.1 0 ((n:Int)-1-1)&&a.2.2.1 != a.2.1
 else areTables a.2.2.2.2.1 true&&areTables a.2.2.2.2.2 true&&a.2.2.1==(n:Int)-1&&inB a.2.1 0 ((n:Int)-1-1) &&
  if a.1=1 then !(p a.2.1.toNat).2.2.2&&inB a.2.2.2.1 1 3
  else if a.1=2∨a.1=3 then(p a.2.1.toNat).2.2.2&&a.2.2.2.1==0
  else false
theorem clkN_le(p:Nat->DPin):∀n,0<=clkN n p/\clkN n p<=n
 | 0=>⟨Int.le_refl _,Int.le_refl _⟩
 | n+1=>by
   have:=clkN_le p n
   grind[clkN,fN]
theorem clkN_one{p:Nat->DPin}:∀{n i:Nat},i<n->(p i).2.2.2=true->1<=clkN n p
 | n+1,i,hi,h=>by
   have h0:=(clkN_le p n).1;have ih:i<n->1<=clkN n p:=fun h'=>clkN_one h' h;unfold clkN at *
   rw[fN]
   grind
theorem clkN_two{p:Nat->DPin}:∀{n i j:Nat},i<j->j<n->(p i).2.2.2=true->(p j).2.2.2=true->2<=clkN n p
 | n+1,i,j,hij,hj,h,k=>by
   have ih:j<n->2<=clkN n p:=fun h'=>clkN_two hij h' h k;have h1:i<n->1<=clkN n p:=fun h'=>clkN_one h' h;unfold clkN at *
   rw[fN]
   grind
theorem clkI_eq{p:Nat->DPin}{n i:Nat}(hn:clkN n p<=1)(hi:i<n):(p i).2.2.2=decide (clkI n p=(i:Int)):=by
 unfold clkI;cases h:(List.range n).find? (fun i=>(p i).2.2.2) with
 | none =>
   grind
 | some j =>
   have h1:=List.find?_some h;have h2:=List.mem_range.1 (List.mem_of_find?_eq_some h);show _=decide ((j:Int)=(i:Int));by_cases e:j=i
   ·grind
   ·rw[decide_eq_false (by omega),<- Bool.not_eq_true];intro hc;rcases Nat.lt_or_gt_of_ne e with h' | h'
    ·have:=clkN_two (p:=p) h' hi h1 hc; omega
    simp_all
theorem clkI_lt{p:Nat->DPin}{n:Nat}:clkI n p<n:=by
 grind[clkI,List.range,List.mem_of_find?_eq_some]
theorem pins_last{p:Nat->DPin}{n:Nat}(h:pinsOk n p=true):2<=n/\n<=5/\(p (n-1)).2.2.2=false:=by
 grind[pinsOk,pinB]
theorem arc_eq{p:Nat->DPin}{n:Nat}(h:pinsOk n p=true)(hc:clkN n p<=1)(a:DArc):isArcI n p a=isArcS n p a:=by
 obtain⟨h2,h5,hl⟩:=pins_last h;obtain⟨kd,fr,to,se,de,sl⟩:=a;rw[Bool.eq_iff_iff];unfold isArcI isArcS;dsimp only;have hcl:∀x:Int,0<=x->x<=(n:Int)-1->(p x.toNat).2.2.2=decide (clkI n p=x):=fun x h0 h1=>by
  rw[clkI_eq hc (by omega)];rw[decide_eq_decide]; omega
 have hlast:clkI n p≠(n:Int)-1:=fun e=>by
  have:=hcl ((n:Int)-1) (by omega) (by omega);have e2:((n:Int)-1).toNat=n-1:=by omega
  rw[e2,hl,decide_eq_true e] at this;cases this
 have hlt:=clkI_lt (p:=p) (n:=n);by_cases k45:kd=4∨kd=5
 ·rw[if_pos k45,if_neg (by omega),if_neg (by omega),if_pos k45];simp only[ba,inB_iff,dq,beq_iff_eq,bne_iff_ne,Bool.not_eq_true']
  grind
 ·rw[if_neg k45];by_cases k1:kd=1
  ·rw[if_pos k1,if_pos k1];simp only[ba,inB_iff,beq_iff_eq]
   grind
  ·rw[if_neg k1,if_neg k1];by_cases k23:kd=2∨kd=3
   ·rw[if_pos k23,if_pos k23];simp only[ba,inB_iff,beq_iff_eq]
    grind
   grind
def hasB(m:Nat)(a:Nat->DArc)(k:Int):Bool:=(List.range m).any fun i=>(a i).1==k
def kindB(k:Int)(n:Nat)(p:Nat->DPin)(m:Nat)(a:Nat->DArc)(tr:List Int):Bool :=
 if k=1 then clkN n p==0&&(tr.length:Int)==1*2 ^ (n-1)&&tr.all (inB · 0 1)
 else if k=2 then clkN n p==1&&(tr.length:Int)==0&&!hasB m a 1&&!(hasB m a 2==hasB m a 3)
 else if k=3 then clkN n p==1&&(tr.length:Int)==0&&hasB m a 1&&hasB m a 2&&!hasB m a 3
 else false
theorem kind_clk{k:Int}{n:Nat}{p:Nat->DPin}{m:Nat}{a:Nat->DArc}{tr:List Int}(h:kindB k n p m a tr=true):clkN n p<=1:=by
 grind[kindB]
def arcsB(q:DArc->Bool)(m:Nat)(a:Nat->DArc):Bool:=decide (m<=8)&&!(List.range m).any fun i=>!q (a i)||dupA a i
def cellB(q:Nat->(Nat->DPin)->DArc->Bool)(nm:ByteArray)(k:Int)(n:Nat)(p:Nat->DPin)(m:Nat)(a:Nat->DArc)(tr:List Int)(lk en:Int):Bool :=
 nmB nm&&pinsOk n p&&arcsB (q n p) m a&&inB lk 0 100000&&inB en 0 100000&&kindB k n p m a tr
theorem cell_eq(nm:ByteArray)(k:Int)(n:Nat)(p:Nat->DPin)(m:Nat)(a:Nat->DArc)(tr:List Int)(lk en:Int):cellB isArcI nm k n p m a tr lk en=cellB isArcS nm k n p m a tr lk en:=by
 unfold cellB;cases hp:pinsOk n p with
 | false=>simp
 | true =>
   cases hk:kindB k n p m a tr with
   | false=>simp
   | true =>
     have:isArcI n p=isArcS n p:=funext fun x=>arc_eq hp (kind_clk hk) x;rw[this]
theorem take_anyG{α:Type}(l:List α)(d:α)(q:α->Bool)(i:Nat)(h:i<=l.length):(l.take i).any q=(List.range i).any fun k=>q (l.getD k d):=by
 have hl:(l.take i).length=i:=by rw[List.length_take]; omega
 rw[<- any_getD (l.take i) d q,hl];refine any_congr' fun k hk=>?_;rw[gq,gq,List.getElem?_take_of_lt hk]
theorem arcS_kind{n:Nat}{p:Nat->DPin}{a:DArc}(h:isArcS n p a=true):1<=a.1/\a.1<=5:=by
 grind[isArcS]
theorem pow_in{n:Nat}(h:n<=5) : -9223372036854775808<=(1:Int)*2 ^ (n-1)/\(1:Int)*2 ^ (n-1)<=9223372036854775807:=by
 have:∀k:Fin 6,-9223372036854775808<=(1:Int)*2 ^ (k.val-1)/\(1:Int)*2 ^ (k.val-1)<=9223372036854775807:=by decide
 exact this ⟨n,by omega⟩
def cntK(a:Nat->DArc)(k:Int)(m:Nat):Int:=fN (fun i s=>if(a i).1=k then s+1 else s) m 0
theorem cntK_le(a:Nat->DArc)(k:Int):∀m,0<=cntK a k m/\cntK a k m<=m
 | 0=>⟨Int.le_refl _,Int.le_refl _⟩
 | m+1=>by
   have:=cntK_le a k m
   grind[cntK,fN]
theorem cntK_has(a:Nat->DArc)(k:Int):∀m,hasB m a k=decide (0<cntK a k m)
 | 0=>rfl
 | m+1=>by
   have ih:=cntK_has a k m;have h0:=(cntK_le a k m).1
   grind[hasB,cntK,fN]
def kindsF(a:Nat->DArc)(i:Nat)(v:List Int):List Int:=v.set (a i).1.toNat (v.getD (a i).1.toNat 0+1)
theorem kinds_fold(a:Nat->DArc):∀m,(∀i,i<m->1<=(a i).1/\(a i).1<=5)->(fN (kindsF a) m (List.replicate 6 0)).length=6/\∀k:Nat,k<6->(fN (kindsF a) m (List.replicate 6 0)).getD k 0=cntK a k m
 | 0,_=>⟨by simp[fN],fun k hk=>by
   have:∀k:Fin 6,(List.replicate 6 (0:Int)).getD k.val 0=0:=by decide
   exact this ⟨k,hk⟩⟩
 | m+1,h=>by
   obtain⟨h1,h2⟩:=kinds_fold a m (fun i hi=>h i (by omega))
   grind[fN,kindsF,cntK]
def incAt(v:List Int)(x:Int):List Int:=v.set x.toNat (v.getD x.toNat 0+1)
def lowAt(v:List Int)(n b:Nat):Prop:=v.length=n/\∀k:Nat,0<=v.getD k 0/\v.getD k 0<=(b:Int)
theorem lowAt_rep(n b:Nat):lowAt (List.replicate n 0) n b:=by
 refine⟨List.length_replicate,fun k=>?_⟩;rw[gq,List.getElem?_replicate];split <;> (show(0:Int)<=0/\(0:Int)<=b; omega)
theorem lowAt_inc{v:List Int}{n b:Nat}(h:lowAt v n b)(x:Int):lowAt (incAt v x) n (b+1):=by
 refine⟨by unfold incAt; rw[List.length_set]; exact h.1,fun k=>?_⟩;have hx:=h.2 x.toNat;have hk:=h.2 k;unfold incAt;rw[gq,List.getElem?_set];by_cases e:x.toNat=k
 ·rw[if_pos e];split
  ·rw[Option.getD_some]; omega
  ·show(0:Int)<=0/\(0:Int)<=_; omega
 ·rw[if_neg e,<- gq]; omega
theorem lowAt_up{v:List Int}{n b b':Nat}(h:lowAt v n b)(hb:b<=b'):lowAt v n b':=⟨h.1,fun k=>by have:=h.2 k; omega⟩
theorem lowAt_ix{v:List Int}{n b:Nat}(h:lowAt v n b){x:Int}(hx:inB x 0 ((n:Int)-1)=true):ix x v.length/\x.toNat<v.length:=by
 rw[inB_iff] at hx;rw[ix,h.1];omega
def libB(n:Nat)(ok:Nat->Bool)(nm:Nat->ByteArray):Bool:=!((List.range n).any fun i=>!ok i||dupB nm i)&&decide (n<=8)
theorem lib_eq{n:Nat}{ok:Nat->Bool}{nm:Nat->ByteArray}(h:∀i,i<n->ok i=true->nmB (nm i)=true):(if((List.range n).any fun i=>!ok i)=true then false else decide (n<=8)&&namesB n nm)=libB n ok nm:=by
 unfold libB namesB;have e:((List.range n).any fun i=>!ok i||dupB nm i)=(((List.range n).any fun i=>!ok i)||(List.range n).any fun i=>dupB nm i):=any_or _ _;rw[e];cases ha:(List.range n).any fun i=>!ok i with
 | true=>rfl
 | false =>
   have hall:=(not_any (n:=n) (c:=fun i=>!ok i)).1 (by rw[ha]; rfl);have:((List.range n).any fun i=>!nmB (nm i)||dupB nm i)=(List.range n).any fun i=>dupB nm i:=any_congr' fun i hi=>by
    have:=hall i hi;rw[Bool.not_eq_false'] at this;rw[h i hi this]; rfl
   rw[this,if_neg (by simp),Bool.false_or,Bool.and_comm]
def instB(nc:Nat)(pins:Int->Nat)(nn:Nat)(x:DInst):Bool:=inB x.2.1 0 ((nc:Int)-1)&&(x.2.2.length:Int)==(pins x.2.1:Int)&&x.2.2.all fun y=>inB y 0 ((nn:Int)-1)
def portB(nn:Nat)(x:DPort):Bool:=inB x.2.1 1 2&&inB x.2.2 0 ((nn:Int)-1)
def instF(x:Nat->DInst)(i:Nat)(v:List Int):List Int:=incAt v ((x i).2.2.getD ((x i).2.2.length-1) 0)
def portF(x:Nat->DPort)(i:Nat)(v:List Int):List Int:=if(x i).2.1=1 then incAt v (x i).2.2 else v
def driveN(ni np nn:Nat)(x:Nat->DInst)(y:Nat->DPort):List Int:=fN (portF y) np (fN (instF x) ni (List.replicate nn 0))
theorem instF_low(x:Nat->DInst)(nn:Nat):∀i,lowAt (fN (instF x) i (List.replicate nn 0)) nn i
 | 0=>lowAt_rep nn 0
 | i+1=>lowAt_inc (instF_low x nn i) _
def designB(lib:Bool)(nc:Nat)(pins:Int->Nat)(ni np nn:Nat)(x:Nat->DInst)(y:Nat->DPort)(nets:Nat->ByteArray):Bool :=
 lib&&decide (ni<=14)&&decide (nn<=30)&&decide (np<=8)&&namesB ni (fun i=>(x i).1)&&namesB nn nets&&namesB np (fun i=>(y i).1) &&
  !((List.range ni).any fun i=>!instB nc pins nn (x i))&&!((List.range np).any fun i=>!portB nn (y i))&&(driveN ni np nn x y).all (·==1)
def wireB(w:DWire)(n:Int):Bool :=
 decide (1<=w.1.length)&&decide (w.1.length<=8)&&decide (w.2.1.length=w.1.length)&&decide (w.2.2.1.length=w.1.length)&&(w.2.2.2.length:Int)==n &&
  w.2.1.all (inB · 0 1000)&&w.2.2.1.all (inB · 0 500)&&w.2.2.2.all (inB · 0 ((w.1.length:Int)-1)) &&
  !(List.range w.1.length).any fun i=>(i==0&&(w.1.getD i 0 != -1||w.2.1.getD 0 0 != 0))||(decide (0<i)&&!inB (w.1.getD i 0) 0 ((i:Int)-1))
abbrev DPlace:=Int×Int×Int×Bool
def instP(x:DInst)(i:Int)(k:Nat)(s:List DPlace):List DPlace:=s++[(i,(k:Int),x.2.2.getD k 0,(k:Int)==(x.2.2.length:Int)-1)]
def portP(y:Nat->DPort)(i:Nat)(s:List DPlace):List DPlace:=s++[(-1,(i:Int),(y i).2.2,(y i).2.1==1)]
def placesF(x:Nat->DInst)(i:Nat)(s:List DPlace):List DPlace:=fN (instP (x i) i) (x i).2.2.length s
def placesN(ni np:Nat)(x:Nat->DInst)(y:Nat->DPort):List DPlace:=fN (portP y) np (fN (placesF x) ni [])
theorem instP_len(x:DInst)(i:Int)(s:List DPlace):∀k,(fN (instP x i) k s).length=s.length+k
 | 0=>rfl
 | k+1=>by
   rw[fN,instP,List.length_append,instP_len x i s k]; rfl
theorem portP_len(y:Nat->DPort)(s:List DPlace):∀k,(fN (portP y) k s).length=s.length+k
 | 0=>rfl
 | k+1=>by
   rw[fN,portP,List.length_append,portP_len y s k]; rfl
def sinkF(pl:Nat->DPlace)(i:Nat)(v:List Int):List Int:=if(pl i).2.2.2=false then incAt v (pl i).2.2.1 else v
def cntP(pl:Nat->DPlace)(t:Int)(m:Nat):Int:=fN (fun i s=>if((pl i).2.2.1==t&&!(pl i).2.2.2)=true then s+1 else s) m 0
theorem cntP_le(pl:Nat->DPlace)(t:Int):∀m,0<=cntP pl t m/\cntP pl t m<=m
 | 0=>⟨Int.le_refl _,Int.le_refl _⟩
 | m+1=>by
   have:=cntP_le pl t m;unfold cntP at *
   rw[fN];split <;> omega
theorem sink_fold(pl:Nat->DPlace)(n:Nat):∀m,(∀i,i<m->inB (pl i).2.2.1 0 ((n:Int)-1)=true)->(fN (sinkF pl) m (List.replicate n 0)).length=n/\∀k:Nat,k<n->(fN (sinkF pl) m (List.replicate n 0)).getD k 0=cntP pl k m
 | 0,_=>⟨by simp[fN],fun k hk=>by
   show(List.replicate n (0:Int)).getD k 0=0;rw[gq,List.getElem?_replicate,if_pos hk]; rfl⟩
 | m+1,h=>by
   obtain⟨h1,h2⟩:=sink_fold pl n m (fun i hi=>h i (by omega));have h3:=inB_iff.1 (h m (by omega));rw[fN];generalize fN (sinkF pl) m (List.replicate n 0)=v at *
   unfold sinkF;have e:∀k:Nat,cntP pl k (m+1)=if((pl m).2.2.1==(k:Int)&&!(pl m).2.2.2)=true then cntP pl k m+1 else cntP pl k m:=fun k=>by unfold cntP; rw[fN]
   cases hd:(pl m).2.2.2 with
   | true =>
     refine⟨by rw[if_neg (by simp)]; exact h1,fun k hk=>?_⟩;rw[if_neg (by simp),h2 k hk,e,hd,if_neg (by simp)]
   | false =>
     rw[if_pos rfl];unfold incAt;refine⟨by rw[List.length_set]; exact h1,fun k hk=>?_⟩;rw[e,hd,gq,List.getElem?_set];by_cases hk':(pl m).2.2.1.toNat=k
     ·rw[if_pos hk',if_pos (by rw[h1]; omega),if_pos (by simp; omega),Option.getD_some,hk',h2 k hk]
     ·rw[if_neg hk',if_neg (by simp; omega),<- gq,h2 k hk]
def sinkL(pl:Nat->DPlace)(t:Int)(i:Nat)(s:List Int):List Int:=if((pl i).2.2.1==t&&!(pl i).2.2.2)=true then s++[(i:Int)] else s
theorem sinkL_len(pl:Nat->DPlace)(t:Int):∀m,((fN (sinkL pl t) m []).length:Int)=cntP pl t m
 | 0=>rfl
 | m+1=>by
   have:=sinkL_len pl t m;rw[fN];unfold cntP at *
   rw[fN];unfold sinkL at *
   split
   ·rw[List.length_append];show((_+1:Nat):Int)=_;omega
   ·exact this
def netsIn(n:Nat)(s:List DPlace):Prop:=∀p∈s,inB p.2.2.1 0 ((n:Int)-1)=true
theorem instP_in{n:Nat}{x:DInst}{i:Int}(hx:∀k,k<x.2.2.length->inB (x.2.2.getD k 0) 0 ((n:Int)-1)=true){s:List DPlace}(hs:netsIn n s):∀k,k<=x.2.2.length->netsIn n (fN (instP x i) k s)
 | 0,_=>hs
 | k+1,hk=>by
   rw[fN,instP];intro p hp;rcases List.mem_append.1 hp with h | h
   ·exact instP_in hx hs k (by omega) p h
   ·cases List.mem_singleton.1 h;exact hx k (by omega)
theorem placesF_in{n:Nat}{x:Nat->DInst}{ni:Nat}(hx:∀i,i<ni->∀k,k < (x i).2.2.length->inB ((x i).2.2.getD k 0) 0 ((n:Int)-1)=true):∀i,i<=ni->netsIn n (fN (placesF x) i [])
 | 0,_=>fun p hp=>by cases hp
 | i+1,hi=>by
   rw[fN,placesF];exact instP_in (hx i (by omega)) (placesF_in hx i (by omega)) _ (Nat.le_refl _)
theorem portP_in{n:Nat}{y:Nat->DPort}{np:Nat}(hy:∀i,i<np->inB (y i).2.2 0 ((n:Int)-1)=true){s:List DPlace}(hs:netsIn n s):∀k,k<=np->netsIn n (fN (portP y) k s)
 | 0,_=>hs
 | k+1,hk=>by
   rw[fN,portP];intro p hp;rcases List.mem_append.1 hp with h | h
   ·exact portP_in hy hs k (by omega) p h
   ·cases List.mem_singleton.1 h;exact hy k (by omega)
theorem placesF_len{x:Nat->DInst}{ni:Nat}(hx:∀i,i<ni->(x i).2.2.length<=5):∀i,i<=ni->(fN (placesF x) i []).length<=5*i
 | 0,_=>Nat.le_refl _
 | i+1,hi=>by
   rw[fN,placesF,instP_len];have:=placesF_len hx i (by omega);have:=hx i (by omega);omega
theorem getD_mem{α:Type}{l:List α}{i:Nat}{d:α}(h:i<l.length):l.getD i d∈l:=by
 rw[gq,List.getElem?_eq_getElem h];exact List.getElem_mem h
theorem all_getD{l:List Int}{p:Int->Bool}(h:l.all p=true){i:Nat}(hi:i<l.length):p (l.getD i 0)=true:=List.all_eq_true.1 h _ (getD_mem hi)
structure DesignFacts(nc:Nat)(pins:Int->Nat)(ni np nn:Nat)(x:Nat->DInst)(y:Nat->DPort):Prop where
 ni14:ni<=14
 np8:np<=8
 nn30:nn<=30
 inst:∀i,i<ni->instB nc pins nn (x i)=true
 port:∀i,i<np->portB nn (y i)=true
theorem design_facts{lib:Bool}{nc:Nat}{pins:Int->Nat}{ni np nn:Nat}{x:Nat->DInst}{y:Nat->DPort}{nets:Nat->ByteArray}(h:designB lib nc pins ni np nn x y nets=true):lib=true/\DesignFacts nc pins ni np nn x y:=by
 unfold designB at h;simp only[ba,dq] at h;obtain⟨⟨⟨⟨⟨⟨⟨⟨⟨c1,c2⟩,c3⟩,c4⟩,_⟩,_⟩,_⟩,c5⟩,c6⟩,_⟩:=h;refine⟨c1,c2,c4,c3,fun i hi=>?_,fun i hi=>?_⟩
 ·have:=not_any.1 c5 i hi
  rwa [Bool.not_eq_false'] at this
 ·have:=not_any.1 c6 i hi
  rwa [Bool.not_eq_false'] at this
theorem DesignFacts.net{nc:Nat}{pins:Int->Nat}{ni np nn:Nat}{x:Nat->DInst}{y:Nat->DPort}(h:DesignFacts nc pins ni np nn x y):(∀i,i<ni->∀k,k < (x i).2.2.length->inB ((x i).2.2.getD k 0) 0 ((nn:Int)-1)=true)/\∀i,i<np->inB (y i).2.2 0 ((nn:Int)-1)=true:=by
 refine⟨fun i hi k hk=>?_,fun i hi=>?_⟩
 ·have:=h.inst i hi;unfold instB at this;rw[ba] at this;exact all_getD (p:=fun y=>inB y 0 ((nn:Int)-1)) this.2 hk
 ·have:=h.port i hi;unfold portB at this;rw[ba] at this;exact this.2
end Go.Proofs.Xd
end
section
namespace Go.Proofs.Xd
open Go Go.Proofs Go.Proofs.Xl
def addAt(v:List Int)(i:Nat)(x:Int):List Int:=v.set i (v.getD i 0+x)
theorem addAt_len{v:List Int}{i:Nat}{x:Int}:(addAt v i x).length=v.length:=by grind[addAt]
theorem addAt_get{v:List Int}{i j:Nat}{x:Int}(hi:i<v.length):(addAt v i x).getD j 0=if j=i then v.getD i 0+x else v.getD j 0:=by
 grind[addAt]
def sumTo(v:List Int)(k:Nat):Int:=fN (fun i s=>s+v.getD i 0) k 0
theorem sumTo_succ(v:List Int)(k:Nat):sumTo v (k+1)=sumTo v k+v.getD k 0:=rfl
theorem sumTo_addAt{v:List Int}{i:Nat}{x:Int}(hi:i<v.length):∀k,sumTo (addAt v i x) k=sumTo v k+if i<k then x else 0
 | 0=>by simp[sumTo,fN]
 | k+1=>by
   rw[sumTo_succ,sumTo_succ,sumTo_addAt hi k,addAt_get hi];by_cases h:k=i
   ·subst h; simp; omega
   ·rw[if_neg h];by_cases h2:i<k
    ·rw[if_pos h2,if_pos (by omega)]; omega
    ·rw[if_neg h2,if_neg (by omega)]; omega
theorem sumTo_pos{v:List Int}(hp:∀j,0<=v.getD j 0):∀k,0<=sumTo v k
 | 0=>by simp[sumTo,fN]
 | k+1=>by have:=sumTo_pos hp k; grind[sumTo_succ]
theorem le_sumTo{v:List Int}(hp:∀j,0<=v.getD j 0):∀{k j:Nat},j<k->v.getD j 0<=sumTo v k
 | k+1,j,h=>by
   rw[sumTo_succ];have h1:=sumTo_pos hp k;have h2:=hp k;by_cases e:j=k
   ·grind
   ·have:=le_sumTo hp (k:=k) (j:=j) (by omega); omega
structure Low(v:List Int)(n:Nat)(S:Int):Prop where
 len:v.length=n
 pos:∀j,0<=v.getD j 0
 sum:sumTo v n<=S
theorem sumTo_bd{v:List Int}{c:Int}(hp:∀j,v.getD j 0<=c):∀k:Nat,sumTo v k<=c*(k:Int)
 | 0=>by simp[sumTo,fN]
 | k+1=>by
   have:=sumTo_bd hp k
   grind[sumTo_succ,Int.natCast_add,Int.mul_add]
theorem low_all{v:List Int}{n:Nat}(hn:v.length=n)(h:v.all (inB · 0 500)=true):Low v n (500*(n:Int)):=by
 have hj:∀j,0<=v.getD j 0/\v.getD j 0<=500:=fun j=>by
  grind[Nat.lt_or_ge,inB_iff,all_getD,inB,List.getElem?_eq_none]
 exact⟨hn,fun j=>(hj j).1,sumTo_bd (fun j=>(hj j).2) n⟩
theorem Low.bd{v:List Int}{n:Nat}{S:Int}(h:Low v n S)(hS:0<=S)(j:Nat):0<=v.getD j 0/\v.getD j 0<=S:=by
 refine⟨h.pos j,?_⟩;rcases Nat.lt_or_ge j n with hj | hj
 ·exact Int.le_trans (le_sumTo h.pos hj) h.sum
 ·rw[gq,List.getElem?_eq_none (by rw[h.len]; exact hj)]; exact hS
theorem Low.add{v:List Int}{n:Nat}{S:Int}(h:Low v n S){i:Nat}(hi:i<n){x:Int}(hx:0<=x):Low (addAt v i x) n (S+x):=by
 have hi':i<v.length:=by rw[h.len]; exact hi
 refine⟨by rw[addAt_len]; exact h.len,fun j=>?_,?_⟩
 ·rw[addAt_get hi'];have:=h.pos i;have:=h.pos j;omega
 ·rw[sumTo_addAt hi',if_pos hi]; have:=h.sum; omega
def capF(s c:Nat->Int)(i:Nat)(v:List Int):List Int:=addAt v (s i).toNat (c i)
theorem capF_low{s c:Nat->Int}{v:List Int}{n:Nat}{S:Int}(h:Low v n S):∀m,(∀i,i<m->0<=s i/\(s i).toNat<n/\0<=c i/\c i<=500)->Low (fN (capF s c) m v) n (S+500*(m:Int))
 | 0,_=>⟨h.len,h.pos,by have:=h.sum; show sumTo v n<=_; omega⟩
 | m+1,hm=>by
   have ih:=capF_low h m (fun i hi=>hm i (by omega));obtain⟨h1,h2,h3,h4⟩:=hm m (by omega);have:=ih.add h2 h3;refine⟨this.len,this.pos,?_⟩;have:=this.sum;rw[Int.natCast_add,Int.mul_add];refine Int.le_trans this ?_;omega
def pullF(P:Nat->Int)(n k:Nat)(v:List Int):List Int:=addAt v (P (n-1-k)).toNat (v.getD (n-1-k) 0)
structure Pull(v:List Int)(n k:Nat)(S:Int):Prop where
 len:v.length=n
 pos:∀j,0<=v.getD j 0
 bd:∀j,v.getD j 0<=S
 sum:sumTo v (n-k)<=S
theorem pull_step{P:Nat->Int}{v:List Int}{n k:Nat}{S:Int}(h:Pull v n k S)(_:k<n-1)(hP:0<=P (n-1-k)/\(P (n-1-k)).toNat<n-1-k):Pull (pullF P n k v) n (k+1) S:=by
 have hp:(P (n-1-k)).toNat<v.length:=by rw[h.len]; omega
 have hpos:∀j,0<=(pullF P n k v).getD j 0:=fun j=>by
  unfold pullF;rw[addAt_get hp];have:=h.pos (P (n-1-k)).toNat;have:=h.pos (n-1-k);have:=h.pos j;omega
 have hs:sumTo (pullF P n k v) (n-(k+1))<=S:=by
  unfold pullF;have e:n-(k+1)=n-1-k:=by omega
  rw[sumTo_addAt hp,e,if_pos hP.2];have:=h.sum;rw[show n-k=(n-1-k)+1 by omega,sumTo_succ] at this;exact this
 refine⟨by unfold pullF; rw[addAt_len]; exact h.len,hpos,fun j=>?_,hs⟩;by_cases e:j=(P (n-1-k)).toNat
 ·have hlt:j<n-(k+1):=by omega
  exact Int.le_trans (le_sumTo hpos hlt) hs
 ·unfold pullF;rw[addAt_get hp,if_neg e];exact h.bd j
theorem pull_fold{P:Nat->Int}{v:List Int}{n:Nat}{S:Int}(h:Low v n S)(hS:0<=S)(hP:∀i,0<i->i<n->0<=P i/\(P i).toNat<i):∀k,k<=n-1->Pull (fN (pullF P n) k v) n k S
 | 0,_=>⟨h.len,h.pos,fun j=>(h.bd hS j).2,h.sum⟩
 | k+1,hk=>pull_step (pull_fold h hS hP k (by omega)) (by omega) (hP _ (by omega) (by omega))
def loadsD(cap:List Int)(n m:Nat)(s c P:Nat->Int):List Int:=fN (pullF P n) (n-1) (fN (capF s c) m cap)
theorem getD_left{α:Type}{l r:List α}{d:α}{i:Nat}(h:i<l.length):(l++r).getD i d=l.getD i d:=by
 grind
theorem getD_right{α:Type}{l r:List α}{d:α}{i:Nat}(h:l.length<=i):(l++r).getD i d=r.getD (i-l.length) d:=by
 grind
def delF(P R L:Nat->Int)(k:Nat)(s:List Int):List Int:=s++[s.getD (P (k+1)).toNat 0+R (k+1)*L (k+1)]
def delaysD(n:Nat)(P R L:Nat->Int):List Int:=fN (delF P R L) (n-1) [0]
theorem mul_le{a b A B:Int}(a0:0<=a)(a1:a<=A)(b0:0<=b)(b1:b<=B):0<=a*b/\a*b<=A*B :=
 ⟨Int.mul_nonneg a0 b0,Int.mul_le_mul a1 b1 b0 (Int.le_trans a0 a1)⟩
theorem delF_in{P R L:Nat->Int}{n:Nat}{S:Int}(hR:∀i,i<n->0<=R i/\R i<=1000)(hL:∀i,i<n->0<=L i/\L i<=S)(hS:0<=S):∀k,k<=n-1->(fN (delF P R L) k [0]).length=k+1/\∀j,0<=(fN (delF P R L) k [0]).getD j 0/\(fN (delF P R L) k [0]).getD j 0<=1000*S*(k:Int)
 | 0,_=>⟨rfl,fun j=>by
   grind[fN]⟩
 | k+1,hk=>by
   obtain⟨h1,h2⟩:=delF_in hR hL hS k (by omega);have hx:=mul_le (hR (k+1) (by omega)).1 (hR (k+1) (by omega)).2 (hL (k+1) (by omega)).1 (hL (k+1) (by omega)).2;have hk1:0<=1000*S*(k:Int):=Int.mul_nonneg (by omega) (by omega);have e:1000*S*((k+1:Nat):Int)=1000*S*(k:Int)+1000*S:=by rw[Int.natCast_add,Int.mul_add]; simp
   have e2:fN (delF P R L) (k+1) [0]=delF P R L k (fN (delF P R L) k [0]):=rfl;rw[e2];generalize fN (delF P R L) k [0]=s at h1 h2
   grind[delF,List.length_append,Nat.lt_or_ge,getD_left,getD_right,List.getD_cons_zero,List.getD_cons_succ,List.getD_nil]
theorem fill_one{s:List Int}{k n:Nat}{x:Int}(hs:s.length=k+1)(hk:k+1<n):(s++List.replicate (n-1-k) 0).set (k+1) x=(s++[x])++List.replicate (n-1-(k+1)) 0:=by
 have e:n-1-k=(n-1-(k+1))+1:=by omega
 rw[e,List.replicate_succ,List.set_append_right _ _ (by omega),hs,Nat.sub_self,List.set_cons_zero,List.append_assoc];rfl
theorem fill_get{s:List Int}{k n p:Nat}(hs:s.length=k+1)(hp:p<k+1):(s++List.replicate (n-1-k) 0).getD p 0=s.getD p 0:=getD_left (by omega)
def exF(D:List Int)(S:Nat->Int)(i:Nat)(s:List Int):List Int:=s++[D.getD (S i).toNat 0]
def plcIn(ni np:Nat)(x:Nat->DInst)(p:DPlace):Prop:=(p.1 = -1/\0<=p.2.1/\p.2.1.toNat<np)∨(0<=p.1/\p.1.toNat<ni/\0<=p.2.1/\p.2.1.toNat < (x p.1.toNat).2.2.length)
theorem instP_kind{ni np:Nat}{x:Nat->DInst}{i:Nat}(hi:i<ni){s:List DPlace}(hs:∀p∈s,plcIn ni np x p):∀k,k<=(x i).2.2.length->∀p∈fN (instP (x i) i) k s,plcIn ni np x p
 | 0,_=>hs
 | k+1,hk=>fun p hp=>by
   have hp:p∈instP (x i) i k (fN (instP (x i) i) k s):=hp;unfold instP at hp;rcases List.mem_append.1 hp with hp | hp
   ·exact instP_kind hi hs k (by omega) p hp
   ·cases List.mem_singleton.1 hp;exact .inr ⟨Int.natCast_nonneg _,by omega,Int.natCast_nonneg _,by grind⟩
theorem placesF_kind{ni np:Nat}{x:Nat->DInst}:∀i,i<=ni->∀p∈fN (placesF x) i [],plcIn ni np x p
 | 0,_=>fun p hp=>by cases hp
 | i+1,hi=>instP_kind (by omega) (placesF_kind i (by omega)) _ (Nat.le_refl _)
theorem portP_kind{ni np:Nat}{x:Nat->DInst}{y:Nat->DPort}{s:List DPlace}(hs:∀p∈s,plcIn ni np x p):∀k,k<=np->∀p∈fN (portP y) k s,plcIn ni np x p
 | 0,_=>hs
 | k+1,hk=>fun p hp=>by
   have hp:p∈portP y k (fN (portP y) k s):=hp;unfold portP at hp;rcases List.mem_append.1 hp with hp | hp
   ·exact portP_kind hs k (by omega) p hp
   ·cases List.mem_singleton.1 hp;exact .inl ⟨rfl,Int.natCast_nonneg _,by grind⟩
theorem places_kind(ni np:Nat)(x:Nat->DInst)(y:Nat->DPort):∀p∈placesN ni np x y,plcIn ni np x p:=portP_kind (placesF_kind ni (Nat.le_refl _)) np (Nat.le_refl _)
theorem sinkL_in(pl:Nat->DPlace)(t:Int):∀m,∀x∈fN (sinkL pl t) m [],∃j:Nat,x=(j:Int)/\j<m/\(pl j).2.2.1=t/\(pl j).2.2.2=false
 | 0,x,h=>by cases h
 | m+1,x,h=>by
   have ih:=sinkL_in pl t m x;have h:x∈sinkL pl t m (fN (sinkL pl t) m []):=h;generalize fN (sinkL pl t) m []=s at ih h;unfold sinkL at h;split at h
   ·rename_i hc;rw[ba,beq_iff_eq,Bool.not_eq_true'] at hc;rcases List.mem_append.1 h with h | h
    ·obtain⟨j,h1,h2,h3⟩:=ih h;exact⟨j,h1,by omega,h3⟩
    ·cases List.mem_singleton.1 h;exact⟨m,rfl,by omega,hc⟩
   ·obtain⟨j,h1,h2,h3⟩:=ih h;exact⟨j,h1,by omega,h3⟩
structure WireFacts(w:DWire)(n:Int):Prop where
 n1:1<=w.1.length
 n8:w.1.length<=8
 res:w.2.1.length=w.1.length
 cap:w.2.2.1.length=w.1.length
 snk:(w.2.2.2.length:Int)=n
 resIn:∀i,i<w.1.length->0<=w.2.1.getD i 0/\w.2.1.getD i 0<=1000
 capOk:w.2.2.1.all (inB · 0 500)=true
 snkIn:∀i,i<w.2.2.2.length->0<=w.2.2.2.getD i 0/\(w.2.2.2.getD i 0).toNat<w.1.length
 par:∀i,0<i->i<w.1.length->0<=w.1.getD i 0/\(w.1.getD i 0).toNat<i
theorem wire_facts{w:DWire}{n:Int}(h:wireB w n=true):WireFacts w n:=by
 unfold wireB at h;simp only[ba,dq,beq_iff_eq] at h;obtain⟨⟨⟨⟨⟨⟨⟨⟨c1,c2⟩,c3⟩,c4⟩,c5⟩,c6⟩,c7⟩,c8⟩,c9⟩:=h;refine⟨c1,c2,c3,c4,c5,fun i hi=>?_,c7,fun i hi=>?_,fun i h0 hi=>?_⟩
 ·exact inB_iff.1 (all_getD (p:=fun x=>inB x 0 1000) c6 (by omega))
 ·have:=inB_iff.1 (all_getD (p:=fun x=>inB x 0 ((w.1.length:Int)-1)) c8 hi);omega
 ·have:=not_any.1 c9 i hi;rw[Bool.or_eq_false_iff] at this;have h2:=this.2;rw[Bool.and_eq_false_iff,decide_eq_false_iff_not,Bool.not_eq_false',inB_iff] at h2;rcases h2 with h | h
  ·omega
  ·omega
abbrev DLink:=Int×Int×Int×Int
def transV(k s:Int):List (Int×Int):=if(k==2)=true then [(0,0),(0,1)] else if(k==3)=true then [(1,0),(1,1)] else if(k != 1)=true then [] else if(s==1)=true then [(0,0),(1,1)] else if(s==2)=true then [(0,1),(1,0)] else [(0,0),(0,1),(1,0),(1,1)]
theorem transV_ok(k s:Int):(transV k s).length<=4/\∀t∈transV k s,0<=t.1/\t.1<=1/\0<=t.2/\t.2<=1:=by
 unfold transV;split
 ·grind
 split
 ·grind
 split
 ·grind
 grind
def clinkF(f a b x:Int)(tr:List (Int×Int))(k:Nat)(s:List DLink):List DLink:=s++[(2*(f+a)+(tr.getD k (0,0)).1,2*(f+b)+(tr.getD k (0,0)).2,1,x)]
theorem clinkF_len(f a b x:Int)(tr:List (Int×Int))(s:List DLink):∀k,(fN (clinkF f a b x tr) k s).length=s.length+k
 | 0=>rfl
 | k+1=>by
   have:=clinkF_len f a b x tr s k
   grind[clinkF,fN,List.length_append]
def carcF(f:Int)(arcs:Nat->DArc)(j:Nat)(s:List DLink):List DLink:=fN (clinkF f (arcs j).2.1 (arcs j).2.2.1 (j:Int) (transV (arcs j).1 (arcs j).2.2.2.1)) (transV (arcs j).1 (arcs j).2.2.2.1).length s
theorem carcF_len(f:Int)(arcs:Nat->DArc)(j:Nat)(s:List DLink):(carcF f arcs j s).length<=s.length+4:=by
 grind[carcF,clinkF_len,transV_ok]
def cellLinksD(f:Int)(arcs:Nat->DArc)(m:Nat):List DLink:=fN (carcF f arcs) m []
theorem cellLinksD_len(f:Int)(arcs:Nat->DArc):∀m,(cellLinksD f arcs m).length<=4*m
 | 0=>Nat.le_refl _
 | m+1=>by
   have h1:=cellLinksD_len f arcs m;have h2:=carcF_len f arcs m (cellLinksD f arcs m);show(carcF f arcs m (cellLinksD f arcs m)).length<=_;omega
def instLF(nets:Nat->Nat)(arcs:Nat->Nat->DArc)(ms:Nat->Nat)(i:Nat)(s:Int×List DLink):Int×List DLink:=(s.1+(nets i:Int),s.2++cellLinksD s.1 (arcs i) (ms i))
theorem instLF_in{nets:Nat->Nat}{arcs:Nat->Nat->DArc}{ms:Nat->Nat}{n:Nat}(h:∀i,i<n->nets i<=5/\ms i<=8):∀m,m<=n->0<=(fN (instLF nets arcs ms) m (0,[])).1/\(fN (instLF nets arcs ms) m (0,[])).1<=5*(m:Int)/\(fN (instLF nets arcs ms) m (0,[])).2.length<=32*m
 | 0,_=>⟨Int.le_refl _,Int.le_refl _,Nat.le_refl _⟩
 | m+1,hm=>by
   obtain⟨h1,h2,h3⟩:=instLF_in h m (by omega);obtain⟨h4,h5⟩:=h m (by omega);show 0<=(instLF nets arcs ms m (fN (instLF nets arcs ms) m (0,[]))).1/\(instLF nets arcs ms m (fN (instLF nets arcs ms) m (0,[]))).1<=_/\(instLF nets arcs ms m (fN (instLF nets arcs ms) m (0,[]))).2.length<=_;generalize fN (instLF nets arcs ms) m (0,[])=z at h1 h2 h3
   grind[instLF,cellLinksD_len,cellLinksD,List.length_append]
def gridF(pl:Nat->DPlace)(i:Nat)(s:List (List Int)×List Int):List (List Int)×List Int:=if(pl i).2.2.2=true then(s.1,s.2.set (pl i).2.2.1.toNat (i:Int)) else(s.1.set (pl i).2.2.1.toNat (s.1.getD (pl i).2.2.1.toNat []++[(i:Int)]),s.2)
def drvN(pl:Nat->DPlace)(t:Int)(m:Nat):Int:=fN (fun i s=>if((pl i).2.2.1==t&&(pl i).2.2.2)=true then(i:Int) else s) m 0
theorem drvN_in(pl:Nat->DPlace)(t:Int):∀m,0<=drvN pl t m/\drvN pl t m<=m
 | 0=>⟨Int.le_refl _,Int.le_refl _⟩
 | m+1=>by
   have:=drvN_in pl t m;have e:drvN pl t (m+1)=if((pl m).2.2.1==t&&(pl m).2.2.2)=true then(m:Int) else drvN pl t m:=rfl
   omega
theorem sinkL_succ(pl:Nat->DPlace)(t:Int)(m:Nat):fN (sinkL pl t) (m+1) []=if((pl m).2.2.1==t&&!(pl m).2.2.2)=true then fN (sinkL pl t) m []++[(m:Int)] else fN (sinkL pl t) m []:=rfl
theorem getD_set{α:Type}{l:List α}{i j:Nat}{x d:α}(hi:i<l.length):(l.set i x).getD j d=if j=i then x else l.getD j d:=by
 grind
theorem grid_fold(pl:Nat->DPlace)(n:Nat):∀m,(∀i,i<m->inB (pl i).2.2.1 0 ((n:Int)-1)=true)->(fN (gridF pl) m (List.replicate n [],List.replicate n 0)).1.length=n/\(fN (gridF pl) m (List.replicate n [],List.replicate n 0)).2.length=n /\
  ∀k:Nat,k<n->(fN (gridF pl) m (List.replicate n [],List.replicate n 0)).1.getD k []=fN (sinkL pl k) m []/\(fN (gridF pl) m (List.replicate n [],List.replicate n 0)).2.getD k 0=drvN pl k m
 | 0,_=>⟨List.length_replicate,List.length_replicate,fun k hk=>by
   constructor
   ·show(List.replicate n ([]:List Int)).getD k []=[]
    grind
   ·show(List.replicate n (0:Int)).getD k 0=0
    grind⟩
 | m+1,h=>by
   obtain⟨h1,h2,h3⟩:=grid_fold pl n m (fun i hi=>h i (by omega));have hm:=inB_iff.1 (h m (by omega));have e:fN (gridF pl) (m+1) (List.replicate n [],List.replicate n 0)=gridF pl m (fN (gridF pl) m (List.replicate n [],List.replicate n 0)):=rfl;rw[e];generalize fN (gridF pl) m (List.replicate n [],List.replicate n 0)=z at h1 h2 h3;have hlt:(pl m).2.2.1.toNat<n:=by omega
   have ed:∀k:Nat,drvN pl k (m+1)=if((pl m).2.2.1==(k:Int)&&(pl m).2.2.2)=true then(m:Int) else drvN pl k m:=fun _=>rfl
   have eq:∀k:Nat,((pl m).2.2.1==(k:Int))=decide (k=(pl m).2.2.1.toNat):=fun k=>by
    grind
   unfold gridF;cases hd:(pl m).2.2.2 with
   | true =>
     rw[if_pos rfl];refine⟨h1,by grind,fun k hk=>?_⟩;rw[sinkL_succ,ed k,eq,hd]
     grind
   | false =>
     rw[if_neg (by simp)];refine⟨by grind,h2,fun k hk=>?_⟩;rw[sinkL_succ,ed k,eq,hd]
     grind
def wlinkF(d s x:Int)(t:Nat)(z:List DLink):List DLink:=z++[(2*d+(t:Int),2*s+(t:Int),2,x)]
def wsinkF(d:Int)(sn:List Int)(k:Nat)(z:List DLink):List DLink:=fN (wlinkF d (sn.getD k 0) (k:Int)) 2 z
theorem wsinkF_len(d:Int)(sn:List Int)(k:Nat)(z:List DLink):(wsinkF d sn k z).length=z.length+2:=by
 show((z++_)++_).length=_
 grind
def netLF(d:Nat->Int)(sn:Nat->List Int)(i:Nat)(z:List DLink):List DLink:=fN (wsinkF (d i) (sn i)) (sn i).length z
theorem wsink_len(d:Int)(sn:List Int)(z:List DLink):∀k,(fN (wsinkF d sn) k z).length=z.length+2*k
 | 0=>rfl
 | k+1=>by
   have:=wsink_len d sn z k
   grind[wsinkF,fN,wsinkF_len]
theorem netL_len(d:Nat->Int)(sn:Nat->List Int)(z:List DLink){n c:Nat}(h:∀i,i<n->(sn i).length<=c):∀m,m<=n->(fN (netLF d sn) m z).length<=z.length+2*(c*m)
 | 0,_=>by simp[fN]
 | m+1,hm=>by
   have h1:=netL_len d sn z h m (by omega)
   grind[fN,wsinkF,netLF,wsink_len,Nat.mul_add]
def appF{α:Type}(f:Nat->α)(i:Nat)(s:List α):List α:=s++[f i]
theorem appF_len{α:Type}(f:Nat->α):∀n,(fN (appF f) n []).length=n
 | 0=>rfl
 | n+1=>by
   have:=appF_len f n
   grind[appF,fN,List.length_append]
theorem appF_get{α:Type}(f:Nat->α)(d:α):∀n i,i<n->(fN (appF f) n []).getD i d=f i
 | n+1,i,h=>by
   have hl:=appF_len f n;have ih:=appF_get f d n i
   grind[appF,fN]
def offs(x:Nat->DInst):Nat->Nat
 | 0=>0
 | i+1=>offs x i+(x i).2.2.length
theorem instP_get(x:DInst)(i:Int)(d:DPlace)(s:List DPlace):∀n k,k<n->(fN (instP x i) n s).getD (s.length+k) d=(i,(k:Int),x.2.2.getD k 0,(k:Int)==(x.2.2.length:Int)-1)
 | n+1,k,h=>by
   have hl:=instP_len x i s n;have ih:=instP_get x i d s n k
   grind[instP,fN]
theorem instP_old(x:DInst)(i:Int)(d:DPlace)(s:List DPlace):∀n j,j<s.length->(fN (instP x i) n s).getD j d=s.getD j d
 | 0,_,_=>rfl
 | n+1,j,h=>by
   have hl:=instP_len x i s n;have ih:=instP_old x i d s n j h
   grind[instP,fN,getD_left]
theorem placesF_offs(x:Nat->DInst):∀n,(fN (placesF x) n []).length=offs x n
 | 0=>rfl
 | n+1=>by
   have:=placesF_offs x n;show(placesF x n (fN (placesF x) n [])).length=_;unfold placesF;rw[instP_len];show(fN (placesF x) n []).length+_=_;rw[this]; rfl
theorem placesF_get(x:Nat->DInst)(d:DPlace):∀n i k,i<n->k < (x i).2.2.length->(fN (placesF x) n []).getD (offs x i+k) d=((i:Int),(k:Int),(x i).2.2.getD k 0,(k:Int)==((x i).2.2.length:Int)-1)
 | n+1,i,k,hi,hk=>by
   have hl:=placesF_offs x n;have ih:=placesF_get x d n i k;show(placesF x n (fN (placesF x) n [])).getD _ d=_;generalize fN (placesF x) n []=z at hl ih;unfold placesF;rcases Nat.lt_or_ge i n with h | h
   ·have hlt:offs x i+k<z.length:=by
     rw[hl];have:∀m,i<m->offs x i+(x i).2.2.length<=offs x m:=by
      intro m
      induction m with
      | zero=>omega
      | succ m ih =>
        grind[offs,Nat.lt_or_ge]
     have:=this n h;omega
    grind[instP_old]
   grind[instP_get]
theorem portP_old(y:Nat->DPort)(d:DPlace)(s:List DPlace):∀n j,j<s.length->(fN (portP y) n s).getD j d=s.getD j d
 | 0,_,_=>rfl
 | n+1,j,h=>by
   have hl:=portP_len y s n;have ih:=portP_old y d s n j h
   grind[portP,fN,getD_left]
theorem portP_get(y:Nat->DPort)(d:DPlace)(s:List DPlace):∀n k,k<n->(fN (portP y) n s).getD (s.length+k) d=(-1,(k:Int),(y k).2.2,(y k).2.1==1)
 | n+1,k,h=>by
   have hl:=portP_len y s n;have ih:=portP_get y d s n k
   grind[portP,fN]
theorem offs_inv(x:Nat->DInst):∀n j,j<offs x n->∃i k,i<n/\k < (x i).2.2.length/\j=offs x i+k
 | n+1,j,h=>by
   have h:j<offs x n+(x n).2.2.length:=h;rcases Nat.lt_or_ge j (offs x n) with hj | hj
   ·obtain⟨i,k,h1,h2,h3⟩:=offs_inv x n j hj;exact⟨i,k,by omega,h2,h3⟩
   ·exact⟨n,j-offs x n,by omega,by omega,by omega⟩
theorem offs_lt(x:Nat->DInst){i n k:Nat}(hi:i<n)(hk:k < (x i).2.2.length):offs x i+k<offs x n:=by
 induction n with
 | zero=>omega
 | succ n ih =>
   grind[offs,Nat.lt_or_ge]
theorem places_len(ni np:Nat)(x:Nat->DInst)(y:Nat->DPort):(placesN ni np x y).length=offs x ni+np:=by
 grind[placesN,portP_len,placesF_offs]
theorem places_inst(ni np:Nat)(x:Nat->DInst)(y:Nat->DPort)(d:DPlace){i k:Nat}(hi:i<ni)(hk:k < (x i).2.2.length):(placesN ni np x y).getD (offs x i+k) d=((i:Int),(k:Int),(x i).2.2.getD k 0,(k:Int)==((x i).2.2.length:Int)-1):=by
 grind[placesN,portP_old,placesF_offs,offs_lt,placesF_get]
theorem places_port(ni np:Nat)(x:Nat->DInst)(y:Nat->DPort)(d:DPlace){k:Nat}(hk:k<np):(placesN ni np x y).getD (offs x ni+k) d=(-1,(k:Int),(y k).2.2,(y k).2.1==1):=by
 grind[placesN,placesF_offs,portP_get]
theorem place_only(ni np:Nat)(x:Nat->DInst)(y:Nat->DPort)(d:DPlace){i k:Nat}(hi:i<ni)(hk:k < (x i).2.2.length){j:Nat}(hj:j < (placesN ni np x y).length):(((placesN ni np x y).getD j d).1==(i:Int)&&((placesN ni np x y).getD j d).2.1==(k:Int))=decide (j=offs x i+k):=by
 rw[Bool.eq_iff_iff,ba,beq_iff_eq,beq_iff_eq,dq];rw[places_len] at hj;constructor
 ·rintro⟨h1,h2⟩;rcases Nat.lt_or_ge j (offs x ni) with h | h
  ·grind[offs_inv,places_inst,Int.ofNat.inj]
  ·have e:j=offs x ni+(j-offs x ni):=by omega
   rw[e,places_port ni np x y d (by omega)] at h1;omega
 grind[places_inst]
def cntF(P:Nat->Bool)(m:Nat):Nat:=fN (fun i s=>if P i=true then s+1 else s) m 0
theorem cntF_succ(P:Nat->Bool)(m:Nat):cntF P (m+1)=if P m=true then cntF P m+1 else cntF P m:=rfl
theorem cntF_one{P:Nat->Bool}:∀{m i:Nat},i<m->P i=true->1<=cntF P m
 | m+1,i,h,hp=>by
   rw[cntF_succ];rcases Nat.lt_or_ge i m with h' | h'
   ·have:=cntF_one h' hp; split <;> omega
   grind
theorem cntF_two{P:Nat->Bool}:∀{m i j:Nat},i<j->j<m->P i=true->P j=true->2<=cntF P m
 | m+1,i,j,h1,h2,hi,hj=>by
   rw[cntF_succ];rcases Nat.lt_or_ge j m with h' | h'
   ·have:=cntF_two h1 h' hi hj; split <;> omega
   ·have:j=m:=by omega
    subst this;have:=cntF_one h1 hi
    grind
theorem cntF_ex{P:Nat->Bool}:∀{m:Nat},1<=cntF P m->∃i,i<m/\P i=true
 | 0,h=>by grind[cntF,fN]
 | m+1,h=>by
   rw[cntF_succ] at h;by_cases hp:P m=true
   ·grind
   ·rw[if_neg hp] at h;obtain⟨i,h1,h2⟩:=cntF_ex h
    grind
def drvB(pl:Nat->DPlace)(t:Int)(j:Nat):Bool:=(pl j).2.2.1==t&&(pl j).2.2.2
theorem drvN_last{pl:Nat->DPlace}{t:Int}:∀{m i:Nat},i<m->drvB pl t i=true->(∀j,i<j->j<m->drvB pl t j=false)->drvN pl t m=(i:Int)
 | m+1,i,h,hi,hn=>by
   have e:drvN pl t (m+1)=if drvB pl t m=true then(m:Int) else drvN pl t m:=rfl
   rw[e];rcases Nat.lt_or_ge i m with h' | h'
   ·rw[if_neg (by grind)];exact drvN_last h' hi (fun j h1 h2=>hn j h1 (by omega))
   grind
theorem drv_one{pl:Nat->DPlace}{t:Int}{m:Nat}(h:cntF (drvB pl t) m=1):∃i,i<m/\drvB pl t i=true/\(∀j,j<m->drvB pl t j=decide (j=i))/\drvN pl t m=(i:Int):=by
 obtain⟨i,h1,h2⟩:=cntF_ex (Nat.le_of_eq h.symm);have hu:∀j,j<m->drvB pl t j=true->j=i:=fun j hj hd=>by
  rcases Nat.lt_trichotomy i j with h' | h' | h'
  ·grind[cntF_two]
  ·omega
  grind[cntF_two]
 refine⟨i,h1,h2,fun j hj=>?_,drvN_last h1 h2 (fun j hij hj=>?_)⟩
 ·grind
 grind
theorem cntF_add(P:Nat->Bool)(m:Nat):∀n,cntF P (m+n)=cntF P m+cntF (fun i=>P (m+i)) n
 | 0=>rfl
 | n+1=>by
   rw[<- Nat.add_assoc,cntF_succ,cntF_succ,cntF_add P m n];split <;> omega
theorem cntF_last{P:Nat->Bool}{n:Nat}(h:∀i,i<n->P i=false):cntF P (n+1)=if P n=true then 1 else 0:=by
 have:∀m,m<=n->cntF P m=0:=by
  intro m
  induction m with
  | zero=>intro _; rfl
  | succ m ih=>intro hm; rw[cntF_succ,h m (by omega),if_neg (by simp),ih (by omega)]
 rw[cntF_succ,this n (Nat.le_refl _)]
theorem inst_cnt{ni np:Nat}{x:Nat->DInst}{y:Nat->DPort}{d:DPlace}{nn:Nat}(hx:∀i,i<ni->1<=(x i).2.2.length/\inB ((x i).2.2.getD ((x i).2.2.length-1) 0) 0 ((nn:Int)-1)=true):∀n,n<=ni->(fN (instF x) n (List.replicate nn 0)).length=nn/\∀t:Nat,t<nn->(fN (instF x) n (List.replicate nn 0)).getD t 0=(cntF (drvB (fun j=>(placesN ni np x y).getD j d) t) (offs x n):Nat)
 | 0,_=>⟨List.length_replicate,fun t ht=>by
   show(List.replicate nn (0:Int)).getD t 0=_;rw[gq,List.getElem?_replicate,if_pos ht]; rfl⟩
 | n+1,hn=>by
   obtain⟨h1,h2⟩:=inst_cnt (np:=np) (y:=y) (d:=d) hx n (by omega);obtain⟨h3,h4⟩:=hx n (by omega);have h4:=inB_iff.1 h4;have e:fN (instF x) (n+1) (List.replicate nn 0)=instF x n (fN (instF x) n (List.replicate nn 0)):=rfl;rw[e];generalize fN (instF x) n (List.replicate nn 0)=v at h1 h2;unfold instF incAt;refine⟨by grind,fun t ht=>?_⟩;rw[getD_set (by omega)];show _=((cntF _ (offs x n+(x n).2.2.length):Nat):Int);rw[cntF_add];have hk:∀k,k < (x n).2.2.length->drvB (fun j=>(placesN ni np x y).getD j d) t (offs x n+k)=((x n).2.2.getD k 0==(t:Int)&&(k:Int)==((x n).2.2.length:Int)-1):=fun k hk=>by
    grind[drvB,placesN,offs,places_inst]
   obtain⟨m,hm⟩:∃m,(x n).2.2.length=m+1:=⟨(x n).2.2.length-1,by omega⟩;have hm1:(x n).2.2.length-1=m:=by omega
   rw[hm1] at h4;rw[hm1,hm,cntF_last (fun i hi=>by grind),hk m (by omega),hm];have e1:((m:Int)==((m+1:Nat):Int)-1)=true:=by simp
   rw[e1,Bool.and_true];have e2:((x n).2.2.getD m 0==(t:Int))=decide (t=((x n).2.2.getD m 0).toNat):=by
    rw[Bool.eq_iff_iff,beq_iff_eq,dq];omega
   rw[e2];by_cases ht':t=((x n).2.2.getD m 0).toNat
   ·grind
   grind
theorem port_cnt{ni np:Nat}{x:Nat->DInst}{y:Nat->DPort}{d:DPlace}{nn:Nat}(hx:∀i,i<ni->1<=(x i).2.2.length/\inB ((x i).2.2.getD ((x i).2.2.length-1) 0) 0 ((nn:Int)-1)=true)(hy:∀i,i<np->inB (y i).2.2 0 ((nn:Int)-1)=true):∀n,n<=np->(fN (portF y) n (fN (instF x) ni (List.replicate nn 0))).length=nn/\∀t:Nat,t<nn->(fN (portF y) n (fN (instF x) ni (List.replicate nn 0))).getD t 0=(cntF (drvB (fun j=>(placesN ni np x y).getD j d) t) (offs x ni+n):Nat)
 | 0,_=>inst_cnt hx ni (Nat.le_refl _)
 | n+1,hn=>by
   obtain⟨h1,h2⟩:=port_cnt (d:=d) hx hy n (by omega);have h4:=inB_iff.1 (hy n (by omega));have e:fN (portF y) (n+1) (fN (instF x) ni (List.replicate nn 0))=portF y n (fN (portF y) n (fN (instF x) ni (List.replicate nn 0))):=rfl;rw[e];generalize fN (portF y) n (fN (instF x) ni (List.replicate nn 0))=v at h1 h2;have hk:∀t:Nat,drvB (fun j=>(placesN ni np x y).getD j d) t (offs x ni+n)=((y n).2.2==(t:Int)&&(y n).2.1==1):=fun t=>by
    grind[drvB,placesN,offs,places_port]
   have e2:∀t:Nat,((y n).2.2==(t:Int))=decide (t=(y n).2.2.toNat):=fun t=>by
    grind
   unfold portF;split
   ·rename_i hd;unfold incAt;refine⟨by grind,fun t ht=>?_⟩;rw[getD_set (by omega),<- Nat.add_assoc,cntF_succ,hk,e2,hd]
    grind
   grind[Nat.add_assoc,cntF_succ]
end Go.Proofs.Xd
end
section
namespace Go.Proofs.Xd
open Go Go.Proofs.Xv Go.Proofs.Xl
theorem lp_of{σ ρ:Type}{F:(σ->Option ρ)->σ->Option ρ}{s:σ}{r:Option ρ}(k:Nat)(hk:k<=9223372036854775807)(h:∀n,itF F (n+k) s=r):lp F s=r:=by
 have e:big=(big-k)+k:=by have:=big_gt hk; omega
 unfold lp;rw[e];exact h _
end Go.Proofs.Xd
end
section
namespace Go.Proofs.Xd
open Go Go.Proofs Go.Proofs.Xl
theorem lp_meas{σ ρ:Type}{F:(σ->Option ρ)->σ->Option ρ}{J:σ->Option ρ}(μ:σ->Nat)(I:σ->Prop)(c:σ->Bool)(nx:σ->σ)
  (hF:∀g s,I s->F g s=if c s=true then g (nx s) else J s) (hI:∀s,I s->c s=true->I (nx s)/\μ (nx s)<μ s) (s:σ) (hs:I s) (hm:μ s<=9223372036854775806):∃s',I s'/\c s'=false/\lp F s=J s':=by
 have key:∀(n:Nat) (s:σ),μ s<=n->I s->∃s',I s'/\c s'=false/\∀k,itF F (k+(n+1)) s=J s':=by
  intro n
  induction n with
  | zero =>
    intro s hn hs;cases hc:c s with
    | true=>have:=(hI s hs hc).2; omega
    | false=>exact⟨s,hs,hc,fun k=>by show F (itF F k) s=_; rw[hF _ _ hs,hc]; rfl⟩
  | succ n ih =>
    intro s hn hs;cases hc:c s with
    | true =>
      obtain⟨h1,h2⟩:=hI s hs hc;obtain⟨s',h3,h4,h5⟩:=ih (nx s) (by omega) h1;refine⟨s',h3,h4,fun k=>?_⟩;show F (itF F (k+(n+1))) s=_;rw[hF _ _ hs,hc,if_pos rfl];exact h5 k
    | false=>exact⟨s,hs,hc,fun k=>by show F (itF F (k+(n+1))) s=_; rw[hF _ _ hs,hc]; rfl⟩
 obtain⟨s',h1,h2,h3⟩:=key (μ s) s (Nat.le_refl _) hs;exact⟨s',h1,h2,lp_of (μ s+1) (by omega) h3⟩
end Go.Proofs.Xd
end
section
namespace Go.Proofs.Xd
open Go.Proofs.Xl
theorem countP_split{α:Type}(l:List α)(p q r:α->Bool)(h:∀a∈l,(p a).toNat=(q a).toNat+(r a).toNat):l.countP p=l.countP q+l.countP r:=by
 induction l with
 | nil=>rfl
 | cons a t ih =>
   grind
section
variable (M N:Nat) (fr to:Nat->Nat) (lv:Nat->Bool)
def cntO(out:List Nat)(v:Nat):Nat:=(List.range M).countP fun i=>lv i&&to i==v&&!out.contains (fr i)
variable {M N fr to lv}
theorem countP_rng(p:Nat->Bool):(List.range M).countP p<=M:=by
 grind[List.countP_le_length,List.range,List.length_range]
structure OInv(M N:Nat)(fr to:Nat->Nat)(lv:Nat->Bool)(out:List Nat)(o:List Int):Prop where
 len:o.length=N
 un:∀v,v<N->v ∉ out->o.getD v 0=cntO M fr to lv out v
 li:∀v,v<N->v∈out->o.getD v 0<0
 lo:∀v,v<N -> -(1+(out.length:Int)*M)<=o.getD v 0
 hi:∀v,v<N->o.getD v 0<=M
theorem setB_get{o:List Bool}{i v:Nat}(x:Bool)(hi:i<o.length):(o.set i x).getD v false=if v=i then x else o.getD v false:=by
 grind
theorem setsB_get(out:List Nat)(o:List Bool)(h:∀v∈out,v<o.length)(w:Nat):(out.foldl (fun l v=>l.set v true) o).length=o.length/\(out.foldl (fun l v=>l.set v true) o).getD w false=(out.contains w||o.getD w false):=by
 induction out generalizing o with
 | nil=>simp
 | cons v r ih =>
   grind
end
end Go.Proofs.Xd
end
section
namespace Go.Proofs.YtlfeppknkfknhaaGreatDoor
open Go Go.Proofs Go.Proofs.Xv Go.Proofs.Xl Go.Proofs.Xd
theorem r117(a b c:Int):u117 a b c=some (inB a b c):=rfl
theorem r80(a b c:Int):u80 a b c=some (inB a b c):=rfl
theorem r124(a b c:Int):u124 a b c=some (!inB a b c):=by
 unfold u124;rw[r117,gP ⟨rfl,trivial⟩,vS]
theorem r123c124(xs:List Int)(b c:Int)(h:xs.length<=9223372036854775807):u123c124 xs (b,c)=some (xs.any fun x=>!inB x b c):=by
 have h1:u140c124 xs (b,c)=_:=idx_some h (fun i=>!inB (xs.getD i 0) b c) (fun g i hi=>idx_el hi h (r124 _ _ _)) (fun g=>aE);have:=has_some h1;rw[any_getD xs 0 (fun x=>!inB x b c)] at this;exact this
theorem r91(xs:List Int)(b c:Int)(h:xs.length<=9223372036854775807):u91 xs b c=some (xs.all (inB · b c)):=by
 unfold u91;rw[r123c124 _ _ _ h,gP ⟨rfl,trivial⟩,vS,all_any]
theorem r93(xs:List Int)(h:xs.length<=9223372036854775807)(h1:1<=xs.length):u93 xs=some (incB xs):=by
 have key:=lp_allK h (fun i=>decide (xs.getD i 0<=xs.getD (i-1) 0)) (some false) (e:=some true) (F:=u93L1 xs) 1 h1 (fun g i hk hi=>by
  have e:((i:Int)-1).toNat=i-1:=by omega
  refine(all_el hi h ⟨oo,oo,oo,trivial⟩).trans ?_;rw[e]; rfl) (fun g=>aE)
 refine key.trans ?_;unfold incB
 grind
theorem r199(xs:List Int)(h:xs.length<=9223372036854775807):u199 xs=some (isAxis xs):=by
 unfold u199;have e:u88 xs=some (xs.length:Int):=rfl;have ed:∀a:Bool,(a=true->1<=xs.length)->(a=true/\True->(u93 xs).isSome=true):=fun a ha hc=>by grind[r93]
 rw[e,vS,r117,vS,r91 xs 0 100000 h,vS,gP ⟨rfl,rfl,fun _=>rfl,ed _ (fun hc=>by
  grind[inB]),trivial⟩]
 congr 1;unfold isAxis;by_cases h1:1<=xs.length
 ·rw[r93 xs h h1,vS]
  grind[inB]
 grind[decide,inB]
theorem r194(xs:List Int)(h:xs.length<=9223372036854775807):u194 xs=some (isAxis xs):=by
 have key:=lp_all (n:=xs.length) h (fun i=>!inB (xs.getD i 0) 0 100000||decide (0<i)&&decide (xs.getD i 0<=xs.getD (i-1) 0)) (some false) (e:=u194J0 xs ()) (F:=u194L1 xs) (fun g i hi=>by
  have e:((i:Int)-1).toNat=i-1:=by omega
  have e2:decide ((0:Int) < (i:Int))=decide (0<i):=by rw[decide_eq_decide]; omega
  refine(all_el hi h ⟨oo,rfl,fun hc=>oo,fun hc=>⟨by have:=hc.1; simp at this; omega,by omega⟩,fun hc=>oo,trivial⟩).trans ?_;rw[e,r80,vS,e2]; rfl) (fun g=>aE)
 refine key.trans ?_;unfold isAxis u194J0;have e3:((List.range xs.length).any fun i=>!inB (xs.getD i 0) 0 100000||decide (0<i)&&decide (xs.getD i 0<=xs.getD (i-1) 0))=!(xs.all (inB · 0 100000)&&incB xs):=by
  rw[<- all_any,<- any_getD xs 0 (fun x=>!inB x 0 100000),incB,<- Bool.not_or,Bool.not_not];rw[Bool.eq_iff_iff,Bool.or_eq_true,List.any_eq_true,List.any_eq_true,List.any_eq_true];constructor
  ·rintro⟨i,h1,h2⟩;rcases Bool.or_eq_true _ _ ▸ h2 with h3 | h3
   ·exact .inl ⟨i,h1,h3⟩
   ·exact .inr ⟨i,h1,h3⟩
  ·rintro(⟨i,h1,h2⟩ | ⟨i,h1,h2⟩)
   ·exact⟨i,h1,by rw[h2]; rfl⟩
   ·exact⟨i,h1,by rw[h2,Bool.or_true]⟩
 rw[e3];cases hA:(xs.all (inB · 0 100000)&&incB xs) with
 | false=>grind
 | true =>
   rw[if_neg (by simp),Bool.and_assoc,hA,Bool.and_true];refine congrArg some ?_
   grind
theorem r190(t:Y213)(hw:wf y213 t):u190 t=some (isTable t):=by
 obtain⟨⟨h1,_⟩,⟨h2,_⟩,h3,_⟩:=hw;unfold u190;have hb:(isAxis t.1&&isAxis t.2.1)=true/\True->in64 ((t.1.length:Int)*(t.2.1.length:Int)):=fun hc=>by
  have hc:=hc.1;rw[ba] at hc;obtain⟨a1,a2⟩:=axis_len hc.1;obtain⟨b1,b2⟩:=axis_len hc.2;have c2:t.1.length*t.2.1.length<=4*4:=Nat.mul_le_mul a2 b2;have e:(t.1.length:Int)*(t.2.1.length:Int)=((t.1.length*t.2.1.length:Nat):Int):=by simp
  rw[e];exact oo
 rw[r199 _ h1,r199 _ h2,r91 _ _ _ h3,vS,vS,vS,gP ⟨rfl,fun _=>rfl,hb,fun _=>rfl,trivial⟩];congr 1
 grind[isTable]
theorem r182(t:Y213)(hw:wf y213 t):u182 t=some (isTable t):=by
 obtain⟨⟨h1,_⟩,⟨h2,_⟩,h3,_⟩:=hw;unfold u182;have hb:(!isAxis t.1||!isAxis t.2.1)=false/\True->in64 ((t.1.length:Int)*(t.2.1.length:Int)):=fun hc=>by
  have hc:=hc.1;simp only[Bool.or_eq_false_iff,Bool.not_eq_false'] at hc;obtain⟨a1,a2⟩:=axis_len hc.1;obtain⟨b1,b2⟩:=axis_len hc.2;have c2:t.1.length*t.2.1.length<=4*4:=Nat.mul_le_mul a2 b2;have e:(t.1.length:Int)*(t.2.1.length:Int)=((t.1.length*t.2.1.length:Nat):Int):=by simp
  rw[e];exact oo
 rw[r194 _ h1,r194 _ h2,vS,vS,gP ⟨rfl,fun _=>rfl,hb,trivial⟩];have key:=lp_all (n:=t.2.2.length) h3 (fun i=>!inB (t.2.2.getD i 0) (-1000000) 1000000) (some false) (e:=some true) (F:=u182L1 t) (fun g i hi=>all_el hi h3 ⟨oo,rfl,trivial⟩) (fun g=>aE);rw[key,any_getD t.2.2 0 (fun x=>!inB x (-1000000) 1000000)];have e:((t.2.2.length:Int) != (t.1.length:Int)*(t.2.1.length:Int))=!decide (t.2.2.length=t.1.length*t.2.1.length):=by
  rw[Bool.eq_iff_iff];simp only[bne_iff_ne,Bool.not_eq_true',decide_eq_false_iff_not,ne_eq];constructor
  ·intro h k; exact h (by exact_mod_cast k)
  ·intro h k; exact h (by exact_mod_cast k)
 grind[isTable,all_any,isAxis,decide,inB]
end Go.Proofs.YtlfeppknkfknhaaGreatDoor
end
section
namespace Go.Proofs.YtlfeppknkfknhaaGreatDoor
open Go Go.Proofs Go.Proofs.Sv Go.Proofs.Xv Go.Proofs.Xl Go.Proofs.Xd
theorem r131(s:ByteArray)(h:s.size<=9223372036854775807):u131 s=some (nmB s):=by
 have key:=lp_all (n:=s.size) h (fun i=>!chB (byteAt s i) i) (some false) (e:=u131J0 s ()) (F:=u131L1 s) (fun g i hi=>by
  refine(all_el2 hi h ⟨oo,fun _=>oo,trivial⟩ ⟨oo,fun _=>oo,trivial⟩).trans ?_;have e2:decide ((0:Int) < (i:Int))=decide (0<i):=by rw[decide_eq_decide]; omega
  have e3:((i:Int)).toNat=i:=rfl;rw[e2,e3];unfold chB lowB digB;rw[Bool.not_or]) (fun g=>aE)
 refine key.trans ?_;unfold nmB u131J0;rw[nmTo_any];cases(List.range s.size).any fun i=>!chB (byteAt s i) i
 ·rfl
 ·rfl
theorem r148(s:ByteArray)(h:s.size<=9223372036854775807):u148 s=some (nmB s):=by
 unfold u148;have t1:u157 s ⟨#[97,98,99,100,101,102,103,104,105,106,107,108,109,110,111,112,113,114,115,116,117,118,119,120,121,122,48,49,50,51,52,53,54,55,56,57]⟩=some ⟨(Lib.trimS s.data.toList low36).toArray⟩:=if_pos ⟨by decide,by decide⟩;have t2:∀c,u158 ⟨#[97,98,99,100,101,102,103,104,105,106,107,108,109,110,111,112,113,114,115,116,117,118,119,120,121,122]⟩ c=some (Lib.indexByte low26 c.toNat.toUInt8):=fun _=>rfl;rw[t1,t2,r117,vS,vS,vS,gP ⟨rfl,fun _=>rfl,fun hc=>⟨by decide,by
  have:=hc.1;rw[ba,inB_iff] at this;omega⟩,fun _=>rfl,trivial⟩,lE]
 refine congrArg some ?_;show(inB (s.size:Int) 1 8&&decide ((⟨(Lib.trimS s.data.toList low36).toArray⟩:ByteArray)=⟨#[]⟩)&&decide (0<=Lib.indexByte low26 (byteAt s (Int.toNat 0)).toNat.toUInt8))=nmB s;by_cases hb:1<=s.size/\s.size<=8
 ·rw[nmB_trim s hb.1 hb.2];have e1:inB (s.size:Int) 1 8=true:=by rw[inB_iff]; omega
  have e2:decide ((⟨(Lib.trimS s.data.toList low36).toArray⟩:ByteArray)=⟨#[]⟩)=(Lib.trimS s.data.toList low36==[]):=by
   rw[Bool.eq_iff_iff,dq,beq_iff_eq];constructor
   ·intro h;injection h with h;have:=congrArg Array.toList h;simpa using this
   ·intro h; rw[h]
  rw[e1,e2,Bool.true_and];rfl
 ·have e1:inB (s.size:Int) 1 8=false:=by rw[<- Bool.not_eq_true,inB_iff]; omega
  have e2:nmB s=false:=by
   rw[<- Bool.not_eq_true];intro hc;simp only[nmB,ba,dq] at hc;omega
  rw[e1,e2]; rfl
theorem r152(xs:List ByteArray)(x:ByteArray)(h:xs.length<=9223372036854775807):u152 xs x=some (xs.any fun y=>decide (x=y)):=by
 have h1:u165 xs x=_:=idx_some h (fun i=>decide (x=xs.getD i (dflt .str))) (fun g i hi=>by
  refine(if_pos (by simpa using hi)).trans ?_;rw[gP ⟨oo,trivial⟩,gP ⟨oo,trivial⟩];rfl) (fun g=>aE)
 have:=has_some h1;rw[any_getD xs (dflt .str) (fun y=>decide (x=y))] at this;exact this
theorem r135(xs:List ByteArray)(hw:wf (.sl .str) xs):u135 xs=some (namesB xs.length fun i=>xs.getD i (dflt .str)):=by
 have h:=hw.1;have key:=lp_all (n:=xs.length) h (fun i=>!nmB (xs.getD i (dflt .str))||dupB (fun i=>xs.getD i (dflt .str)) i) (some false) (e:=some true) (F:=u135L1 xs) (fun g i hi=>by
  have hs:=wf_el (d:=dflt .str) hi hw;have hl:(xs.take i).length<=9223372036854775807:=by rw[List.length_take]; omega
  have e1:=r148 _ hs;have e2:=r152 (xs.take i) (xs.getD i (dflt .str)) hl;rw[take_any xs (dflt .str) i hi] at e2;have e3:((i:Int)).toNat=i:=rfl;refine(if_pos (by simpa using hi)).trans ?_;rw[e3,e1,e2,vS,vS,gP ⟨oo,trivial⟩,gP ⟨rfl,fun _=>⟨by omega,by omega,by omega⟩,fun _=>rfl,trivial⟩,gP ⟨oo,trivial⟩]) (fun g=>aE)
 refine key.trans ?_;unfold namesB;cases(List.range xs.length).any fun i=>!nmB (xs.getD i (dflt .str))||dupB (fun i=>xs.getD i (dflt .str)) i <;> rfl
theorem r108(xs:List ByteArray)(hw:wf (.sl .str) xs):u108 xs=some (namesB xs.length fun i=>xs.getD i (dflt .str)):=by
 have h:=hw.1;have key:=lp_all (n:=xs.length) h (fun i=>!nmB (xs.getD i (dflt .str))||dupB (fun i=>xs.getD i (dflt .str)) i) (some false) (e:=some true) (F:=u108L1 xs) (fun g i hi=>by
  have hs:=wf_el (d:=dflt .str) hi hw;have e1:=r131 _ hs;have e3:((i:Int)).toNat=i:=rfl;have inner:=lp_all (n:=i) (by omega) (fun k=>decide (xs.getD k (dflt .str)=xs.getD i (dflt .str))) (some false) (e:=g ((i:Int)+1)) (F:=u108L3 xs (i:Int) g) (fun g3 k hk=>by
   refine(all_el hk (by omega) ⟨oo,oo,trivial⟩).trans ?_;rfl) (fun g3=>by
   refine aE.trans ?_;unfold u108J2;exact gP ⟨oo,trivial⟩)
  refine(if_pos (by simpa using hi)).trans ?_;rw[e3,e1,vS,gP ⟨oo,rfl,trivial⟩,inner];unfold dupB;cases nmB (xs.getD i (dflt .str)) <;> cases(List.range i).any fun k=>decide (xs.getD k (dflt .str)=xs.getD i (dflt .str)) <;> rfl) (fun g=>aE)
 refine key.trans ?_;unfold namesB;cases(List.range xs.length).any fun i=>!nmB (xs.getD i (dflt .str))||dupB (fun i=>xs.getD i (dflt .str)) i <;> rfl
theorem r191(xs:List Int)(h:xs.length<=9223372036854775807)(h1:1<=xs.length):u191 xs=some (minN xs):=by
 unfold u191;rw[if_neg (by simp; omega)];unfold u191J0;rw[gP ⟨oo,trivial⟩];have key:=lF (n:=xs.length-1) (by omega) (fun i (m:Int)=>(m,((i+1:Nat):Int))) (fun i m=>min m (xs.getD (i+1) 0)) (fun _ _=>True) (J:=fun m=>some m) (F:=u191L2 xs) (fun g i s hi _=>by
  refine(if_pos (by simp; omega)).trans ?_;rw[gP ⟨oo,trivial⟩,gP ⟨oo,trivial⟩];rfl) (fun _ _ _ _=>trivial) (fun g s _=>by
  have e:xs.length-1+1=xs.length:=by omega
  show u191L2 xs g (s,((xs.length-1+1:Nat):Int))=some s;rw[e];exact aE) (xs.getD 0 0) trivial
 exact key
theorem r189(t:Y213)(p:Bool)(hw:wf y213 t):u189 t p=some (!isTable t||p&&decide (minN t.2.2<0)):=by
 unfold u189;have hv:p=true/\(!isTable t)=false/\True->(u191 t.2.2).isSome=true:=fun hc=>by
  have h2:isTable t=true:=by simpa using hc.2.1
  rw[r191 _ hw.2.2.1 (table_len h2).2.2.2.2.2.1]; rfl
 rw[r190 t hw,vS,gP ⟨rfl,hv,trivial⟩,lE];refine congrArg some ?_;cases hT:isTable t with
 | false=>rfl
 | true=>rw[r191 _ hw.2.2.1 (table_len hT).2.2.2.2.2.1,vS]
theorem r177(l:List Y213)(p:Bool)(hw:wf (.sl y213) l):u177 l p=some (areTables l p):=by
 have h:=hw.1;have h1:u198c189 l p=_:=idx_some h (fun i=>!isTable (l.getD i (dflt y213))||p&&decide (minN (l.getD i (dflt y213)).2.2<0)) (fun g i hi=>idx_el hi h (r189 _ _ (wf_el hi hw))) (fun g=>aE);have h2:u188c189 l p=_:=has_some h1;rw[any_getD l (dflt y213) (fun t=>!isTable t||p&&decide (minN t.2.2<0))] at h2;unfold u177;rw[h2,vS,gP ⟨fun _=>rfl,trivial⟩];refine congrArg some ?_;unfold areTables;have e:((l.length:Int)==2)=decide (l.length=2):=by
  rw[Bool.eq_iff_iff,beq_iff_eq,dq]; omega
 rw[e,<- all_any];congr 3;funext t;rw[Bool.not_and,Bool.not_not]
theorem fst_fold(xs:List Int):∀n,(fN (fun i (s:Int×Int)=>(min s.1 (xs.getD (i+1) 0),max s.2 (xs.getD (i+1) 0))) n (xs.getD 0 0,xs.getD 0 0)).1=fN (fun i m=>min m (xs.getD (i+1) 0)) n (xs.getD 0 0)
 | 0=>rfl
 | n+1=>by rw[fN,fN,fst_fold xs n]
theorem r167(t:Y213)(hw:wf y213 t):∃l,u167 t=some (if isTable t=true then((minN t.2.2,l),0) else((0,0),1)):=by
 unfold u167;rw[r182 t hw,vS,gP ⟨rfl,trivial⟩];cases hT:isTable t with
 | false=>exact⟨0,rfl⟩
 | true =>
   have h1:=(table_len hT).2.2.2.2.2.1;have h:=hw.2.2.1;have key:=lF (n:=t.2.2.length-1) (by omega) (fun i (s:Int×Int)=>(((i+1:Nat):Int),s.1,s.2)) (fun i s=>(min s.1 (t.2.2.getD (i+1) 0),max s.2 (t.2.2.getD (i+1) 0))) (fun _ _=>True) (J:=fun s=>some ((s.1,s.2),(0:Int))) (F:=u167L1 t) (fun g i s hi _=>by
    refine(if_pos (by simp; omega)).trans ?_;rw[gP ⟨oo,trivial⟩,gP ⟨oo,trivial⟩,gP ⟨oo,trivial⟩];rfl) (fun _ _ _ _=>trivial) (fun g s _=>by
    have e:t.2.2.length-1+1=t.2.2.length:=by omega
    show u167L1 t g (((t.2.2.length-1+1:Nat):Int),s.1,s.2)=_;rw[e];exact aE) (t.2.2.getD 0 0,t.2.2.getD 0 0) trivial
   rw[if_neg (by simp),gP ⟨oo,oo,trivial⟩];rw[fst_fold] at key;exact⟨_,key⟩
theorem r155(l:List Y213)(p:Bool)(hw:wf (.sl y213) l):u155 l p=some (areTables l p):=by
 unfold u155;have e:((l.length:Int) != 2)=!decide (l.length=2):=by
  rw[Bool.eq_iff_iff]; simp; omega
 rw[e];unfold areTables;by_cases h2:l.length=2
 ·have key:=lp_all (n:=2) (by decide) (fun i=>!isTable (l.getD i (dflt y213))||p&&decide (minN (l.getD i (dflt y213)).2.2<0)) (some false) (e:=some true) (F:=u155L1 p l) (fun g i hi=>by
   obtain⟨m,hm⟩:=r167 (l.getD i (dflt y213)) (wf_el (by omega) hw);have e3:((i:Int)).toNat=i:=rfl;refine(if_pos (by simp; omega)).trans ?_;rw[e3,hm,vS,gP ⟨oo,rfl,trivial⟩,lE,gP ⟨oo,trivial⟩];cases isTable (l.getD i (dflt y213)) <;> rfl) (fun g=>by
   unfold u155L1;exact if_neg (by decide))
  rw[decide_eq_true h2,if_neg (by simp)];refine key.trans ?_;have:=any_getD l (dflt y213) (fun t=>!isTable t||p&&decide (minN t.2.2<0));rw[h2] at this;rw[this,<- all_any,Bool.true_and];have e5:(fun t:Y213=>!(isTable t&&!(p&&decide (minN t.2.2<0))))=fun t=>!isTable t||p&&decide (minN t.2.2<0):=by
   funext t; rw[Bool.not_and,Bool.not_not]
  rw[e5];cases l.any fun t=>!isTable t||p&&decide (minN t.2.2<0) <;> rfl
 ·rw[decide_eq_false h2]; rfl
abbrev pinOf(c:Y92)(i:Nat):Y194:=c.2.2.1.getD i (dflt y194)
abbrev arcOf(c:Y92)(i:Nat):Y97:=c.2.2.2.1.getD i (dflt y97)
theorem r163(c:Y92)(hw:wf y92 c):u163 c=some ((c.2.2.1.length:Int)-1):=by
 have h:=hw.2.2.1.1;have e:u159 c.2.2.1=some (c.2.2.1.length:Int):=rfl;unfold u163;rw[e,vS,gP ⟨rfl,oo,trivial⟩,lE]
theorem r179(c:Y92)(hw:wf y92 c)(x:Int):u179 c x=some (inB x 0 ((c.2.2.1.length:Int)-1-1)):=by
 have h:=hw.2.2.1.1;unfold u179;rw[r163 c hw,vS,r117,vS,gP ⟨rfl,oo,rfl,trivial⟩]
theorem r178(c:Y92)(hw:wf y92 c):u178 c=some (clkI c.2.2.1.length (pinOf c)):=by
 have h:=hw.2.2.1.1;have h1:u192c193 c.2.2.1=_:=idx_some h (fun i=>(pinOf c i).2.2.2) (fun g i hi=>idx_el hi h rfl) (fun g=>aE);unfold u178;rw[h1,vS,gP ⟨rfl,trivial⟩,lE];rfl
theorem r164(c:Y92)(hw:wf y92 c)(k:Int):u164 c k=some (hasB c.2.2.2.1.length (arcOf c) k):=by
 have h:=hw.2.2.2.1.1;have h1:u180c181 c.2.2.2.1 k=_:=idx_some h (fun i=>(arcOf c i).1==k) (fun g i hi=>idx_el hi h rfl) (fun g=>aE);have h2:u161c181 c.2.2.2.1 k=_:=has_some h1;unfold u164;rw[h2,vS,gP ⟨rfl,trivial⟩];rfl
theorem r160(c:Y92)(a:Y97)(hc:wf y92 c)(ha:wf y97 a):u160 c a=some (isArcI c.2.2.1.length (pinOf c) a):=by
 obtain⟨_,_,_,_,hd,hs⟩:=ha;have ek:u176 a.1=some (a.1==4||a.1==5):=rfl;have hg:inB a.2.1 0 ((c.2.2.1.length:Int)-1-1)=true->ix a.2.1 c.2.2.1.length:=fun h=>by
  rw[inB_iff] at h; exact oo
 unfold u160;rw[ek,r177 _ _ hd,r177 _ _ hd,r177 _ _ hs,r178 c hc,r179 c hc,r179 c hc,r163 c hc]
 repeat rw[vS]
 rw[gP ⟨rfl,trivial⟩];unfold isArcI;by_cases k45:a.1=4∨a.1=5
 ·have e1:(a.1==4||a.1==5)=true:=by simpa using k45
  rw[if_pos e1,if_pos k45,gP ⟨fun _=>rfl,fun _=>rfl,fun _=>rfl,trivial⟩,lE]
 ·have e1:(a.1==4||a.1==5)=false:=by
   rw[<- Bool.not_eq_true]; simpa using k45
  rw[e1,if_neg (by simp),if_neg k45,gP ⟨rfl,fun _=>rfl,fun _=>rfl,fun _=>rfl,trivial⟩,lE];by_cases hgo:areTables a.2.2.2.2.1 true=true/\areTables a.2.2.2.2.2 true=true/\a.2.2.1=(c.2.2.1.length:Int)-1/\inB a.2.1 0 ((c.2.2.1.length:Int)-1-1)=true
  ·obtain⟨g1,g2,g3,g4⟩:=hgo;have e3:(areTables a.2.2.2.2.1 true&&areTables a.2.2.2.2.2 true&&a.2.2.1==(c.2.2.1.length:Int)-1&&inB a.2.1 0 ((c.2.2.1.length:Int)-1-1))=true:=by
    rw[g1,g2,g4,g3]; simp
   have e2:(!areTables a.2.2.2.2.1 true||!areTables a.2.2.2.2.2 true||a.2.2.1 != (c.2.2.1.length:Int)-1||!inB a.2.1 0 ((c.2.2.1.length:Int)-1-1))=false:=by
    rw[g1,g2,g4,g3]; simp
   rw[e3,Bool.true_and];refine(if_neg (by rw[e2]; simp)).trans ?_;by_cases k1:a.1=1
   ·rw[if_pos (beq_iff_eq.2 k1),if_pos k1,r117,gP ⟨hg g4,fun _=>rfl,trivial⟩];rfl
   ·rw[if_neg (by grind),if_neg k1];have j:∀b,u160J0 c a b=some (if b=true then(pinOf c a.2.1.toNat).2.2.2&&a.2.2.2.1==0 else false):=fun b=>by
     unfold u160J0;cases b with
     | false=>rfl
     | true=>rw[if_pos rfl,if_pos rfl,gP ⟨hg g4,trivial⟩]
    grind
  grind
theorem r145(c:Y92)(a:Y97)(hc:wf y92 c)(ha:wf y97 a):u145 c a=some (isArcS c.2.2.1.length (pinOf c) a):=by
 obtain⟨_,_,_,_,hd,hs⟩:=ha;have h:=hc.2.2.1.1;unfold u145;rw[gP ⟨oo,trivial⟩,r80,r80]
 repeat rw[vS]
 rw[gP ⟨oo,rfl,fun _=>rfl,trivial⟩];unfold isArcS;by_cases hgo:inB a.2.1 0 ((c.2.2.1.length:Int)-1-1)=true/\inB a.2.2.1 0 ((c.2.2.1.length:Int)-1)=true
 ·obtain⟨g1,g2⟩:=hgo;have b1:=inB_iff.1 g1;have b2:=inB_iff.1 g2;rw[g1,g2,if_neg (by simp),gP ⟨oo,trivial⟩,lE,Bool.true_and,Bool.true_and];by_cases k1:a.1=1
  ·rw[if_pos (beq_iff_eq.2 k1),if_pos k1,r80,r155 _ _ hd,r155 _ _ hs,gP ⟨fun _=>rfl,fun _=>rfl,fun _=>rfl,trivial⟩];rfl
  ·rw[if_neg (by grind),if_neg k1];have j1:∀b,u145J1 (pinOf c a.2.1.toNat) a c b=some (if b=true then(pinOf c a.2.1.toNat).2.2.2&&decide (a.2.2.1 < (c.2.2.1.length:Int)-1)&&!(pinOf c a.2.2.1.toNat).2.2.2&&a.2.2.2.1==0&&areTables a.2.2.2.2.1 false&&(a.2.2.2.2.2.length:Int)==0 else false):=fun b=>by
    unfold u145J1;cases b with
    | false=>rfl
    | true =>
      rw[if_pos rfl,if_pos rfl,r155 _ _ hd,gP ⟨fun _=>oo,fun _=>rfl,trivial⟩];rfl
   have j0:∀b,u145J0 (pinOf c a.2.1.toNat) a c b=some (if b=true then(pinOf c a.2.1.toNat).2.2.2&&a.2.2.1==(c.2.2.1.length:Int)-1&&a.2.2.2.1==0&&areTables a.2.2.2.2.1 true&&areTables a.2.2.2.2.2 true else if a.1=4∨a.1=5 then(pinOf c a.2.1.toNat).2.2.2&&decide (a.2.2.1 < (c.2.2.1.length:Int)-1)&&!(pinOf c a.2.2.1.toNat).2.2.2&&a.2.2.2.1==0&&areTables a.2.2.2.2.1 false&&(a.2.2.2.2.2.length:Int)==0 else false):=fun b=>by
    unfold u145J0;cases b with
    | true =>
      rw[if_pos rfl,if_pos rfl,r155 _ _ hd,r155 _ _ hs,gP ⟨fun _=>rfl,fun _=>rfl,trivial⟩];rfl
    | false =>
      grind
   grind
 grind
theorem wf_pins{c:Y92}(hw:wf y92 c):wf (.sl y194) c.2.2.1:=hw.2.2.1
theorem wf_arcs{c:Y92}(hw:wf y92 c):wf (.sl y97) c.2.2.2.1:=hw.2.2.2.1
theorem names_map{α:Type}(l:List α)(f:α->ByteArray)(d:α)(e:ByteArray):namesB (l.map f).length (fun i=>(l.map f).getD i e)=namesB l.length fun i=>f (l.getD i d):=by
 grind[List.length_map,namesB_congr,hi,getD_map']
theorem wf_map{α:Type}{l:List α}{f:α->ByteArray}(h:l.length<=9223372036854775807)(hf:∀x∈l,(f x).size<=9223372036854775807):wf (.sl .str) (l.map f):=by
 refine⟨by grind,fun x hx=>?_⟩;obtain⟨y,hy,rfl⟩:=List.mem_map.1 hx;exact hf y hy
def gath(f:Nat->ByteArray)(i:Nat)(s:List ByteArray):List ByteArray:=s++[f i]
theorem gath_eq(f:Nat->ByteArray):∀n,fN (gath f) n []=(List.range n).map f
 | 0=>rfl
 | n+1=>by
   rw[fN,gath_eq f n,List.range_succ,List.map_append]; rfl
theorem gath_row{α:Type}(l:List α)(d:α)(f:α->ByteArray):fN (gath fun i=>f (l.getD i d)) l.length []=l.map f:=by
 rw[gath_eq,range_map]
theorem app_ok{n i b:Nat}(h:i<n)(hn:n<=1048576)(hb:b<=4096):i+1<=9223372036854775807/\(i+1)*b<=140737488355328:=by
 have:(i+1)*b<=1048576*4096:=Nat.mul_le_mul (by omega) hb;exact oo
theorem r149(l:List Y194)(hw:wf (.sl y194) l)(hm:l.length<=1048576):u149 l=some (pinsOk l.length fun i=>l.getD i (dflt y194)):=by
 have h:=hw.1;have key:=lp_foldE (n:=l.length) h (fun i (s:List ByteArray)=>(s,(i:Int))) (gath fun i=>(l.getD i (dflt y194)).1) (fun i=>!pinB l.length (l.getD i (dflt y194)) i) (some false) (fun i s=>s.length=i) (J:=u149J0 l) (F:=u149L1 l) (fun g i s hi hI=>by
  refine(if_pos (by simpa using hi)).trans ?_;have e3:((i:Int)).toNat=i:=rfl;have hs:(s++[(l.getD i (dflt y194)).1]).length<=9223372036854775807:=by rw[List.length_append]; show s.length+1<=_; omega
  have ha:=app_ok (b:=16) hi hm (by decide);have j2:∀s',u149J2 (i:Int) g s'=g (s',((i+1:Nat):Int)):=fun s'=>gP ⟨oo,trivial⟩;rw[e3,gP ⟨oo,trivial⟩,lE,gP ⟨⟨by show s.length+1<=_; omega,by show(s.length+1)*16<=_; omega⟩,trivial⟩,gP ⟨oo,trivial⟩,j2,r117,gP ⟨fun _=>rfl,trivial⟩,vS];unfold pinB gath;dsimp only;by_cases hl:i+1=l.length
  ·have e1:((i:Int)==(l.length:Int)-1)=true:=by rw[beq_iff_eq]; omega
   rw[if_pos e1,if_pos hl];generalize l.getD i (dflt y194)=q;have n1:(q.2.1 != 2)=!(q.2.1==2):=rfl;have n2:(q.2.2.1 != 0)=!(q.2.2.1==0):=rfl
   grind[inB]
  grind) (fun i s hi hI _=>by grind[gath,List.length_append]) (fun g s _=>aE) [] rfl
 refine key.trans ?_;rw[gath_row];have hn:wf (.sl .str) (l.map fun q:Y194=>q.1):=wf_map h fun x hx=>(hw.2 x hx).1;have e5:u159 l=some (l.length:Int):=rfl;have e7:∀v:List ByteArray,wf (.sl .str) v->u149J0 l v=some (inB (l.length:Int) 2 5&&namesB v.length fun i=>v.getD i (dflt .str)):=fun v hv=>by
  rw[u149J0];rw[e5,r135 _ hv]
  repeat rw[vS]
  rw[r117,vS,gP ⟨rfl,rfl,fun _=>rfl,trivial⟩]
 rw[e7 _ hn,names_map l (fun q:Y194=>q.1) (dflt y194)];unfold pinsOk;have e6:inB (l.length:Int) 2 5=(decide (2<=l.length)&&decide (l.length<=5)):=by
  rw[Bool.eq_iff_iff,inB_iff]; simp; omega
 rw[e6];cases(List.range l.length).any fun i=>!pinB l.length (l.getD i (dflt y194)) i
 ·simp
 ·simp
theorem r144(c:Y92)(hw:wf y92 c):u144 c=some (if pinsOk c.2.2.1.length (pinOf c)=true then(clkN c.2.2.1.length (pinOf c),true) else(0,false)):=by
 have hp:=wf_pins hw;have h:=hp.1;unfold u144;by_cases hr:2<=c.2.2.1.length/\c.2.2.1.length<=5
 ·have e0:(decide ((c.2.2.1.length:Int)<2)||decide (5 < (c.2.2.1.length:Int)))=false:=by
   rw[<- Bool.not_eq_true]; simp; omega
  rw[e0,if_neg (by simp)];have key:=lp_foldE (n:=c.2.2.1.length) h (fun i (s:Int)=>(s,(i:Int))) (fun i s=>if(pinOf c i).2.2.2=true then s+1 else s) (fun i=>(!nmB (pinOf c i).1||dupB (fun i=>(pinOf c i).1) i)||!pinB c.2.2.1.length (pinOf c i) i) (some ((0:Int),false)) (fun i s=>0<=s/\s<=i) (J:=u144J0) (F:=u144L1 c) (fun g i s hi hI=>by
   refine(if_pos (by simpa using hi)).trans ?_;have e3:((i:Int)).toNat=i:=rfl;have hs:(pinOf c i).1.size<=9223372036854775807:=(wf_el (d:=dflt y194) hi hp).1;rw[e3,gP ⟨oo,trivial⟩,lE];have inner:=lp_all (n:=i) (by omega) (fun k=>decide ((pinOf c k).1=(pinOf c i).1)) (some ((0:Int),false)) (e:=u144J3 (i:Int) s (pinOf c i) c g ()) (F:=u144L4 c (pinOf c i) (i:Int) s g) (fun g3 k hk=>all_el hk (by omega) ⟨oo,trivial⟩) (fun g3=>aE);refine inner.trans ?_;have j3:u144J3 (i:Int) s (pinOf c i) c g ()=if(!nmB (pinOf c i).1||!pinB c.2.2.1.length (pinOf c i) i)=true then some ((0:Int),false) else g (if(pinOf c i).2.2.2=true then s+1 else s,((i+1:Nat):Int)):=by
    have j2:∀s',u144J2 (i:Int) g s'=g (s',((i+1:Nat):Int)):=fun s'=>gP ⟨oo,trivial⟩;show gd _ (if(!vl (u131 (pinOf c i).1)||!vl (u80 (pinOf c i).2.2.1 0 500))=true then _ else gd _ (if _=true then _ else if _=true then gd _ _ else _))=_;rw[r131 _ hs,r80,vS,vS,gP ⟨rfl,fun _=>rfl,trivial⟩,gP ⟨oo,fun _=>oo,trivial⟩,gP ⟨oo,trivial⟩,j2,j2];generalize pinOf c i=q;have hx:((i:Int)==(c.2.2.1.length:Int)-1)=decide (i+1=c.2.2.1.length):=by
     rw[Bool.eq_iff_iff,beq_iff_eq,dq]; omega
    have hy:decide ((i:Int) < (c.2.2.1.length:Int)-1)=!decide (i+1=c.2.2.1.length):=by
     rw[Bool.eq_iff_iff]; simp; omega
    rw[hx,hy];have hz:pinB c.2.2.1.length q i=(inB q.2.2.1 0 500&&(if decide (i+1=c.2.2.1.length)=true then q.2.1==2&&q.2.2.1==0&&!q.2.2.2 else q.2.1==1)):=by
     unfold pinB;by_cases hq:i+1=c.2.2.1.length
     ·grind
     ·grind
    rw[hz];have n1:(q.2.1 != 2)=!(q.2.1==2):=rfl;have n2:(q.2.2.1 != 0)=!(q.2.2.1==0):=rfl;have n3:(q.2.1 != 1)=!(q.2.1==1):=rfl;rw[n1,n2,n3];cases nmB q.1 <;> cases inB q.2.2.1 0 500 <;> cases decide (i+1=c.2.2.1.length) <;> cases q.2.1==2 <;> cases q.2.2.1==0 <;> cases q.2.1==1 <;> cases q.2.2.2 <;> rfl
   rw[j3];have hd:dupB (fun i=>(pinOf c i).1) i=(List.range i).any fun k=>decide ((pinOf c k).1=(pinOf c i).1):=rfl
   grind) (fun i s hi hI _=>by
   omega) (fun g s _=>aE) 0 oo
  refine key.trans ?_;rw[any_or];unfold pinsOk namesB;rw[decide_eq_true hr.1,decide_eq_true hr.2];cases(List.range c.2.2.1.length).any (fun i=>!nmB (pinOf c i).1||dupB (fun i=>(pinOf c i).1) i) <;> cases(List.range c.2.2.1.length).any (fun i=>!pinB c.2.2.1.length (pinOf c i) i) <;> rfl
 ·have e0:(decide ((c.2.2.1.length:Int)<2)||decide (5 < (c.2.2.1.length:Int)))=true:=by
   simp; omega
  have e1:¬pinsOk c.2.2.1.length (pinOf c)=true:=fun hc=>by
   obtain⟨h1,h2,_⟩:=pins_last hc;exact hr ⟨h1,h2⟩
  grind
theorem r150(c:Y92)(hw:wf y92 c):u150 c=some (arcsB (isArcI c.2.2.1.length (pinOf c)) c.2.2.2.1.length (arcOf c)):=by
 have ha:=wf_arcs hw;have h:=ha.1;have hA:∀(xs:List Y97) (o:Y97),xs.length<=9223372036854775807->u161c162 xs o=some (xs.any fun x=>x.1==o.1&&x.2.1==o.2.1&&x.2.2.1==o.2.2.1):=fun xs o hx=>by
  have h1:u180c162 xs o=_:=idx_some hx (fun i=>(xs.getD i (dflt y97)).1==o.1&&(xs.getD i (dflt y97)).2.1==o.2.1&&(xs.getD i (dflt y97)).2.2.1==o.2.2.1) (fun g i hi=>idx_el hi hx rfl) (fun g=>aE);have h2:u161c162 xs o=_:=has_some h1;rw[any_getD xs (dflt y97) (fun x=>x.1==o.1&&x.2.1==o.2.1&&x.2.2.1==o.2.2.1)] at h2;exact h2
 have key:=lp_all (n:=c.2.2.2.1.length) h (fun i=>!isArcI c.2.2.1.length (pinOf c) (arcOf c i)||dupA (arcOf c) i) (some false) (e:=u150J0 c ()) (F:=u150L1 c) (fun g i hi=>by
  have e3:((i:Int)).toNat=i:=rfl;have hl:(c.2.2.2.1.take i).length<=9223372036854775807:=by rw[List.length_take]; omega
  have e1:=r160 c (arcOf c i) hw (wf_el hi ha);have e2:=hA (c.2.2.2.1.take i) (arcOf c i) hl;rw[take_anyG c.2.2.2.1 (dflt y97) _ i (by omega)] at e2;refine(if_pos (by grind)).trans ?_;rw[e3,gP ⟨oo,trivial⟩,lE,e1,e2,vS,vS,gP ⟨rfl,fun _=>⟨by omega,by omega,by omega⟩,fun _=>rfl,trivial⟩,gP ⟨oo,trivial⟩];rfl) (fun g=>aE)
 refine key.trans ?_;unfold arcsB u150J0;have e:decide ((c.2.2.2.1.length:Int)<=8)=decide (c.2.2.2.1.length<=8):=by rw[decide_eq_decide]; omega
 rw[e];cases(List.range c.2.2.2.1.length).any fun i=>!isArcI c.2.2.1.length (pinOf c) (arcOf c i)||dupA (arcOf c) i
 ·simp
 ·simp
theorem toNat_pred{n:Nat}(h:1<=n):((n:Int)-1).toNat=n-1:=by omega
theorem r151(c:Y92)(hw:wf y92 c)(h2:2<=c.2.2.1.length)(h5:c.2.2.1.length<=5):u151 c=some (kindB c.2.1 c.2.2.1.length (pinOf c) c.2.2.2.1.length (arcOf c) c.2.2.2.2.1):=by
 have hp:=wf_pins hw;have h:=hp.1;have ht:=hw.2.2.2.2.1.1;have key:=lF (n:=c.2.2.1.length) h (fun i (s:Int)=>(s,(i:Int))) (fun i s=>if(pinOf c i).2.2.2=true then s+1 else s) (fun i s=>0<=s/\s<=i) (J:=u151J0 c) (F:=u151L1 c) (fun g i s hi hI=>by
  have j2:∀s',u151J2 (i:Int) g s'=g (s',((i+1:Nat):Int)):=fun s'=>gP ⟨oo,trivial⟩;have e3:((i:Int)).toNat=i:=rfl;refine(if_pos (by grind)).trans ?_;rw[e3,gP ⟨oo,trivial⟩,lE,gP ⟨oo,trivial⟩,j2,j2]
  grind) (fun i s hi hI=>by
  omega) (fun g s _=>aE) 0 oo
 refine key.trans ?_;show u151J0 c (clkN c.2.2.1.length (pinOf c))=_;have hk:∀k0:Int,u151J0 c k0=some (if c.2.1=1 then k0==0&&(c.2.2.2.2.1.length:Int)==1*2 ^ (c.2.2.1.length-1)&&c.2.2.2.2.1.all (inB · 0 1)
  else if c.2.1=2 then k0==1&&(c.2.2.2.2.1.length:Int)==0&&!hasB c.2.2.2.1.length (arcOf c) 1&&!(hasB c.2.2.2.1.length (arcOf c) 2==hasB c.2.2.2.1.length (arcOf c) 3)
  else if c.2.1=3 then k0==1&&(c.2.2.2.2.1.length:Int)==0&&hasB c.2.2.2.1.length (arcOf c) 1&&hasB c.2.2.2.1.length (arcOf c) 2&&!hasB c.2.2.2.1.length (arcOf c) 3
  else false):=fun k0=>by
  rw[u151J0,r163 c hw,r91 _ _ _ ht,r164 c hw,r164 c hw,r164 c hw]
  repeat rw[vS]
  rw[toNat_pred (by omega)];by_cases k1:c.2.1=1
  ·rw[if_pos (beq_iff_eq.2 k1),if_pos k1,gP ⟨fun _=>rfl,fun _=>⟨by omega,pow_in h5⟩,fun _=>rfl,trivial⟩,lE,toNat_pred (by omega)]
  ·rw[if_neg (by grind),if_neg k1];by_cases k2:c.2.1=2
   ·rw[if_pos (beq_iff_eq.2 k2),if_pos k2,gP ⟨fun _=>rfl,fun _=>rfl,fun _=>rfl,trivial⟩]
   ·rw[if_neg (by grind),if_neg k2];by_cases k3:c.2.1=3
    ·rw[if_pos (beq_iff_eq.2 k3),if_pos k3,gP ⟨fun _=>rfl,fun _=>rfl,fun _=>rfl,trivial⟩]
    grind
 exact hk (clkN c.2.2.1.length (pinOf c))
abbrev cellOk(q:Nat->(Nat->DPin)->DArc->Bool)(c:Y92):Bool:=cellB q c.1 c.2.1 c.2.2.1.length (pinOf c) c.2.2.2.1.length (arcOf c) c.2.2.2.2.1 c.2.2.2.2.2.1 c.2.2.2.2.2.2
theorem r134(c:Y92)(hw:wf y92 c)(hm:c.2.2.1.length<=1048576):u134 c=some (cellOk isArcS c):=by
 have hp:=wf_pins hw;show _=some (cellB isArcS _ _ _ _ _ _ _ _ _);rw[<- cell_eq];unfold u134 cellB;rw[r148 c.1 hw.1,r149 _ hp hm,r150 c hw,r117,r117]
 repeat rw[vS]
 cases hpo:pinsOk c.2.2.1.length (pinOf c) with
 | false =>
   rw[gP ⟨rfl,fun _=>rfl,fun hc=>by simp at hc,fun hc=>by simp at hc,fun hc=>by simp at hc,fun hc=>by simp at hc,trivial⟩];simp
 | true =>
   obtain⟨h2,h5,_⟩:=pins_last hpo;rw[r151 c hw h2 h5,vS,gP ⟨rfl,fun _=>rfl,fun _=>rfl,fun _=>rfl,fun _=>rfl,fun _=>rfl,trivial⟩]
theorem r146(c:Y92)(hw:wf y92 c)(h8:c.2.2.2.1.length<=8)(hk:∀i,i<c.2.2.2.1.length->1<=(arcOf c i).1/\(arcOf c i).1<=5):u146 c=some (fN (kindsF (arcOf c)) c.2.2.2.1.length (List.replicate 6 0)):=by
 have h:=(wf_arcs hw).1;unfold u146;rw[gP ⟨⟨by omega,rfl,by decide,by omega⟩,trivial⟩];have key:=lF (n:=c.2.2.2.1.length) h (fun i (v:List Int)=>((i:Int),v)) (kindsF (arcOf c)) (fun i v=>i<=c.2.2.2.1.length/\v=fN (kindsF (arcOf c)) i (List.replicate 6 0)) (J:=fun v=>some v) (F:=u146L1 c) (fun g i v hi hI=>by
  obtain⟨h1,h2⟩:=kinds_fold (arcOf c) i (fun j hj=>hk j (by omega));obtain⟨k1,k2⟩:=hk i hi;have hlen:v.length=6:=by rw[hI.2]; exact h1
  have hcnt:=h2 (arcOf c i).1.toNat (by omega);have hle:=cntK_le (arcOf c) ((arcOf c i).1.toNat:Int) i;rw[<- hI.2] at hcnt;have e3:((i:Int)).toNat=i:=rfl;refine(if_pos (by grind)).trans ?_;have hin:in64 (v.getD (arcOf c i).1.toNat 0+1):=by rw[hcnt]; exact oo
  have hix:ix (arcOf c i).1 v.length:=oo;have hlt:(arcOf c i).1.toNat<v.length:=by omega
  rw[e3,gP ⟨oo,hix,hlt,hin,hix,hlt,trivial⟩,lE,gP ⟨oo,trivial⟩];rfl) (fun i v hi hI=>⟨by omega,by rw[hI.2]; rfl⟩) (fun g s _=>aE) (List.replicate 6 0) ⟨by omega,rfl⟩
 grind
theorem r130(c:Y92)(hw:wf y92 c):u130 c=some (cellOk isArcS c):=by
 have ha:=wf_arcs hw;have h:=ha.1;show _=some (cellB isArcS _ _ _ _ _ _ _ _ _);unfold u130 cellB;rw[r144 c hw,r131 c.1 hw.1,r80,r80]
 repeat rw[vS]
 rw[gP ⟨rfl,trivial⟩,lE,gP ⟨fun _=>rfl,fun _=>rfl,fun _=>rfl,trivial⟩];cases hpo:pinsOk c.2.2.1.length (pinOf c) with
 | false =>
   grind
 | true =>
   obtain⟨h2,h5,_⟩:=pins_last hpo;have e9:(if true=true then(clkN c.2.2.1.length (pinOf c),true) else((0:Int),false))=(clkN c.2.2.1.length (pinOf c),true):=rfl;rw[e9];by_cases hgo:nmB c.1=true/\c.2.2.2.1.length<=8/\inB c.2.2.2.2.2.1 0 100000=true/\inB c.2.2.2.2.2.2 0 100000=true
   ·obtain⟨g1,g2,g3,g4⟩:=hgo;have e0:decide (8 < (c.2.2.2.1.length:Int))=false:=decide_eq_false (by omega);rw[g1,e0,g3,g4];refine(if_neg (by simp)).trans ?_;have key:=lp_all (n:=c.2.2.2.1.length) h (fun i=>!isArcS c.2.2.1.length (pinOf c) (arcOf c i)||dupA (arcOf c) i) (some false) (e:=u130J0 c (clkN c.2.2.1.length (pinOf c),true) ()) (F:=u130L1 c (clkN c.2.2.1.length (pinOf c),true)) (fun g i hi=>by
     have e3:((i:Int)).toNat=i:=rfl;have e1:=r145 c (arcOf c i) hw (wf_el hi ha);have inner:=lp_all (n:=i) (by omega) (fun k=>(arcOf c k).1==(arcOf c i).1&&(arcOf c k).2.1==(arcOf c i).2.1&&(arcOf c k).2.2.1==(arcOf c i).2.2.1) (some false) (e:=g ((i:Int)+1)) (F:=u130L3 c (arcOf c i) (i:Int) g) (fun g3 k hk=>all_el hk (by omega) ⟨oo,fun _=>oo,fun _=>oo,trivial⟩) (fun g3=>by
      refine aE.trans ?_;exact gP ⟨oo,trivial⟩)
     refine(if_pos (by grind)).trans ?_;rw[e3,gP ⟨oo,trivial⟩,lE,e1,vS,gP ⟨rfl,trivial⟩,inner];unfold dupA
     grind) (fun g=>aE)
    refine key.trans ?_;unfold arcsB;rw[decide_eq_true g2];cases hany:(List.range c.2.2.2.1.length).any fun i=>!isArcS c.2.2.1.length (pinOf c) (arcOf c i)||dupA (arcOf c) i with
    | true=>simp
    | false =>
      rw[if_neg (by simp)];have hall:∀i,i<c.2.2.2.1.length->isArcS c.2.2.1.length (pinOf c) (arcOf c i)=true:=fun i hi=>by
       grind
      have hkin:=r146 c hw g2 (fun i hi=>arcS_kind (hall i hi));obtain⟨n6,ncnt⟩:=kinds_fold (arcOf c) c.2.2.2.1.length (fun i hi=>arcS_kind (hall i hi));have c1:=ncnt 1 (by omega);have c2:=ncnt 2 (by omega);have c3:=ncnt 3 (by omega);rw[u130J0,hkin,vS,gP ⟨rfl,trivial⟩,lE];generalize fN (kindsF (arcOf c)) c.2.2.2.1.length (List.replicate 6 0)=v at *
      have q1:((v.getD 1 0)==(0:Int))=!hasB c.2.2.2.1.length (arcOf c) 1:=by
       rw[c1,cntK_has];have:=(cntK_le (arcOf c) 1 c.2.2.2.1.length).1;rw[Bool.eq_iff_iff]; simp; omega
      have q1':decide (0<v.getD 1 0)=hasB c.2.2.2.1.length (arcOf c) 1:=by rw[c1,cntK_has]; rfl
      have q2:decide (0<v.getD 2 0)=hasB c.2.2.2.1.length (arcOf c) 2:=by rw[c2,cntK_has]; rfl
      have q3:decide (0<v.getD 3 0)=hasB c.2.2.2.1.length (arcOf c) 3:=by rw[c3,cntK_has]; rfl
      have q3':((v.getD 3 0)==(0:Int))=!hasB c.2.2.2.1.length (arcOf c) 3:=by
       rw[c3,cntK_has];have:=(cntK_le (arcOf c) 3 c.2.2.2.1.length).1;rw[Bool.eq_iff_iff]; simp; omega
      have i1:ix (1:Int) v.length:=oo;have i2:ix (2:Int) v.length:=oo;have i3:ix (3:Int) v.length:=oo;have n1:Int.toNat (1:Int)<v.length:=by rw[n6]; decide
      have n2:Int.toNat (2:Int)<v.length:=by rw[n6]; decide
      have n3:Int.toNat (3:Int)<v.length:=by rw[n6]; decide
      unfold kindB;by_cases k1:c.2.1=1
      ·rw[if_pos (beq_iff_eq.2 k1),if_pos k1];have ht:=hw.2.2.2.2.1.1;have key2:=lp_all (n:=c.2.2.2.2.1.length) ht (fun i=>!inB (c.2.2.2.2.1.getD i 0) 0 1) (some false) (e:=u130J5 (clkN c.2.2.1.length (pinOf c),true) c ()) (F:=u130L6 c (clkN c.2.2.1.length (pinOf c),true)) (fun g i hi=>all_el hi ht ⟨oo,rfl,trivial⟩) (fun g=>aE);refine key2.trans ?_;rw[any_getD c.2.2.2.2.1 0 (fun x=>!inB x 0 1),<- all_any];have e5:u130J5 (clkN c.2.2.1.length (pinOf c),true) c ()=some (clkN c.2.2.1.length (pinOf c)==0&&(c.2.2.2.2.1.length:Int)==1*2 ^ (c.2.2.1.length-1)):=by
        rw[u130J5,toNat_pred (by omega),gP ⟨fun _=>oo,fun _=>oo,fun _=>⟨by omega,pow_in h5⟩,trivial⟩]
       rw[e5];cases c.2.2.2.2.1.any fun x=>!inB x 0 1 <;> simp
      ·rw[if_neg (by simpa using k1),if_neg k1];by_cases k2:c.2.1=2
       ·rw[if_pos (beq_iff_eq.2 k2),if_pos k2,gP ⟨fun _=>i1,fun _=>n1,fun _=>i2,fun _=>n2,fun _=>i3,fun _=>n3,trivial⟩];have w1:Int.toNat (1:Int)=1:=rfl;have w2:Int.toNat (2:Int)=2:=rfl;have w3:Int.toNat (3:Int)=3:=rfl;rw[w1,w2,w3,q1,q2,q3];cases clkN c.2.2.1.length (pinOf c)==1 <;> cases(c.2.2.2.2.1.length:Int)==0 <;> cases hasB c.2.2.2.1.length (arcOf c) 1 <;> cases hasB c.2.2.2.1.length (arcOf c) 2 <;> cases hasB c.2.2.2.1.length (arcOf c) 3 <;> rfl
       ·rw[if_neg (by simpa using k2),if_neg k2];by_cases k3:c.2.1=3
        ·rw[if_pos (beq_iff_eq.2 k3),if_pos k3,gP ⟨fun _=>i1,fun _=>n1,fun _=>i2,fun _=>n2,fun _=>i3,fun _=>n3,trivial⟩];have w1:Int.toNat (1:Int)=1:=rfl;have w2:Int.toNat (2:Int)=2:=rfl;have w3:Int.toNat (3:Int)=3:=rfl;rw[w1,w2,w3,q1',q2,q3'];cases clkN c.2.2.1.length (pinOf c)==1 <;> cases(c.2.2.2.2.1.length:Int)==0 <;> cases hasB c.2.2.2.1.length (arcOf c) 1 <;> cases hasB c.2.2.2.1.length (arcOf c) 2 <;> cases hasB c.2.2.2.1.length (arcOf c) 3 <;> rfl
        ·rw[if_neg (by grind),if_neg k3];rfl
   grind[nmB,decide,inB,trans,arcsB]
abbrev celOf(l:List Y92)(i:Nat):Y92:=l.getD i (dflt y92)
abbrev libOk(l:List Y92):Bool:=libB l.length (fun i=>cellOk isArcS (celOf l i)) (fun i=>(celOf l i).1)
theorem cell_name{c:Y92}(h:cellOk isArcS c=true):nmB c.1=true:=by
 grind[cellB,isArcS]
theorem r111(l:List Y92)(hw:wf (.sl y92) l)(hm:cnt (.sl y92) l<=1048576):u111 l=some (libOk l):=by
 have h:=hw.1;have hl:=cnt_len hm;have key:=lp_foldE (n:=l.length) h (fun i (s:List ByteArray)=>(s,(i:Int))) (gath fun i=>(celOf l i).1) (fun i=>!cellOk isArcS (celOf l i)) (some false) (fun i s=>s.length=i) (J:=u111J0 l) (F:=u111L1 l) (fun g i s hi hI=>by
  have e3:((i:Int)).toNat=i:=rfl;have hc:cnt y92 (celOf l i)<=1048576:=cnt_el hi hm;have hp:(celOf l i).2.2.1.length<=1048576:=cnt_len (cF (cS (cS hc)));have e1:=r134 (celOf l i) (wf_el hi hw) hp;have ha:=app_ok (b:=16) hi hl (by decide);refine(if_pos (by grind)).trans ?_;rw[e3,gP ⟨oo,trivial⟩,lE,e1,vS,gP ⟨rfl,trivial⟩,gP ⟨⟨by grind,by grind⟩,trivial⟩,gP ⟨oo,trivial⟩];rfl) (fun i s hi hI _=>by grind[gath,List.length_append]) (fun g s _=>aE) [] rfl
 refine key.trans ?_;rw[gath_row l (dflt y92) (fun c:Y92=>c.1)];have hn:wf (.sl .str) (l.map fun c:Y92=>c.1):=wf_map h fun x hx=>(hw.2 x hx).1;have e7:∀v:List ByteArray,wf (.sl .str) v->u111J0 l v=some (decide (l.length<=8)&&namesB v.length fun i=>v.getD i (dflt .str)):=fun v hv=>by
  have e8:decide ((l.length:Int)<=8)=decide (l.length<=8):=by rw[decide_eq_decide]; omega
  rw[u111J0,r135 _ hv,vS,gP ⟨fun _=>rfl,trivial⟩,e8]
 rw[e7 _ hn,names_map l (fun c:Y92=>c.1) (dflt y92)];show _=some (libB _ _ _);rw[<- lib_eq (fun i _ hc=>cell_name hc)];split <;> rfl
theorem r106(l:List Y92)(hw:wf (.sl y92) l):u106 l=some (libOk l):=by
 have h:=hw.1;have key:=lp_all (n:=l.length) h (fun i=>!cellOk isArcS (celOf l i)||dupB (fun i=>(celOf l i).1) i) (some false) (e:=u106J0 l ()) (F:=u106L1 l) (fun g i hi=>by
  have e3:((i:Int)).toNat=i:=rfl;have e1:=r130 (celOf l i) (wf_el hi hw);have inner:=lp_all (n:=i) (by omega) (fun k=>decide ((celOf l k).1=(celOf l i).1)) (some false) (e:=g ((i:Int)+1)) (F:=u106L3 l (i:Int) g) (fun g3 k hk=>all_el hk (by omega) ⟨oo,oo,trivial⟩) (fun g3=>by
   refine aE.trans ?_;exact gP ⟨oo,trivial⟩)
  refine(if_pos (by grind)).trans ?_;rw[e3,e1,vS,gP ⟨oo,rfl,trivial⟩,inner];unfold dupB
  grind) (fun g=>aE)
 refine key.trans ?_;show _=some (libB _ _ _);unfold libB u106J0;have e8:decide ((l.length:Int)<=8)=decide (l.length<=8):=by rw[decide_eq_decide]; omega
 rw[e8];cases(List.range l.length).any (fun i=>!cellOk isArcS (celOf l i)||dupB (fun i=>(celOf l i).1) i) <;> rfl
abbrev insOf(d:Y44)(i:Nat):Y94:=d.1.getD i (dflt y94)
abbrev prtOf(d:Y44)(i:Nat):Y149:=d.2.2.getD i (dflt y149)
abbrev pinsAt(l:List Y92)(x:Int):Nat:=(l.getD x.toNat (dflt y92)).2.2.1.length
abbrev designOk(l:List Y92)(d:Y44):Bool:=designB (libOk l) l.length (pinsAt l) d.1.length d.2.2.length d.2.1.length (insOf d) (prtOf d) (fun i=>d.2.1.getD i (dflt .str))
theorem r114(d:Y44)(hw:wf y44 d)(x:Int):u114 d x=some (inB x 0 ((d.2.1.length:Int)-1)):=by
 have h:=hw.2.1.1;have e:u138 d.2.1=some (d.2.1.length:Int):=rfl;unfold u114;rw[e]
 repeat rw[vS]
 rw[r117,vS,gP ⟨rfl,oo,rfl,trivial⟩]
theorem r113(d:Y44)(l:List Y92)(x:Y94)(hd:wf y44 d)(hl:wf (.sl y92) l)(hx:wf y94 x):u113 d l x=some (instB l.length (pinsAt l) d.2.1.length x):=by
 have h:=hl.1;have hn:=hx.2.2.1;have e:u136 l=some (l.length:Int):=rfl;have e1:∀y,u137 y d=some (!inB y 0 ((d.2.1.length:Int)-1)):=fun y=>by
  unfold u137;rw[r114 d hd,gP ⟨rfl,trivial⟩,vS]
 have h1:u140c137 x.2.2 d=_:=idx_some hn (fun i=>!inB (x.2.2.getD i 0) 0 ((d.2.1.length:Int)-1)) (fun g i hi=>idx_el hi hn (e1 _)) (fun g=>aE);have h2:u123c137 x.2.2 d=_:=has_some h1;rw[any_getD x.2.2 0 (fun y=>!inB y 0 ((d.2.1.length:Int)-1))] at h2;unfold u113;rw[e,h2]
 repeat rw[vS]
 rw[r117,vS,gP ⟨rfl,oo,rfl,fun hc=>by
  have:=inB_iff.1 hc.1;exact oo,fun _=>rfl,trivial⟩,all_any]
 rfl
theorem r112(d:Y44)(hw:wf y44 d)(hm:cnt y44 d<=1048576):u112 d=some (decide (d.1.length<=14)&&decide (d.2.1.length<=30)&&decide (d.2.2.length<=8)&&namesB d.1.length (fun i=>(insOf d i).1)&&namesB d.2.1.length (fun i=>d.2.1.getD i (dflt .str))&&namesB d.2.2.length (fun i=>(prtOf d i).1)):=by
 have hi0:=hw.1.1;have hp0:=hw.2.2.1;have hil:d.1.length<=1048576:=cnt_len (cF hm);have hpl:d.2.2.length<=1048576:=cnt_len (cS (cS hm));have key:=lF (n:=d.1.length) hi0 (fun i (s:List ByteArray)=>(s,(i:Int))) (gath fun i=>(insOf d i).1) (fun i s=>s.length=i) (J:=u112J0 d) (F:=u112L1 d) (fun g i s hi hI=>by
  have e3:((i:Int)).toNat=i:=rfl;have ha:=app_ok (b:=16) hi hil (by decide);refine(if_pos (by grind)).trans ?_;rw[e3,gP ⟨oo,trivial⟩,lE,gP ⟨⟨by grind,by grind⟩,trivial⟩,gP ⟨oo,trivial⟩];rfl) (fun i s hi hI=>by grind[gath,List.length_append]) (fun g s _=>aE) [] rfl
 refine key.trans ?_;rw[gath_row d.1 (dflt y94) (fun c:Y94=>c.1)];have hn1:wf (.sl .str) (d.1.map fun c:Y94=>c.1):=wf_map hi0 fun x hx=>(hw.1.2 x hx).1;have hn2:wf (.sl .str) (d.2.2.map fun c:Y149=>c.1):=wf_map hp0 fun x hx=>(hw.2.2.2 x hx).1;have e7:∀v:List ByteArray,wf (.sl .str) v->v.length=d.1.length->u112J0 d v=some (decide (d.1.length<=14)&&decide (d.2.1.length<=30)&&decide (d.2.2.length<=8)&&(namesB v.length fun i=>v.getD i (dflt .str))&&namesB d.2.1.length (fun i=>d.2.1.getD i (dflt .str))&&namesB d.2.2.length (fun i=>(prtOf d i).1)):=fun v hv hvl=>by
  rw[u112J0];have key2:=lF (n:=d.2.2.length) hp0 (fun i (s:List ByteArray)=>(s,(i:Int))) (gath fun i=>(prtOf d i).1) (fun i s=>s.length=i) (J:=u112J2 v d) (F:=u112L3 d v) (fun g i s hi hI=>by
   have e3:((i:Int)).toNat=i:=rfl;have ha:=app_ok (b:=16) hi hpl (by decide);refine(if_pos (by grind)).trans ?_;rw[e3,gP ⟨oo,trivial⟩,lE,gP ⟨⟨by grind,by grind⟩,trivial⟩,gP ⟨oo,trivial⟩];rfl) (fun i s hi hI=>by grind[gath,List.length_append]) (fun g s _=>aE) [] rfl
  refine key2.trans ?_;rw[gath_row d.2.2 (dflt y149) (fun c:Y149=>c.1)];have e9:∀z:List ByteArray,wf (.sl .str) z->z.length=d.2.2.length->u112J2 v d z=some (decide (d.1.length<=14)&&decide (d.2.1.length<=30)&&decide (d.2.2.length<=8)&&(namesB v.length fun i=>v.getD i (dflt .str))&&namesB d.2.1.length (fun i=>d.2.1.getD i (dflt .str))&&namesB z.length (fun i=>z.getD i (dflt .str))):=fun z hz hzl=>by
   have a1:decide ((v.length:Int)<=14)=decide (d.1.length<=14):=by rw[decide_eq_decide]; omega
   have a2:decide ((d.2.1.length:Int)<=30)=decide (d.2.1.length<=30):=by rw[decide_eq_decide]; omega
   have a3:decide ((z.length:Int)<=8)=decide (d.2.2.length<=8):=by rw[decide_eq_decide]; omega
   rw[u112J2,r135 _ hv,r135 _ hz,r135 _ hw.2.1,vS,vS,vS,gP ⟨fun _=>rfl,fun _=>rfl,fun _=>rfl,trivial⟩,a1,a2,a3]
  rw[e9 _ hn2 (List.length_map _),names_map d.2.2 (fun c:Y149=>c.1) (dflt y149)]
 rw[e7 _ hn1 (List.length_map _),names_map d.1 (fun c:Y94=>c.1) (dflt y94)]
end Go.Proofs.YtlfeppknkfknhaaGreatDoor
end

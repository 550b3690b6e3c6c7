/- Marks of rows of numbers, all told: printed by genmarkx.py. -/
import Derived.Test.YthobjlocnkienaaGreatDoorXK
import Derived.Test.YthobjlocnkienaaGreatDoorWA
import Derived.Test.YthobjlocnkienaaGreatDoorFn23c
import Derived.Test.YthobjlocnkienaaGreatDoorXF
section
namespace Go.Proofs.YthobjlocnkienaaGreatDoor
open Go Go.Proofs Go.Proofs.Sv Go.Proofs.Xv Go.RowKit
attribute [local irreducible] VS VO VQ VH FinS seqQ blkQ loopQ RunsOp RunsU
attribute [local simp] spl reps Value.cells
set_option maxHeartbeats 2000000 in
theorem x18:MkE Tryz.prog 18 (.int .i64) 1 mkI:=by
 intro K w u x k hU hS h0 hk
 obtain ⟨p,cap,rfl,b,o,ds,hp,hat,hl,hcl⟩:=hS.row
 have hsz:ds.length=x.length*1:=hl
 refine calls_vs Tryz.func18 Tryz.ntmps18 rfl rfl ?_
 refine vs_seq ?_
 refine vs_region ?_
 refine vo_pure rfl rfl ?_
 refine oN ?_
 refine nQ ?_
 refine vs_seq ?_
 refine vs_seq ?_
 refine vs_region ?_
 refine vo_pure rfl rfl ?_
 refine oN ?_
 refine nQ ?_
 refine vs_block ?_
 refine vs_loop (fun i:Nat=>(1,.int .i64 (k+((1*i:Nat):Int))) :: (5,.int .i64 (i:Int)) :: (0,.slice p x.length cap) :: []) (fun i w'=>i<=x.length/\WO K w w'/\(∀ j,UF w j->UF w' j)/\At w' b o (mks k (1*i)++ds.drop (1*i))) (fun i=>x.length - i) 0 ⟨Nat.zero_le _,WO.refl K w,fun _ h=>h,hat⟩ (by simp only [Nat.mul_zero,Int.natCast_zero,Int.add_zero]; ((repeat (refine sub_cons rfl ?_)); exact sub_nil)) ?_
 rintro i w1 ⟨hi,hm,hu,hat⟩
 refine vs_seq ?_
 refine vs_seq ?_
 refine vs_region ?_
 refine vo_pure rfl rfl ?_
 refine vo_pure rfl rfl ?_
 refine vo_val _ (runs_lenL rfl) rfl ?_
 refine vo_pure rfl rfl ?_
 refine oN ?_
 refine nQ ?_
 refine vs_cond rfl (fun hc=>?_) (fun hc=>?_)
 ·have hlt:i < x.length:=by simpa using hc
  obtain ⟨rfl,hK⟩:=hp (by omega)
  have hUb:=hU b hK
  refine vs_skip ?_
  refine nQ ?_
  refine vs_seq ?_
  refine vs_block ?_
  refine vs_seq ?_
  refine vs_region ?_
  refine vo_pure rfl rfl ?_
  refine vo_pure rfl rfl ?_
  refine vo_pure rfl rfl ?_
  refine vo_idxN rfl rfl hlt rfl ?_
  refine vo_storeK (j:=1*i+0) (k:=k) (ds:=ds) rfl rfl (by omega) (by omega) (by omega) hat (hu b hUb) ?_
  intro w2 hm2 hu2 hat
  replace hm:=hm.trans (hm2.up (fun j e=>by rw [e]; exact hK))
  replace hu:∀ j,UF w j->UF w2 j:=fun j h=>hu2 j (hu j h)
  refine oN ?_
  refine nQ ?_
  refine vs_region ?_
  refine vo_pure rfl rfl ?_
  refine vo_val _ (runs_add rfl rfl (by omega)) rfl ?_
  refine vo_pure rfl rfl ?_
  refine oN ?_
  refine fin_blk ?_
  refine nQ ?_
  refine vs_region ?_
  refine vo_pure rfl rfl ?_
  refine vo_val _ (runs_add rfl rfl (by omega)) rfl ?_
  refine vo_pure rfl rfl ?_
  refine oN ?_
  have he:k+((1*(i+1):Nat):Int)=k+((1*i:Nat):Int)+1:=by omega
  refine fin_loop (i+1) ⟨by omega,hm,hu,hat⟩ (by omega) (by rw [he,Int.natCast_succ]; ((repeat (refine sub_cons rfl ?_)); exact sub_nil))
 ·have hge:i=x.length:=by
   have:¬ i < x.length:=by simpa using hc
   omega
  subst hge
  refine vs_exit ?_
  refine fin_seq_exit ?_
  refine fin_loop_exit ?_
  refine fin_blk_exit rfl ?_
  refine nQ ?_
  refine vs_seq ?_
  refine vs_region ?_
  refine vo_pure rfl rfl ?_
  refine vo_pure rfl rfl ?_
  refine oN ?_
  refine nQ ?_
  refine vs_ret ?_
  refine fin_ret1 Tryz.results18 rfl ?_
  refine ⟨rfl,hm,hu,hcl _ _ (mkI_len _ _) (mks k (1*x.length)) ?_ (by rw [Nat.one_mul]; exact mkI_all _ _ h0 (by omega))⟩
  rw [List.drop_eq_nil_of_le (by omega),List.append_nil] at hat
  exact hat
end Go.Proofs.YthobjlocnkienaaGreatDoor
end
section
namespace Go.Proofs.YthobjlocnkienaaGreatDoor
open Go Go.Proofs Go.Proofs.Sv Go.Proofs.Xv Go.Proofs.Xl Go.RowKit
theorem cTo12 {p:Prop} {n m:Nat} {w:World} {cs:List Value} {x:Y32} {r:Y46} (f:Fa p n m w y32 cs x) (h:u12 x=some r):Calls Tryz.prog 12 #[.agg cs.toArray] w fun en w'=>∃ a b c d e,en=.returned (.agg #[a,b,c,d,e])/\Ext w w'/\Fa True w.heap.size w'.heap.size w' y46 [a,b,c,d,e] r:=by
 refine Calls.mono (ok_call o12 (fun _=>rfl) rfl (x:=(x,())) h ⟨_,_,rfl,f.arg,rfl,rfl⟩) ?_
 rintro _ w' ⟨v,rfl,hE,us,rfl,hr⟩
 obtain ⟨a,_,rfl,h0,hr⟩:=rrs_cons hr
 obtain ⟨b,_,rfl,h1,hr⟩:=rrs_cons hr
 obtain ⟨c,_,rfl,h2,hr⟩:=rrs_cons hr
 obtain ⟨d,_,rfl,h3,hr⟩:=rrs_cons hr
 obtain ⟨e,_,rfl,h4,hr⟩:=rrs_cons hr
 obtain ⟨rfl,_⟩:=hr
 exact ⟨a,b,c,d,e,rfl,hE,[a],[b,c,d,e],rfl,RT.up h0.1 (fun _ h=>h rfl),[b,c,d],[e],rfl,⟨[b],[c,d],rfl,RT.up h1.1 (fun _ h=>h rfl),[c],[d],rfl,RT.up h2.1 (fun _ h=>h rfl),RT.up h3.1 (fun _ h=>h rfl)⟩,RT.up h4.1 (fun _ h=>h rfl)⟩
end Go.Proofs.YthobjlocnkienaaGreatDoor
end
section
namespace Go.Proofs.YthobjlocnkienaaGreatDoor
open Go Go.Proofs Go.Proofs.Sv Go.Proofs.Xv Go.Proofs.Xl Go.RowKit
attribute [local irreducible] VS VO VQ VH FinS seqQ blkQ loopQ RunsOp RunsU
attribute [local simp] spl reps Value.cells
structure H6 (x0:Y32) (x1:List Int) (x2:Int) (l:List Int) (c:Int):Prop where
 ht1:u12 x0=some x0
 ht2:u13 x1=some x1
 hs3:u24 x0 x1 (x2:Int)=some (l,c)
 hs4:u25 x0 x1 (x2:Int)=some (l,c)
 he5:u15 l l=some true
 he6:u16 x0 x0=some true
 he7:u15 x1 x1=some true
 hk8:(1+(cntM y46 x0:Int))<=9223372036854775807
 hk9:((1+(cntM y46 x0:Int))+(cntM (.sl (.int .i64)) x1:Int))<=9223372036854775807
 hk10:(1+((1*l.length:Nat):Int))<=9223372036854775807
 hh11:u19 (mkI 1 l.length) (1:Int)=some (1+((1*l.length:Nat):Int))
def G6 (x0:Y32) (x1:List Int) (x2:Int):Prop:=∃ L0:Int,u10 x0 (1048576:Int)=some L0/\(0<=L0->x1.length<=1048576->∃ (l:List Int) (c:Int),H6 x0 x1 x2 l c)
set_option maxHeartbeats 4000000 in
theorem law6 {K:Nat->Prop} {w0:World} {cs0:List Value} {x0:Y32} (a0:RT K w0 y32 cs0 x0) {v1:Value} {x1:List Int} (a1:RT K w0 (.sl (.int .i64)) [v1] x1) {x2:Int} (a2:InI x2) (hg:G6 x0 x1 x2):Calls Tryz.prog 6 #[.agg cs0.toArray,v1,.int .i64 x2] w0 fun en w'=>en=.returned (.bool true)/\Ext w0 w':=by
 obtain ⟨L0,hz0,hG⟩:=hg
 obtain ⟨c0a,c0b,c0c,c0d,c0e,rfl⟩:=list5 (RT.len a0)
 have f1:=Fa.of a0
 obtain ⟨p1,q1,rfl,_⟩:=RT.row a1
 have f2:=Fa.of a1
 have hb:Ext w0 w0:=Ext.refl w0
 refine calls_vs Tryz.func6 Tryz.ntmps6 rfl rfl ?_
 refine ra ?_
 refine vo_box rfl rfl rfl ?_
 intro b3 w1 hN B3
 have i1:=hN.ext
 have e3:=hN.eq
 have s1:=hN.size
 have B3:Blk w1 b3 [c0a,c0b,c0c,c0d,c0e] 32:=B3
 refine pu ?_
 refine oN (nQ (vs_seq (ra ?_)))
 refine pu ?_
 refine vo_val _ (runs_lenL rfl) rfl ?_
 refine pu ?_
 refine oN (nQ (vs_cond rfl (fun hc=>?_) (fun hc=>?_)))
 ·refine ra ?_
  refine pu ?_
  refine oN (nQ (vs_ret ?_))
  (repeat refine fin_seq_ret ?_)
  refine fin_ret1 Tryz.results6 rfl ?_
  have hb:=hb.trans i1
  exact ⟨rfl,hb⟩
 have hl0:x1.length<=1048576:=by simp at hc; omega
 refine vs_skip (nQ (ra ?_))
 refine pu ?_
 refine rb ?_
 refine vo_loadA rfl B3 rfl rfl ?_
 refine pu ?_
 have f1:=f1.ext i1
 refine ci o10 (x:=(x0,(1048576:Int),())) hz0 ⟨_,_,rfl,f1.arg,⟨_,_,rfl,⟨rfl,by show lo .i64<=(1048576:Int); decide,by show (1048576:Int)<=hi .i64; decide⟩,⟨rfl,rfl⟩⟩⟩ fun w2 i2=>?_
 have s2:=i2.size
 refine pu ?_
 refine oN (nQ (vs_seq (ra ?_)))
 refine pu ?_
 refine pu ?_
 refine oN (nQ (vs_cond rfl (fun hc=>?_) (fun hc=>?_)))
 ·refine ra ?_
  refine pu ?_
  refine oN (nQ (vs_ret ?_))
  (repeat refine fin_seq_ret ?_)
  refine fin_ret1 Tryz.results6 rfl ?_
  have hb:=(hb.trans i1).trans i2
  exact ⟨rfl,hb⟩
 obtain ⟨l,c,⟨ht1,ht2,hs3,hs4,he5,he6,he7,hk8,hk9,hk10,hh11⟩⟩:=hG (by simpa using hc) hl0
 refine vs_skip (nQ (ra ?_))
 have B3:=B3.ext i2
 refine vo_loadA rfl B3 rfl rfl ?_
 have f1:=f1.ext i2
 refine vo_call rfl rfl (Calls.mono (cTo12 f1 ht1) ?_)
 rintro _ w3 ⟨d3a,d3b,d3c,d3d,d3e,rfl,i3,g3⟩
 refine ⟨_,rfl,?_⟩
 have s3:=i3.size
 have f3:=g3
 refine pu ?_
 have f2:=f2.ext (i1.trans (i2.trans i3))
 refine vo_call rfl rfl (Calls.mono (ok_call o13 (fun _=>rfl) rfl (x:=(x1,())) ht2 ⟨_,_,rfl,f2.arg,⟨rfl,rfl⟩⟩) ?_)
 rintro _ w4 ⟨v4,rfl,i4,hr⟩
 refine ⟨_,rfl,?_⟩
 have s4:=i4.size
 have hq:=rr_dat (t:=(.sl (.int .i64))) (x:=x1) (fr:=true) hr
 have f4:Fa True w3.heap.size w4.heap.size w4 (.sl (.int .i64)) [v4] x1:=RT.up hq (fun _ h=>h rfl)
 refine pu ?_
 have f3:=f3.ext i4
 refine vo_call rfl rfl (Calls.mono (ok_call o24 (fun _=>rfl) rfl (x:=(x0,x1,(x2:Int),())) hs3 ⟨_,_,rfl,f3.arg,⟨_,_,rfl,f4.arg,⟨_,_,rfl,⟨rfl,a2.1,a2.2⟩,⟨rfl,rfl⟩⟩⟩⟩) ?_)
 rintro _ w5 ⟨v,rfl,i5,hr⟩
 refine ⟨_,rfl,?_⟩
 have s5:=i5.size
 obtain ⟨u5,v5,rfl,hr1,hr2⟩:=rr_two hr
 obtain rfl:=rr_int hr2
 have hq:=rr_dat (t:=(.sl (.int .i64))) (x:=l) (fr:=true) hr1
 have f5:Fa True w4.heap.size w5.heap.size w5 (.sl (.int .i64)) [u5] l:=RT.up hq (fun _ h=>h rfl)
 refine pu ?_
 refine pu ?_
 refine pu ?_
 refine pu ?_
 refine pu ?_
 refine rb ?_
 have B3:=B3.ext (i3.trans (i4.trans i5))
 refine vo_loadA rfl B3 rfl rfl ?_
 have f1:=f1.ext (i3.trans (i4.trans i5))
 refine vo_call rfl rfl (Calls.mono (cTo12 f1 ht1) ?_)
 rintro _ w6 ⟨d6a,d6b,d6c,d6d,d6e,rfl,i6,g6⟩
 refine ⟨_,rfl,?_⟩
 have s6:=i6.size
 have f6:=g6
 refine vo_alloc rfl rfl ?_
 intro b10 w7 hN B10
 have i7:=hN.ext
 have e10:=hN.eq
 have s7:=hN.size
 have f6:=f6.ext i7
 refine vo_store (vs:=[d6a,d6b,d6c,d6d,d6e]) rfl rfl B10 rfl rfl (ones_of (RT.one f6)) rfl ?_
 intro w8 hR hN
 have i8:=wr_wo hR
 have s8:=hR.size
 have B10:Blk w8 b10 [d6a,d6b,d6c,d6d,d6e] 46:=hN
 refine rb ?_
 refine pu ?_
 have f2:=(f2.ext (i4.trans (i5.trans (i6.trans i7)))).wo i8 fun i h1 h2 h3=>by omega
 refine vo_call rfl rfl (Calls.mono (ok_call o13 (fun _=>rfl) rfl (x:=(x1,())) ht2 ⟨_,_,rfl,f2.arg,⟨rfl,rfl⟩⟩) ?_)
 rintro _ w9 ⟨v7,rfl,i9,hr⟩
 refine ⟨_,rfl,?_⟩
 have s9:=i9.size
 have hq:=rr_dat (t:=(.sl (.int .i64))) (x:=x1) (fr:=true) hr
 have f7:Fa True w8.heap.size w9.heap.size w9 (.sl (.int .i64)) [v7] x1:=RT.up hq (fun _ h=>h rfl)
 refine pu ?_
 refine rb ?_
 have B10:=B10.ext i9
 refine vo_loadA rfl B10 rfl rfl ?_
 refine pu ?_
 refine pu ?_
 have f6:=(f6.wo i8 fun i h1 h2 h3=>by omega).ext i9
 refine vo_call rfl rfl (Calls.mono (ok_call o25 (fun _=>rfl) rfl (x:=(x0,x1,(x2:Int),())) hs4 ⟨_,_,rfl,f6.arg,⟨_,_,rfl,f7.arg,⟨_,_,rfl,⟨rfl,a2.1,a2.2⟩,⟨rfl,rfl⟩⟩⟩⟩) ?_)
 rintro _ w10 ⟨v,rfl,i10,hr⟩
 refine ⟨_,rfl,?_⟩
 have s10:=i10.size
 obtain ⟨u8,v8,rfl,hr1,hr2⟩:=rr_two hr
 obtain rfl:=rr_int hr2
 have hq:=rr_dat (t:=(.sl (.int .i64))) (x:=l) (fr:=true) hr1
 have f8:Fa True w9.heap.size w10.heap.size w10 (.sl (.int .i64)) [u8] l:=RT.up hq (fun _ h=>h rfl)
 refine pu ?_
 refine pu ?_
 refine pu ?_
 refine pu ?_
 refine pu ?_
 refine oN (nQ (vs_seq (ra ?_)))
 refine pu ?_
 refine pu ?_
 have f5:=((f5.ext (i6.trans i7)).wo i8 fun i h1 h2 h3=>by omega).ext (i9.trans i10)
 refine cb o15 (x:=(l,l,())) he5 ⟨_,_,rfl,f8.arg,⟨_,_,rfl,f5.arg,⟨rfl,rfl⟩⟩⟩ fun w11 i11=>?_
 have s11:=i11.size
 refine pu ?_
 refine pu ?_
 refine vo_guard_take rfl rfl ?_
 refine pu ?_
 refine vo_guard_take rfl rfl ?_
 refine pu ?_
 refine vo_guard_take rfl rfl ?_
 refine pu ?_
 refine vo_isF (bne_self_eq_false _) ?_
 refine pu ?_
 refine oN (nQ (vs_cond_false rfl ?_))
 refine vs_skip (nQ (vs_seq (vs_seq ?_)))
 refine vs_held ?_
 intro w12 i12
 have s12:=i12.size
 have hS:=Ext.refl w12
 have B10:=B10.ext (i10.trans (i11.trans i12))
 have B3:=(blk_wo (B3.ext (i6.trans i7)) i8 fun h=>by omega).ext (i9.trans (i10.trans (i11.trans i12)))
 refine vh_take 0 rfl (fun _ hX=>runs_loadA rfl (lenIs_eq rfl) (B10.ext hX).at) rfl (by kernel_rfl) (by kernel_rfl) (by kernel_rfl) ?_
 refine vh_take 1 rfl (fun _ hX=>runs_loadA rfl (lenIs_eq rfl) (B3.ext hX).at) rfl (by kernel_rfl) (by kernel_rfl) (by kernel_rfl) ?_
 have f1:=((f1.ext (i6.trans i7)).wo i8 fun i h1 h2 h3=>by omega).ext (i9.trans (i10.trans (i11.trans i12)))
 refine vh_one 2 (by kernel_rfl) (vho_call rfl rfl rfl (Calls.mono (cTo12 f1 ht1) ?_)) hS
 rintro _ w13 ⟨d9a,d9b,d9c,d9d,d9e,rfl,i13,g9⟩
 refine ⟨_,rfl,?_⟩
 replace hS:=hS.trans i13
 have s13:=i13.size
 have f9:=g9
 have f6:=f6.ext (i10.trans (i11.trans (i12.trans i13)))
 refine vh_one 3 (by kernel_rfl) (vho_call rfl rfl rfl (Calls.mono (ok_call o16 (fun _=>rfl) rfl (x:=(x0,x0,())) he6 ⟨_,_,rfl,f6.arg,⟨_,_,rfl,f9.arg,⟨rfl,rfl⟩⟩⟩) ?_)) hS
 rintro _ w14 ⟨v,rfl,i14,hr⟩
 obtain rfl:=rr_bool hr
 refine ⟨_,rfl,?_⟩
 replace hS:=hS.trans i14
 have s14:=i14.size
 refine vh_only 4 rfl (by kernel_rfl) (runs_pure rfl) rfl ?_
 refine vh_done (by kernel_rfl) ?_ hS
 refine nQ (vs_cond_false rfl ?_)
 refine vs_skip (nQ (vs_seq (ra ?_)))
 refine pu ?_
 refine pu ?_
 have f2:=f2.ext (i9.trans (i10.trans (i11.trans (i12.trans (i13.trans i14)))))
 refine vo_call rfl rfl (Calls.mono (ok_call o13 (fun _=>rfl) rfl (x:=(x1,())) ht2 ⟨_,_,rfl,f2.arg,⟨rfl,rfl⟩⟩) ?_)
 rintro _ w15 ⟨v10,rfl,i15,hr⟩
 refine ⟨_,rfl,?_⟩
 have s15:=i15.size
 have hq:=rr_dat (t:=(.sl (.int .i64))) (x:=x1) (fr:=true) hr
 have f10:Fa True w14.heap.size w15.heap.size w15 (.sl (.int .i64)) [v10] x1:=RT.up hq (fun _ h=>h rfl)
 have f7:=f7.ext (i10.trans (i11.trans (i12.trans (i13.trans (i14.trans i15)))))
 refine cb o15 (x:=(x1,x1,())) he7 ⟨_,_,rfl,f7.arg,⟨_,_,rfl,f10.arg,⟨rfl,rfl⟩⟩⟩ fun w16 i16=>?_
 have s16:=i16.size
 refine pu ?_
 refine oN (nQ (vs_cond_false rfl ?_))
 refine vs_skip (nQ (ra ?_))
 refine pu ?_
 refine rb ?_
 have B10:=B10.ext (i13.trans (i14.trans (i15.trans i16)))
 refine vo_loadA rfl B10 rfl rfl ?_
 refine pu ?_
 have f6:=f6.ext (i14.trans (i15.trans i16))
 refine vo_call rfl rfl (Calls.mono (m17 (fun i=>w5.heap.size<=i/\i < w6.heap.size) _ _ _ _ (fun i hi=>by omega) (f6.sh rfl) (by omega) (by omega)) ?_)
 rintro _ w17 ⟨rfl,hM⟩
 refine ⟨_,rfl,?_⟩
 have i17:=hM.wo
 have s17:=i17.size
 refine pu ?_
 refine rb ?_
 refine pu ?_
 refine pu ?_
 have f7:=(f7.ext i16).wo i17 fun i h1 h2 h3=>by omega
 refine vo_call rfl rfl (Calls.mono (m18 (fun i=>w8.heap.size<=i/\i < w9.heap.size) _ _ _ _ (fun i hi=>by omega) (f7.sh rfl) (by omega) (by omega)) ?_)
 rintro _ w18 ⟨rfl,hM⟩
 refine ⟨_,rfl,?_⟩
 have i18:=hM.wo
 have s18:=i18.size
 refine pu ?_
 refine oN (nQ (vs_seq (ra ?_)))
 refine pu ?_
 refine pu ?_
 refine vo_isF (decide_eq_false (by omega)) ?_
 refine pu ?_
 refine vo_guard_take rfl rfl ?_
 refine pu ?_
 refine vo_guard_take rfl rfl ?_
 refine pu ?_
 refine vo_guard_take rfl rfl ?_
 have f8:=((f8.ext (i11.trans (i12.trans (i13.trans (i14.trans (i15.trans i16)))))).wo i17 fun i h1 h2 h3=>by omega).wo i18 fun i h1 h2 h3=>by omega
 have f5:=((f5.ext (i11.trans (i12.trans (i13.trans (i14.trans (i15.trans i16)))))).wo i17 fun i h1 h2 h3=>by omega).wo i18 fun i h1 h2 h3=>by omega
 refine cb o15 (x:=(l,l,())) he5 ⟨_,_,rfl,f8.arg,⟨_,_,rfl,f5.arg,⟨rfl,rfl⟩⟩⟩ fun w19 i19=>?_
 have s19:=i19.size
 refine vo_guard_take rfl rfl ?_
 refine pu ?_
 refine pu ?_
 refine pu ?_
 refine vo_guard_take rfl rfl ?_
 refine pu ?_
 refine vo_guard_take rfl rfl ?_
 refine pu ?_
 refine vo_guard_take rfl rfl ?_
 refine pu ?_
 refine vo_isF (bne_self_eq_false _) ?_
 refine pu ?_
 refine oN (nQ (vs_cond_false rfl ?_))
 refine vs_skip (nQ (ra ?_))
 refine pu ?_
 refine rb ?_
 refine pu ?_
 refine pu ?_
 have f8:=f8.ext i19
 refine vo_call rfl rfl (Calls.mono (Fa.mkE x18 f8 (by omega) (by omega)) ?_)
 rintro _ w20 ⟨rfl,i20,g19⟩
 refine ⟨_,rfl,?_⟩
 have s20:=i20.size
 have f8:=g19
 refine pu ?_
 refine rb ?_
 refine pu ?_
 refine rb ?_
 refine pu ?_
 refine pu ?_
 refine ci o19 (x:=((mkI 1 l.length),(1:Int),())) hh11 ⟨_,_,rfl,f8.arg,⟨_,_,rfl,⟨rfl,by show lo .i64<=(1:Int); decide,by show (1:Int)<=hi .i64; decide⟩,⟨rfl,rfl⟩⟩⟩ fun w21 i21=>?_
 have s21:=i21.size
 refine pu ?_
 refine oN (nQ (vs_seq (ra ?_)))
 refine pu ?_
 refine pu ?_
 refine vo_isF (decide_eq_false (by omega)) ?_
 refine oN (nQ (vs_cond_false rfl ?_))
 refine vs_skip (nQ (vs_seq (ra ?_)))
 refine pu ?_
 refine pu ?_
 refine pu ?_
 refine vo_isF (bne_self_eq_false _) ?_
 refine oN (nQ (vs_cond_false rfl ?_))
 refine vs_skip (nQ (ra ?_))
 have B3:=(blk_wo ((blk_wo (blk_wo (B3.ext (i13.trans (i14.trans (i15.trans i16)))) i17 fun h=>by omega) i18 fun h=>by omega).ext i19) i20 fun h=>by omega).ext i21
 refine vo_loadA rfl B3 rfl rfl ?_
 have f1:=(((((f1.ext (i13.trans (i14.trans (i15.trans i16)))).wo i17 fun i h1 h2 h3=>by omega).wo i18 fun i h1 h2 h3=>by omega).ext i19).wo i20 fun i h1 h2 h3=>by omega).ext i21
 refine vo_call rfl rfl (Calls.mono (cTo12 f1 ht1) ?_)
 rintro _ w22 ⟨d11a,d11b,d11c,d11d,d11e,rfl,i22,g11⟩
 refine ⟨_,rfl,?_⟩
 have s22:=i22.size
 have f11:=g11
 refine pu ?_
 have f2:=(((((f2.ext (i15.trans i16)).wo i17 fun i h1 h2 h3=>by omega).wo i18 fun i h1 h2 h3=>by omega).ext i19).wo i20 fun i h1 h2 h3=>by omega).ext (i21.trans i22)
 refine vo_call rfl rfl (Calls.mono (ok_call o13 (fun _=>rfl) rfl (x:=(x1,())) ht2 ⟨_,_,rfl,f2.arg,⟨rfl,rfl⟩⟩) ?_)
 rintro _ w23 ⟨v12,rfl,i23,hr⟩
 refine ⟨_,rfl,?_⟩
 have s23:=i23.size
 have hq:=rr_dat (t:=(.sl (.int .i64))) (x:=x1) (fr:=true) hr
 have f12:Fa True w22.heap.size w23.heap.size w23 (.sl (.int .i64)) [v12] x1:=RT.up hq (fun _ h=>h rfl)
 refine pu ?_
 have f11:=f11.ext i23
 refine vo_call rfl rfl (Calls.mono (ok_call o25 (fun _=>rfl) rfl (x:=(x0,x1,(x2:Int),())) hs4 ⟨_,_,rfl,f11.arg,⟨_,_,rfl,f12.arg,⟨_,_,rfl,⟨rfl,a2.1,a2.2⟩,⟨rfl,rfl⟩⟩⟩⟩) ?_)
 rintro _ w24 ⟨v,rfl,i24,hr⟩
 refine ⟨_,rfl,?_⟩
 have s24:=i24.size
 obtain ⟨u13,v13,rfl,hr1,hr2⟩:=rr_two hr
 obtain rfl:=rr_int hr2
 have hq:=rr_dat (t:=(.sl (.int .i64))) (x:=l) (fr:=true) hr1
 have f13:Fa True w23.heap.size w24.heap.size w24 (.sl (.int .i64)) [u13] l:=RT.up hq (fun _ h=>h rfl)
 refine pu ?_
 refine pu ?_
 refine pu ?_
 refine pu ?_
 refine pu ?_
 refine oN (nQ (vs_seq (ra ?_)))
 refine pu ?_
 refine pu ?_
 have f5:=((f5.ext i19).wo i20 fun i h1 h2 h3=>by omega).ext (i21.trans (i22.trans (i23.trans i24)))
 refine cb o15 (x:=(l,l,())) he5 ⟨_,_,rfl,f13.arg,⟨_,_,rfl,f5.arg,⟨rfl,rfl⟩⟩⟩ fun w25 i25=>?_
 have s25:=i25.size
 refine pu ?_
 refine pu ?_
 refine vo_guard_take rfl rfl ?_
 refine pu ?_
 refine vo_guard_take rfl rfl ?_
 refine pu ?_
 refine vo_guard_take rfl rfl ?_
 refine pu ?_
 refine vo_isF (bne_self_eq_false _) ?_
 refine pu ?_
 refine oN (nQ (vs_cond_false rfl ?_))
 refine vs_skip (nQ (ra ?_))
 refine pu ?_
 refine rb ?_
 refine pu ?_
 refine pu ?_
 have f8:=f8.ext (i21.trans (i22.trans (i23.trans (i24.trans i25))))
 refine ci o19 (x:=((mkI 1 l.length),(1:Int),())) hh11 ⟨_,_,rfl,f8.arg,⟨_,_,rfl,⟨rfl,by show lo .i64<=(1:Int); decide,by show (1:Int)<=hi .i64; decide⟩,⟨rfl,rfl⟩⟩⟩ fun w26 i26=>?_
 have s26:=i26.size
 refine pu ?_
 refine oN (nQ (vs_seq (ra ?_)))
 refine pu ?_
 refine pu ?_
 refine vo_isF (decide_eq_false (by omega)) ?_
 refine oN (nQ (vs_cond_false rfl ?_))
 refine vs_skip (nQ (vs_seq (ra ?_)))
 refine pu ?_
 refine pu ?_
 refine pu ?_
 refine vo_isF (bne_self_eq_false _) ?_
 refine oN (nQ (vs_cond_false rfl ?_))
 refine vs_skip (nQ (ra ?_))
 refine pu ?_
 refine oN (nQ (vs_ret ?_))
 (repeat refine fin_seq_ret ?_)
 refine fin_ret1 Tryz.results6 rfl ?_
 have hb:=((((((i20.ext ((i18.ext (i17.ext (((((((((i8.ext (((((((hb.trans i1).trans i2).trans i3).trans i4).trans i5).trans i6).trans i7) fun i h=>by omega).trans i9).trans i10).trans i11).trans i12).trans i13).trans i14).trans i15).trans i16) fun i h=>by omega) fun i h=>by omega).trans i19) fun i h=>by omega).trans i21).trans i22).trans i23).trans i24).trans i25).trans i26
 exact ⟨rfl,hb⟩
end Go.Proofs.YthobjlocnkienaaGreatDoor
end
section
namespace Go.Proofs.Xd
open Go Go.Proofs.Xv Go.Proofs.Xl
abbrev DTbl:=List Int×List Int×List Int
abbrev DArc:=Int×Int×Int×Int×List DTbl×List DTbl
abbrev DPin:=ByteArray×Int×Int×Bool
abbrev DInst:=ByteArray×Int×List Int
abbrev DPort:=ByteArray×Int×Int
abbrev DWire:=List Int×List Int×List Int×List Int
def inB (x l h:Int):Bool:=decide (l<=x)&&decide (x<=h)
theorem inB_iff {x l h:Int}:inB x l h=true↔l<=x/\x<=h:=by simp [inB]
def incB (xs:List Int):Bool:=!(List.range xs.length).any fun i=>decide (0 < i)&&decide (xs.getD i 0<=xs.getD (i - 1) 0)
def isAxis (xs:List Int):Bool:=decide (1<=xs.length)&&decide (xs.length<=4)&&xs.all (inB · 0 100000)&&incB xs
def isTable (t:DTbl):Bool:=isAxis t.1&&isAxis t.2.1&&decide (t.2.2.length=t.1.length*t.2.1.length)&&t.2.2.all (inB · (-1000000) 1000000)
theorem axis_len {xs:List Int} (h:isAxis xs=true):1<=xs.length/\xs.length<=4:=by
 simp only [isAxis,ba,dq] at h
 exact ⟨h.1.1.1,h.1.1.2⟩
theorem table_len {t:DTbl} (h:isTable t=true):1<=t.1.length/\t.1.length<=4/\1<=t.2.1.length/\t.2.1.length<=4/\t.2.2.length=t.1.length*t.2.1.length/\1<=t.2.2.length/\t.2.2.length<=16:=by
 simp only [isTable,ba,dq] at h
 obtain ⟨⟨⟨h1,h2⟩,h3⟩,_⟩:=h
 obtain ⟨a1,a2⟩:=axis_len h1
 obtain ⟨b1,b2⟩:=axis_len h2
 have c1:1*1<=t.1.length*t.2.1.length:=Nat.mul_le_mul a1 b1
 have c2:t.1.length*t.2.1.length<=4*4:=Nat.mul_le_mul a2 b2
 exact ⟨a1,a2,b1,b2,h3,by omega,by omega⟩
def minN (xs:List Int):Int:=fN (fun i m=>min m (xs.getD (i+1) 0)) (xs.length - 1) (xs.getD 0 0)
def areTables (l:List DTbl) (p:Bool):Bool:=decide (l.length=2)&&l.all fun t=>isTable t&&!(p&&decide (minN t.2.2 < 0))
theorem all_any {α:Type} (l:List α) (p:α->Bool):(!l.any fun x=>!p x)=l.all p:=by
 induction l with
 | nil=>rfl
 | cons a r ih=>simp only [List.any_cons,List.all_cons,Bool.not_or,Bool.not_not,ih]
end Go.Proofs.Xd
end
section
namespace Go.Proofs.Xd
open Go Go.Proofs.Sv Go.Proofs.Xv Go.Proofs.Xl
theorem nmTo_any (s:ByteArray):∀ n,nmTo s n=!(List.range n).any fun i=>!chB (byteAt s i) i
 | 0=>rfl
 | n+1=>by
   rw [nmTo,nmTo_any s n,List.range_succ,List.any_append,Bool.not_or]
   simp
def dupB (f:Nat->ByteArray) (i:Nat):Bool:=(List.range i).any fun k=>decide (f k=f i)
def namesB (n:Nat) (f:Nat->ByteArray):Bool:=!(List.range n).any fun i=>!nmB (f i)||dupB f i
theorem namesB_congr {n:Nat} {f g:Nat->ByteArray} (h:∀ i,i < n->f i=g i):namesB n f=namesB n g:=by
 unfold namesB
 congr 1
 refine any_congr' fun i hi=>?_
 rw [h i hi]
 congr 1
 unfold dupB
 refine any_congr' fun k hk=>?_
 rw [h i hi,h k (by omega)]
theorem take_any (l:List ByteArray) (d:ByteArray) (i:Nat) (h:i < l.length):((l.take i).any fun y=>decide (l.getD i d=y))=dupB (fun k=>l.getD k d) i:=by
 have hl:(l.take i).length=i:=by rw [List.length_take]; omega
 rw [<- any_getD (l.take i) d (fun y=>decide (l.getD i d=y)),hl]
 unfold dupB
 refine any_congr' fun k hk=>?_
 have:(l.take i).getD k d=l.getD k d:=by
  rw [gq,gq,List.getElem?_take_of_lt hk]
 rw [this,decide_eq_decide]
 exact eq_comm
theorem getD_map' {α β:Type} (f:α->β) (l:List α) (i:Nat) (d:α) (e:β) (h:i < l.length):(l.map f).getD i e=f (l.getD i d):=by
 rw [gq,gq,List.getElem?_map,List.getElem?_eq_getElem h]; rfl
theorem range_map {α β:Type} (l:List α) (d:α) (f:α->β):(List.range l.length).map (fun i=>f (l.getD i d))=l.map f:=by
 apply List.ext_getElem?
 intro i
 rw [List.getElem?_map,List.getElem?_map]
 by_cases h:i < l.length
 ·rw [List.getElem?_range h,List.getElem?_eq_getElem h]
  show some (f (l.getD i d))=some (f l[i])
  rw [gq,List.getElem?_eq_getElem h]; rfl
 ·rw [List.getElem?_eq_none (by simpa using h),List.getElem?_eq_none (by omega)]; rfl
def pinB (n:Nat) (q:DPin) (i:Nat):Bool:=inB q.2.2.1 0 500&&(if i+1=n then q.2.1==2&&q.2.2.1==0&&!q.2.2.2 else q.2.1==1)
def pinsOk (n:Nat) (p:Nat->DPin):Bool:=decide (2<=n)&&decide (n<=5)&&namesB n (fun i=>(p i).1)&&!(List.range n).any fun i=>!pinB n (p i) i
def clkN (n:Nat) (p:Nat->DPin):Int:=fN (fun i s=>if (p i).2.2.2=true then s+1 else s) n 0
def clkI (n:Nat) (p:Nat->DPin):Int:=match (List.range n).find? (fun i=>(p i).2.2.2) with | some i=>(i:Int) | none => -1
def dupA (a:Nat->DArc) (i:Nat):Bool:=(List.range i).any fun k=>(a k).1==(a i).1&&(a k).2.1==(a i).2.1&&(a k).2.2.1==(a i).2.2.1
def isArcS (n:Nat) (p:Nat->DPin) (a:DArc):Bool :=
 inB a.2.1 0 ((n:Int) - 1 - 1)&&inB a.2.2.1 0 ((n:Int) - 1) &&
 if a.1=1 then !(p a.2.1.toNat).2.2.2&&a.2.2.1==(n:Int) - 1&&inB a.2.2.2.1 1 3&&areTables a.2.2.2.2.1 true&&areTables a.2.2.2.2.2 true
 else if a.1=2∨a.1=3 then (p a.2.1.toNat).2.2.2&&a.2.2.1==(n:Int) - 1&&a.2.2.2.1==0&&areTables a.2.2.2.2.1 true&&areTables a.2.2.2.2.2 true
 else if a.1=4∨a.1=5 then (p a.2.1.toNat).2.2.2&&decide (a.2.2.1 < (n:Int) - 1)&&!(p a.2.2.1.toNat).2.2.2&&a.2.2.2.1==0&&areTables a.2.2.2.2.1 false&&(a.2.2.2.2.2.length:Int)==0
 else false
def isArcI (n:Nat) (p:Nat->DPin) (a:DArc):Bool :=
 if a.1=4∨a.1=5 then a.2.2.2.1==0&&(a.2.2.2.2.2.length:Int)==0&&areTables a.2.2.2.2.1 false&&a.2.1==clkI n p&&decide (0<=a.2.1)&&inB a.2.2.1 0 ((n:Int) - 1 - 1)&&a.2.2.1 != a.2.1
 else areTables a.2.2.2.2.1 true&&areTables a.2.2.2.2.2 true&&a.2.2.1==(n:Int) - 1&&inB a.2.1 0 ((n:Int) - 1 - 1) &&
  if a.1=1 then !(p a.2.1.toNat).2.2.2&&inB a.2.2.2.1 1 3
  else if a.1=2∨a.1=3 then (p a.2.1.toNat).2.2.2&&a.2.2.2.1==0
  else false
theorem clkN_le (p:Nat->DPin):∀ n,0<=clkN n p/\clkN n p<=n
 | 0=>⟨Int.le_refl _,Int.le_refl _⟩
 | n+1=>by
   have:=clkN_le p n
   unfold clkN at *
   rw [fN]
   split <;> omega
theorem clkN_one {p:Nat->DPin}:∀ {n i:Nat},i < n->(p i).2.2.2=true->1<=clkN n p
 | n+1,i,hi,h=>by
   have h0:=(clkN_le p n).1
   have ih:i < n->1<=clkN n p:=fun h'=>clkN_one h' h
   unfold clkN at *
   rw [fN]
   rcases Nat.lt_succ_iff_lt_or_eq.1 hi with h' | rfl
   ·have:=ih h'
    split <;> omega
   ·rw [if_pos h]; omega
theorem clkN_two {p:Nat->DPin}:∀ {n i j:Nat},i < j->j < n->(p i).2.2.2=true->(p j).2.2.2=true->2<=clkN n p
 | n+1,i,j,hij,hj,h,k=>by
   have ih:j < n->2<=clkN n p:=fun h'=>clkN_two hij h' h k
   have h1:i < n->1<=clkN n p:=fun h'=>clkN_one h' h
   unfold clkN at *
   rw [fN]
   rcases Nat.lt_succ_iff_lt_or_eq.1 hj with h' | rfl
   ·have:=ih h'
    split <;> omega
   ·have:=h1 hij
    rw [if_pos k]; omega
theorem clkI_eq {p:Nat->DPin} {n i:Nat} (hn:clkN n p<=1) (hi:i < n):(p i).2.2.2=decide (clkI n p=(i:Int)):=by
 unfold clkI
 cases h:(List.range n).find? (fun i=>(p i).2.2.2) with
 | none =>
   rw [List.find?_eq_none] at h
   have:=h i (List.mem_range.2 hi)
   rw [Bool.not_eq_true] at this
   rw [this]
   exact (decide_eq_false (by show ¬ (-1:Int)=i; omega)).symm
 | some j =>
   have h1:=List.find?_some h
   have h2:=List.mem_range.1 (List.mem_of_find?_eq_some h)
   show _=decide ((j:Int)=(i:Int))
   by_cases e:j=i
   ·subst e
    rw [decide_eq_true rfl]; exact h1
   ·rw [decide_eq_false (by omega),<- Bool.not_eq_true]
    intro hc
    rcases Nat.lt_or_gt_of_ne e with h' | h'
    ·have:=clkN_two (p:=p) h' hi h1 hc; omega
    ·have:=clkN_two (p:=p) h' h2 hc h1; omega
theorem clkI_lt {p:Nat->DPin} {n:Nat}:clkI n p < n:=by
 unfold clkI
 cases h:(List.range n).find? (fun i=>(p i).2.2.2) with
 | none=>show (-1:Int) < n; omega
 | some j =>
   have h2:=List.mem_range.1 (List.mem_of_find?_eq_some h)
   show (j:Int) < n; omega
theorem pins_last {p:Nat->DPin} {n:Nat} (h:pinsOk n p=true):2<=n/\n<=5/\(p (n - 1)).2.2.2=false:=by
 unfold pinsOk at h
 simp only [ba,dq] at h
 obtain ⟨⟨⟨h1,h2⟩,_⟩,h3⟩:=h
 have:=not_any.1 h3 (n - 1) (by omega)
 rw [Bool.not_eq_false'] at this
 unfold pinB at this
 rw [if_pos (by omega)] at this
 simp only [ba,Bool.not_eq_true'] at this
 exact ⟨h1,h2,this.2.2⟩
theorem arc_eq {p:Nat->DPin} {n:Nat} (h:pinsOk n p=true) (hc:clkN n p<=1) (a:DArc):isArcI n p a=isArcS n p a:=by
 obtain ⟨h2,h5,hl⟩:=pins_last h
 obtain ⟨kd,fr,to,se,de,sl⟩:=a
 rw [Bool.eq_iff_iff]
 unfold isArcI isArcS
 dsimp only
 have hcl:∀ x:Int,0<=x->x<=(n:Int) - 1->(p x.toNat).2.2.2=decide (clkI n p=x):=fun x h0 h1=>by
  rw [clkI_eq hc (by omega)]
  rw [decide_eq_decide]; omega
 have hlast:clkI n p≠(n:Int) - 1:=fun e=>by
  have:=hcl ((n:Int) - 1) (by omega) (by omega)
  have e2:((n:Int) - 1).toNat=n - 1:=by omega
  rw [e2,hl,decide_eq_true e] at this
  cases this
 have hlt:=clkI_lt (p:=p) (n:=n)
 by_cases k45:kd=4∨kd=5
 ·rw [if_pos k45,if_neg (by omega),if_neg (by omega),if_pos k45]
  simp only [ba,inB_iff,dq,beq_iff_eq,bne_iff_ne,Bool.not_eq_true']
  constructor
  ·rintro ⟨⟨⟨⟨⟨⟨a1,a2⟩,a3⟩,a4⟩,a5⟩,a6⟩,a7⟩
   have e1:=hcl fr a5 (by omega)
   have e2:=hcl to a6.1 (by omega)
   exact ⟨⟨⟨a5,by omega⟩,by omega,by omega⟩,⟨⟨⟨⟨⟨by rw [e1]; exact decide_eq_true a4.symm,by omega⟩,by rw [e2]; exact decide_eq_false (by omega)⟩,a1⟩,a3⟩,a2⟩⟩
  ·rintro ⟨⟨⟨a5,a6⟩,b1,b2⟩,⟨⟨⟨⟨⟨c1,c2⟩,c3⟩,c4⟩,c5⟩,c6⟩⟩
   rw [hcl fr a5 (by omega),dq] at c1
   rw [hcl to b1 (by omega),decide_eq_false_iff_not] at c3
   exact ⟨⟨⟨⟨⟨⟨c4,c6⟩,c5⟩,c1.symm⟩,a5⟩,b1,by omega⟩,by omega⟩
 ·rw [if_neg k45]
  by_cases k1:kd=1
  ·rw [if_pos k1,if_pos k1]
   simp only [ba,inB_iff,beq_iff_eq]
   constructor
   ·rintro ⟨⟨⟨⟨a1,a2⟩,a3⟩,a4⟩,a5,a6⟩
    exact ⟨⟨a4,by omega,by omega⟩,⟨⟨⟨a5,a3⟩,a6⟩,a1⟩,a2⟩
   ·rintro ⟨⟨a4,_⟩,⟨⟨⟨a5,a3⟩,a6⟩,a1⟩,a2⟩
    exact ⟨⟨⟨⟨a1,a2⟩,a3⟩,a4⟩,a5,a6⟩
  ·rw [if_neg k1,if_neg k1]
   by_cases k23:kd=2∨kd=3
   ·rw [if_pos k23,if_pos k23]
    simp only [ba,inB_iff,beq_iff_eq]
    constructor
    ·rintro ⟨⟨⟨⟨a1,a2⟩,a3⟩,a4⟩,a5,a6⟩
     exact ⟨⟨a4,by omega,by omega⟩,⟨⟨⟨a5,a3⟩,a6⟩,a1⟩,a2⟩
    ·rintro ⟨⟨a4,_⟩,⟨⟨⟨a5,a3⟩,a6⟩,a1⟩,a2⟩
     exact ⟨⟨⟨⟨a1,a2⟩,a3⟩,a4⟩,a5,a6⟩
   ·rw [if_neg k23,if_neg k23,if_neg k45,Bool.and_false,Bool.and_false]
def hasB (m:Nat) (a:Nat->DArc) (k:Int):Bool:=(List.range m).any fun i=>(a i).1==k
def kindB (k:Int) (n:Nat) (p:Nat->DPin) (m:Nat) (a:Nat->DArc) (tr:List Int):Bool :=
 if k=1 then clkN n p==0&&(tr.length:Int)==1*2 ^ (n - 1)&&tr.all (inB · 0 1)
 else if k=2 then clkN n p==1&&(tr.length:Int)==0&&!hasB m a 1&&!(hasB m a 2==hasB m a 3)
 else if k=3 then clkN n p==1&&(tr.length:Int)==0&&hasB m a 1&&hasB m a 2&&!hasB m a 3
 else false
theorem kind_clk {k:Int} {n:Nat} {p:Nat->DPin} {m:Nat} {a:Nat->DArc} {tr:List Int} (h:kindB k n p m a tr=true):clkN n p<=1:=by
 unfold kindB at h
 split at h
 ·simp only [ba,beq_iff_eq] at h; omega
 ·split at h
  ·simp only [ba,beq_iff_eq] at h; omega
  ·split at h
   ·simp only [ba,beq_iff_eq] at h; omega
   ·cases h
def arcsB (q:DArc->Bool) (m:Nat) (a:Nat->DArc):Bool:=decide (m<=8)&&!(List.range m).any fun i=>!q (a i)||dupA a i
def cellB (q:Nat->(Nat->DPin)->DArc->Bool) (nm:ByteArray) (k:Int) (n:Nat) (p:Nat->DPin) (m:Nat) (a:Nat->DArc) (tr:List Int) (lk en:Int):Bool :=
 nmB nm&&pinsOk n p&&arcsB (q n p) m a&&inB lk 0 100000&&inB en 0 100000&&kindB k n p m a tr
theorem cell_eq (nm:ByteArray) (k:Int) (n:Nat) (p:Nat->DPin) (m:Nat) (a:Nat->DArc) (tr:List Int) (lk en:Int):cellB isArcI nm k n p m a tr lk en=cellB isArcS nm k n p m a tr lk en:=by
 unfold cellB
 cases hp:pinsOk n p with
 | false=>simp
 | true =>
   cases hk:kindB k n p m a tr with
   | false=>simp
   | true =>
     have:isArcI n p=isArcS n p:=funext fun x=>arc_eq hp (kind_clk hk) x
     rw [this]
theorem take_anyG {α:Type} (l:List α) (d:α) (q:α->Bool) (i:Nat) (h:i<=l.length):(l.take i).any q=(List.range i).any fun k=>q (l.getD k d):=by
 have hl:(l.take i).length=i:=by rw [List.length_take]; omega
 rw [<- any_getD (l.take i) d q,hl]
 refine any_congr' fun k hk=>?_
 rw [gq,gq,List.getElem?_take_of_lt hk]
theorem arcS_kind {n:Nat} {p:Nat->DPin} {a:DArc} (h:isArcS n p a=true):1<=a.1/\a.1<=5:=by
 unfold isArcS at h
 rw [ba] at h
 obtain ⟨_,h⟩:=h
 split at h
 ·omega
 ·split at h
  ·omega
  ·split at h
   ·omega
   ·cases h
theorem pow_in {n:Nat} (h:n<=5) : -9223372036854775808<=(1:Int)*2 ^ (n - 1)/\(1:Int)*2 ^ (n - 1)<=9223372036854775807:=by
 have:∀ k:Fin 6,-9223372036854775808<=(1:Int)*2 ^ (k.val - 1)/\(1:Int)*2 ^ (k.val - 1)<=9223372036854775807:=by decide
 exact this ⟨n,by omega⟩
def cntK (a:Nat->DArc) (k:Int) (m:Nat):Int:=fN (fun i s=>if (a i).1=k then s+1 else s) m 0
theorem cntK_le (a:Nat->DArc) (k:Int):∀ m,0<=cntK a k m/\cntK a k m<=m
 | 0=>⟨Int.le_refl _,Int.le_refl _⟩
 | m+1=>by
   have:=cntK_le a k m
   unfold cntK at *
   rw [fN]
   split <;> omega
theorem cntK_has (a:Nat->DArc) (k:Int):∀ m,hasB m a k=decide (0 < cntK a k m)
 | 0=>rfl
 | m+1=>by
   have ih:=cntK_has a k m
   have h0:=(cntK_le a k m).1
   unfold hasB cntK at *
   rw [List.range_succ,List.any_append,ih,fN]
   simp only [List.any_cons,List.any_nil,Bool.or_false]
   by_cases h:(a m).1=k
   ·rw [if_pos h,beq_iff_eq.2 h,Bool.or_true]
    exact (decide_eq_true (by omega)).symm
   ·rw [if_neg h,beq_eq_false_iff_ne.2 h,Bool.or_false]
def kindsF (a:Nat->DArc) (i:Nat) (v:List Int):List Int:=v.set (a i).1.toNat (v.getD (a i).1.toNat 0+1)
theorem kinds_fold (a:Nat->DArc):∀ m,(∀ i,i < m->1<=(a i).1/\(a i).1<=5)->(fN (kindsF a) m (List.replicate 6 0)).length=6/\∀ k:Nat,k < 6->(fN (kindsF a) m (List.replicate 6 0)).getD k 0=cntK a k m
 | 0,_=>⟨by simp [fN],fun k hk=>by
   have:∀ k:Fin 6,(List.replicate 6 (0:Int)).getD k.val 0=0:=by decide
   exact this ⟨k,hk⟩⟩
 | m+1,h=>by
   obtain ⟨h1,h2⟩:=kinds_fold a m (fun i hi=>h i (by omega))
   obtain ⟨h3,h4⟩:=h m (by omega)
   rw [fN]
   unfold kindsF at *
   refine ⟨by rw [List.length_set]; exact h1,fun k hk=>?_⟩
   have e:cntK a k (m+1)=if (a m).1=k then cntK a k m+1 else cntK a k m:=by unfold cntK; rw [fN]
   rw [e,gq,List.getElem?_set]
   by_cases hk':(a m).1.toNat=k
   ·rw [if_pos hk',if_pos (by rw [h1]; omega),if_pos (by omega)]
    rw [Option.getD_some,hk',h2 k hk]
   ·rw [if_neg hk',if_neg (by omega),<- gq,h2 k hk]
def incAt (v:List Int) (x:Int):List Int:=v.set x.toNat (v.getD x.toNat 0+1)
def lowAt (v:List Int) (n b:Nat):Prop:=v.length=n/\∀ k:Nat,0<=v.getD k 0/\v.getD k 0<=(b:Int)
theorem lowAt_rep (n b:Nat):lowAt (List.replicate n 0) n b:=by
 refine ⟨List.length_replicate,fun k=>?_⟩
 rw [gq,List.getElem?_replicate]
 split <;> (show (0:Int)<=0/\(0:Int)<=b; omega)
theorem lowAt_inc {v:List Int} {n b:Nat} (h:lowAt v n b) (x:Int):lowAt (incAt v x) n (b+1):=by
 refine ⟨by unfold incAt; rw [List.length_set]; exact h.1,fun k=>?_⟩
 have hx:=h.2 x.toNat
 have hk:=h.2 k
 unfold incAt
 rw [gq,List.getElem?_set]
 by_cases e:x.toNat=k
 ·rw [if_pos e]
  split
  ·rw [Option.getD_some]; omega
  ·show (0:Int)<=0/\(0:Int)<=_; omega
 ·rw [if_neg e,<- gq]; omega
theorem lowAt_up {v:List Int} {n b b':Nat} (h:lowAt v n b) (hb:b<=b'):lowAt v n b':=⟨h.1,fun k=>by have:=h.2 k; omega⟩
theorem lowAt_ix {v:List Int} {n b:Nat} (h:lowAt v n b) {x:Int} (hx:inB x 0 ((n:Int) - 1)=true):ix x v.length/\x.toNat < v.length:=by
 rw [inB_iff] at hx
 rw [ix,h.1]
 omega
def libB (n:Nat) (ok:Nat->Bool) (nm:Nat->ByteArray):Bool:=!((List.range n).any fun i=>!ok i||dupB nm i)&&decide (n<=8)
theorem lib_eq {n:Nat} {ok:Nat->Bool} {nm:Nat->ByteArray} (h:∀ i,i < n->ok i=true->nmB (nm i)=true):(if ((List.range n).any fun i=>!ok i)=true then false else decide (n<=8)&&namesB n nm)=libB n ok nm:=by
 unfold libB namesB
 have e:((List.range n).any fun i=>!ok i||dupB nm i)=(((List.range n).any fun i=>!ok i)||(List.range n).any fun i=>dupB nm i):=any_or _ _
 rw [e]
 cases ha:(List.range n).any fun i=>!ok i with
 | true=>rfl
 | false =>
   have hall:=(not_any (n:=n) (c:=fun i=>!ok i)).1 (by rw [ha]; rfl)
   have:((List.range n).any fun i=>!nmB (nm i)||dupB nm i)=(List.range n).any fun i=>dupB nm i:=any_congr' fun i hi=>by
    have:=hall i hi
    rw [Bool.not_eq_false'] at this
    rw [h i hi this]; rfl
   rw [this,if_neg (by simp),Bool.false_or,Bool.and_comm]
def instB (nc:Nat) (pins:Int->Nat) (nn:Nat) (x:DInst):Bool:=inB x.2.1 0 ((nc:Int) - 1)&&(x.2.2.length:Int)==(pins x.2.1:Int)&&x.2.2.all fun y=>inB y 0 ((nn:Int) - 1)
def portB (nn:Nat) (x:DPort):Bool:=inB x.2.1 1 2&&inB x.2.2 0 ((nn:Int) - 1)
def instF (x:Nat->DInst) (i:Nat) (v:List Int):List Int:=incAt v ((x i).2.2.getD ((x i).2.2.length - 1) 0)
def portF (x:Nat->DPort) (i:Nat) (v:List Int):List Int:=if (x i).2.1=1 then incAt v (x i).2.2 else v
def driveN (ni np nn:Nat) (x:Nat->DInst) (y:Nat->DPort):List Int:=fN (portF y) np (fN (instF x) ni (List.replicate nn 0))
theorem instF_low (x:Nat->DInst) (nn:Nat):∀ i,lowAt (fN (instF x) i (List.replicate nn 0)) nn i
 | 0=>lowAt_rep nn 0
 | i+1=>lowAt_inc (instF_low x nn i) _
def designB (lib:Bool) (nc:Nat) (pins:Int->Nat) (ni np nn:Nat) (x:Nat->DInst) (y:Nat->DPort) (nets:Nat->ByteArray):Bool :=
 lib&&decide (ni<=14)&&decide (nn<=30)&&decide (np<=8)&&namesB ni (fun i=>(x i).1)&&namesB nn nets&&namesB np (fun i=>(y i).1) &&
  !((List.range ni).any fun i=>!instB nc pins nn (x i))&&!((List.range np).any fun i=>!portB nn (y i))&&(driveN ni np nn x y).all (·==1)
def wireB (w:DWire) (n:Int):Bool :=
 decide (1<=w.1.length)&&decide (w.1.length<=8)&&decide (w.2.1.length=w.1.length)&&decide (w.2.2.1.length=w.1.length)&&(w.2.2.2.length:Int)==n &&
  w.2.1.all (inB · 0 1000)&&w.2.2.1.all (inB · 0 500)&&w.2.2.2.all (inB · 0 ((w.1.length:Int) - 1)) &&
  !(List.range w.1.length).any fun i=>(i==0&&(w.1.getD i 0 != -1||w.2.1.getD 0 0 != 0))||(decide (0 < i)&&!inB (w.1.getD i 0) 0 ((i:Int) - 1))
abbrev DPlace:=Int×Int×Int×Bool
def instP (x:DInst) (i:Int) (k:Nat) (s:List DPlace):List DPlace:=s++[(i,(k:Int),x.2.2.getD k 0,(k:Int)==(x.2.2.length:Int) - 1)]
def portP (y:Nat->DPort) (i:Nat) (s:List DPlace):List DPlace:=s++[(-1,(i:Int),(y i).2.2,(y i).2.1==1)]
def placesF (x:Nat->DInst) (i:Nat) (s:List DPlace):List DPlace:=fN (instP (x i) i) (x i).2.2.length s
def placesN (ni np:Nat) (x:Nat->DInst) (y:Nat->DPort):List DPlace:=fN (portP y) np (fN (placesF x) ni [])
theorem instP_len (x:DInst) (i:Int) (s:List DPlace):∀ k,(fN (instP x i) k s).length=s.length+k
 | 0=>rfl
 | k+1=>by
   rw [fN,instP,List.length_append,instP_len x i s k]; rfl
theorem portP_len (y:Nat->DPort) (s:List DPlace):∀ k,(fN (portP y) k s).length=s.length+k
 | 0=>rfl
 | k+1=>by
   rw [fN,portP,List.length_append,portP_len y s k]; rfl
def sinkF (pl:Nat->DPlace) (i:Nat) (v:List Int):List Int:=if (pl i).2.2.2=false then incAt v (pl i).2.2.1 else v
def cntP (pl:Nat->DPlace) (t:Int) (m:Nat):Int:=fN (fun i s=>if ((pl i).2.2.1==t&&!(pl i).2.2.2)=true then s+1 else s) m 0
theorem cntP_le (pl:Nat->DPlace) (t:Int):∀ m,0<=cntP pl t m/\cntP pl t m<=m
 | 0=>⟨Int.le_refl _,Int.le_refl _⟩
 | m+1=>by
   have:=cntP_le pl t m
   unfold cntP at *
   rw [fN]
   split <;> omega
theorem sink_fold (pl:Nat->DPlace) (n:Nat):∀ m,(∀ i,i < m->inB (pl i).2.2.1 0 ((n:Int) - 1)=true)->(fN (sinkF pl) m (List.replicate n 0)).length=n/\∀ k:Nat,k < n->(fN (sinkF pl) m (List.replicate n 0)).getD k 0=cntP pl k m
 | 0,_=>⟨by simp [fN],fun k hk=>by
   show (List.replicate n (0:Int)).getD k 0=0
   rw [gq,List.getElem?_replicate,if_pos hk]; rfl⟩
 | m+1,h=>by
   obtain ⟨h1,h2⟩:=sink_fold pl n m (fun i hi=>h i (by omega))
   have h3:=inB_iff.1 (h m (by omega))
   rw [fN]
   generalize fN (sinkF pl) m (List.replicate n 0)=v at *
   unfold sinkF
   have e:∀ k:Nat,cntP pl k (m+1)=if ((pl m).2.2.1==(k:Int)&&!(pl m).2.2.2)=true then cntP pl k m+1 else cntP pl k m:=fun k=>by unfold cntP; rw [fN]
   cases hd:(pl m).2.2.2 with
   | true =>
     refine ⟨by rw [if_neg (by simp)]; exact h1,fun k hk=>?_⟩
     rw [if_neg (by simp),h2 k hk,e,hd,if_neg (by simp)]
   | false =>
     rw [if_pos rfl]
     unfold incAt
     refine ⟨by rw [List.length_set]; exact h1,fun k hk=>?_⟩
     rw [e,hd,gq,List.getElem?_set]
     by_cases hk':(pl m).2.2.1.toNat=k
     ·rw [if_pos hk',if_pos (by rw [h1]; omega),if_pos (by simp; omega),Option.getD_some,hk',h2 k hk]
     ·rw [if_neg hk',if_neg (by simp; omega),<- gq,h2 k hk]
def sinkL (pl:Nat->DPlace) (t:Int) (i:Nat) (s:List Int):List Int:=if ((pl i).2.2.1==t&&!(pl i).2.2.2)=true then s++[(i:Int)] else s
theorem sinkL_len (pl:Nat->DPlace) (t:Int):∀ m,((fN (sinkL pl t) m []).length:Int)=cntP pl t m
 | 0=>rfl
 | m+1=>by
   have:=sinkL_len pl t m
   rw [fN]
   unfold cntP at *
   rw [fN]
   unfold sinkL at *
   split
   ·rw [List.length_append]
    show ((_+1:Nat):Int)=_
    omega
   ·exact this
def netsIn (n:Nat) (s:List DPlace):Prop:=∀ p∈s,inB p.2.2.1 0 ((n:Int) - 1)=true
theorem instP_in {n:Nat} {x:DInst} {i:Int} (hx:∀ k,k < x.2.2.length->inB (x.2.2.getD k 0) 0 ((n:Int) - 1)=true) {s:List DPlace} (hs:netsIn n s):∀ k,k<=x.2.2.length->netsIn n (fN (instP x i) k s)
 | 0,_=>hs
 | k+1,hk=>by
   rw [fN,instP]
   intro p hp
   rcases List.mem_append.1 hp with h | h
   ·exact instP_in hx hs k (by omega) p h
   ·cases List.mem_singleton.1 h
    exact hx k (by omega)
theorem placesF_in {n:Nat} {x:Nat->DInst} {ni:Nat} (hx:∀ i,i < ni->∀ k,k < (x i).2.2.length->inB ((x i).2.2.getD k 0) 0 ((n:Int) - 1)=true):∀ i,i<=ni->netsIn n (fN (placesF x) i [])
 | 0,_=>fun p hp=>by cases hp
 | i+1,hi=>by
   rw [fN,placesF]
   exact instP_in (hx i (by omega)) (placesF_in hx i (by omega)) _ (Nat.le_refl _)
theorem portP_in {n:Nat} {y:Nat->DPort} {np:Nat} (hy:∀ i,i < np->inB (y i).2.2 0 ((n:Int) - 1)=true) {s:List DPlace} (hs:netsIn n s):∀ k,k<=np->netsIn n (fN (portP y) k s)
 | 0,_=>hs
 | k+1,hk=>by
   rw [fN,portP]
   intro p hp
   rcases List.mem_append.1 hp with h | h
   ·exact portP_in hy hs k (by omega) p h
   ·cases List.mem_singleton.1 h
    exact hy k (by omega)
theorem placesF_len {x:Nat->DInst} {ni:Nat} (hx:∀ i,i < ni->(x i).2.2.length<=5):∀ i,i<=ni->(fN (placesF x) i []).length<=5*i
 | 0,_=>Nat.le_refl _
 | i+1,hi=>by
   rw [fN,placesF,instP_len]
   have:=placesF_len hx i (by omega)
   have:=hx i (by omega)
   omega
theorem getD_mem {α:Type} {l:List α} {i:Nat} {d:α} (h:i < l.length):l.getD i d∈l:=by
 rw [gq,List.getElem?_eq_getElem h]
 exact List.getElem_mem h
theorem all_getD {l:List Int} {p:Int->Bool} (h:l.all p=true) {i:Nat} (hi:i < l.length):p (l.getD i 0)=true:=List.all_eq_true.1 h _ (getD_mem hi)
structure DesignFacts (nc:Nat) (pins:Int->Nat) (ni np nn:Nat) (x:Nat->DInst) (y:Nat->DPort):Prop where
 ni14:ni<=14
 np8:np<=8
 nn30:nn<=30
 inst:∀ i,i < ni->instB nc pins nn (x i)=true
 port:∀ i,i < np->portB nn (y i)=true
theorem design_facts {lib:Bool} {nc:Nat} {pins:Int->Nat} {ni np nn:Nat} {x:Nat->DInst} {y:Nat->DPort} {nets:Nat->ByteArray} (h:designB lib nc pins ni np nn x y nets=true):lib=true/\DesignFacts nc pins ni np nn x y:=by
 unfold designB at h
 simp only [ba,dq] at h
 obtain ⟨⟨⟨⟨⟨⟨⟨⟨⟨c1,c2⟩,c3⟩,c4⟩,_⟩,_⟩,_⟩,c5⟩,c6⟩,_⟩:=h
 refine ⟨c1,c2,c4,c3,fun i hi=>?_,fun i hi=>?_⟩
 ·have:=not_any.1 c5 i hi
  rwa [Bool.not_eq_false'] at this
 ·have:=not_any.1 c6 i hi
  rwa [Bool.not_eq_false'] at this
theorem DesignFacts.net {nc:Nat} {pins:Int->Nat} {ni np nn:Nat} {x:Nat->DInst} {y:Nat->DPort} (h:DesignFacts nc pins ni np nn x y):(∀ i,i < ni->∀ k,k < (x i).2.2.length->inB ((x i).2.2.getD k 0) 0 ((nn:Int) - 1)=true)/\∀ i,i < np->inB (y i).2.2 0 ((nn:Int) - 1)=true:=by
 refine ⟨fun i hi k hk=>?_,fun i hi=>?_⟩
 ·have:=h.inst i hi
  unfold instB at this
  rw [ba] at this
  exact all_getD (p:=fun y=>inB y 0 ((nn:Int) - 1)) this.2 hk
 ·have:=h.port i hi
  unfold portB at this
  rw [ba] at this
  exact this.2
end Go.Proofs.Xd
end

/- Laws of sizes, copies and comparisons: printed by program. -/
import Derived.Test.YtechodbafnmddaaGreatDoorF95c
import Derived.Test.YtechodbafnmddaaGreatDoorXF
section
namespace Go.Proofs.YtechodbafnmddaaGreatDoor
open Go Go.Proofs Go.Proofs.Xv Go.Proofs.Xl Go.Proofs.Xd
theorem z0s{e:Ty}{a:List (c7 e)}(h:∀x,h9 e x=0):h9 (.sl e) a=a.length+0:=by
 have:a.map (h9 e)=a.map (fun _=>0):=List.map_congr_left (fun x _=>h x);show a.length+(a.map (h9 e)).sum=_;rw[this];congr 1
 induction a with
 | nil=>rfl
 | cons x r b=>simp only[List.map_cons,List.sum_cons,Nat.zero_add]; exact b (List.map_congr_left (fun x _=>h x))
theorem Fh(a:List Int)(l:Int)(b:wf (.sl (.int .i64)) a)(h:0<=l)(m:l<=9223372036854775807):P0 a l=some (u6 (h9 (.sl (.int .i64)) a) l):=by
 unfold P0;have e:h9 (.sl (.int .i64)) a=a.length+0:=r0B;rw[e];exact Gn b.1 h m fun H=>AE H
theorem z82(a:Ce)(l:Int)(b:wf y146 a)(h:0<=l)(m:l<=9223372036854775807):Lt a l=some (u6 (h9 y146 a) l):=by
 unfold Lt;have e:h9 y146 a=h9 (.sl (.int .i64)) a.1+(h9 (.sl (.int .i64)) a.2.1+(h9 (.sl (.int .i64)) a.2.2.1+(h9 (.sl (.int .i64)) a.2.2.2+0))):=by
  first | rfl | (simp only[Ba,CA,CB,BE] <;> omega)
 rw[e];refine Q5 (Fh _ _ b.1 h m) (fun v f r=>?_) h;have d:=Int.le_trans r m;refine Q5 (Fh _ _ b.2.1 f d) (fun s c k=>?_) f;have g:=Int.le_trans k d;refine Q5 (Fh _ _ b.2.2.1 c g) (fun u j o=>?_) c;have i:=Int.le_trans o g;refine Q5 (Fh _ _ b.2.2.2 j i) (fun w q n=>?_) j;have t:=Int.le_trans n i;exact AE q
theorem z37(a:List Ce)(l:Int)(b:wf (.sl y146) a)(h:0<=l)(m:l<=9223372036854775807):Lu a l=some (u6 (h9 (.sl y146) a) l):=by
 unfold Lu;rw[CC];refine Gp (d:=a6 y146) (c:=h9 y146) b.1 h m (fun g v i hi e f=>?_) (fun g v i hi=>Gq hi);exact HZ (z82 _ _ (N2 hi b) e f) hi b.1
theorem O0v(a:Cf)(l:Int)(c:wf y221 a)(h:0<=l)(m:l<=9223372036854775807):Lv a l=some (u6 (h9 y221 a) l):=by
 unfold Lv;have e:h9 y221 a=a.1.size+0:=by
  first | rfl | (simp only[Ba,CA,CB,BE] <;> omega)
 rw[e];refine Gn c.1 h m (fun b=>?_);have d:(l-(a.1.size:Int))<=9223372036854775807:=by omega
 exact AE b
theorem z81(a:List Cf)(l:Int)(b:wf (.sl y221) a)(h:0<=l)(m:l<=9223372036854775807):Lw a l=some (u6 (h9 (.sl y221) a) l):=by
 unfold Lw;rw[CC];refine Gp (d:=a6 y221) (c:=h9 y221) b.1 h m (fun g v i hi e f=>?_) (fun g v i hi=>Gq hi);exact HZ (O0v _ _ (N2 hi b) e f) hi b.1
theorem z80(a:List ByteArray)(l:Int)(b:wf (.sl .str) a)(h:0<=l)(m:l<=9223372036854775807):Lx a l=some (u6 (h9 (.sl .str) a) l):=by
 unfold Lx;rw[CC];refine Gp (d:=a6 .str) (c:=h9 .str) b.1 h m (fun g v i hi e j=>?_) (fun g v i hi=>Gq hi);have f:=N2 (d:=a6 .str) hi b;rw[BE];exact L0h hi b.1 f e j
theorem O0w(a:Cg)(l:Int)(d:wf y218 a)(h:0<=l)(m:l<=9223372036854775807):Ly a l=some (u6 (h9 y218 a) l):=by
 unfold Ly;have e:h9 y218 a=a.1.size+(h9 (.sl (.int .i64)) a.2.2+0):=by
  first | rfl | (simp only[Ba,CA,CB,BE] <;> omega)
 rw[e];refine Gn d.1 h m (fun c=>?_);have b:(l-(a.1.size:Int))<=9223372036854775807:=by omega
 refine Q5 (Fh _ _ d.2.2 c b) (fun j f g=>?_) c;have i:=Int.le_trans g b;exact AE f
theorem z79(a:List Cg)(l:Int)(b:wf (.sl y218) a)(h:0<=l)(m:l<=9223372036854775807):Lz a l=some (u6 (h9 (.sl y218) a) l):=by
 unfold Lz;rw[CC];refine Gp (d:=a6 y218) (c:=h9 y218) b.1 h m (fun g v i hi e f=>?_) (fun g v i hi=>Gq hi);exact HZ (O0w _ _ (N2 hi b) e f) hi b.1
theorem z36(a:LB)(l:Int)(b:wf Ch a)(h:0<=l)(m:l<=9223372036854775807):LA a l=some (u6 (h9 Ch a) l):=by
 unfold LA;have e:h9 Ch a=h9 (.sl y218) a.1+(h9 (.sl .str) a.2.1+(h9 (.sl y221) a.2.2+0)):=by
  first | rfl | (simp only[Ba,CA,CB,BE] <;> omega)
 rw[e];refine Q5 (z79 _ _ b.1 h m) (fun s f n=>?_) h;have d:=Int.le_trans n m;refine Q5 (z80 _ _ b.2.1 f d) (fun o c i=>?_) f;have g:=Int.le_trans i d;refine Q5 (z81 _ _ b.2.2 c g) (fun q k j=>?_) c;have r:=Int.le_trans j g;exact AE k
theorem O0q(a:Bw)(l:Int)(b:wf y342 a)(h:0<=l)(m:l<=9223372036854775807):LC a l=some (u6 (h9 y342 a) l):=by
 unfold LC;have e:h9 y342 a=h9 (.sl (.int .i64)) a.1+(h9 (.sl (.int .i64)) a.2.1+(h9 (.sl (.int .i64)) a.2.2+0)):=by
  first | rfl | (simp only[Ba,CA,CB,BE] <;> omega)
 rw[e];refine Q5 (Fh _ _ b.1 h m) (fun s f n=>?_) h;have d:=Int.le_trans n m;refine Q5 (Fh _ _ b.2.1 f d) (fun o c i=>?_) f;have g:=Int.le_trans i d;refine Q5 (Fh _ _ b.2.2 c g) (fun q k j=>?_) c;have r:=Int.le_trans j g;exact AE k
theorem M0u(a:List Bw)(l:Int)(b:wf (.sl y342) a)(h:0<=l)(m:l<=9223372036854775807):Hk a l=some (u6 (h9 (.sl y342) a) l):=by
 unfold Hk;rw[CC];refine Gp (d:=a6 y342) (c:=h9 y342) b.1 h m (fun g v i hi e f=>?_) (fun g v i hi=>Gq hi);exact HZ (O0q _ _ (N2 hi b) e f) hi b.1
theorem O0r(a:Ci)(l:Int)(d:wf y300 a)(h:0<=l)(m:l<=9223372036854775807):LD a l=some (u6 (h9 y300 a) l):=by
 unfold LD;have e:h9 y300 a=h9 (.sl y342) a.2.2.2.2.1+(h9 (.sl y342) a.2.2.2.2.2+0):=by
  first | rfl | (simp only[Ba,CA,CB,BE] <;> omega)
 rw[e];refine Q5 (M0u _ _ d.2.2.2.2.1 h m) (fun n c i=>?_) h;have b:=Int.le_trans i m;refine Q5 (M0u _ _ d.2.2.2.2.2 c b) (fun k f g=>?_) c;have j:=Int.le_trans g b;exact AE f
theorem O0t(a:List Ci)(l:Int)(b:wf (.sl y300) a)(h:0<=l)(m:l<=9223372036854775807):LF a l=some (u6 (h9 (.sl y300) a) l):=by
 unfold LF;rw[CC];refine Gp (d:=a6 y300) (c:=h9 y300) b.1 h m (fun g v i hi e f=>?_) (fun g v i hi=>Gq hi);exact HZ (O0r _ _ (N2 hi b) e f) hi b.1
theorem O0s(a:Cj)(l:Int)(c:wf y296 a)(h:0<=l)(m:l<=9223372036854775807):LG a l=some (u6 (h9 y296 a) l):=by
 unfold LG;have e:h9 y296 a=a.1.size+0:=by
  first | rfl | (simp only[Ba,CA,CB,BE] <;> omega)
 rw[e];refine Gn c.1 h m (fun b=>?_);have d:(l-(a.1.size:Int))<=9223372036854775807:=by omega
 exact AE b
theorem O0u(a:List Cj)(l:Int)(b:wf (.sl y296) a)(h:0<=l)(m:l<=9223372036854775807):LH a l=some (u6 (h9 (.sl y296) a) l):=by
 unfold LH;rw[CC];refine Gp (d:=a6 y296) (c:=h9 y296) b.1 h m (fun g v i hi e f=>?_) (fun g v i hi=>Gq hi);exact HZ (O0s _ _ (N2 hi b) e f) hi b.1
theorem O0x(a:Z8)(l:Int)(b:wf y216 a)(h:0<=l)(m:l<=9223372036854775807):LI a l=some (u6 (h9 y216 a) l):=by
 unfold LI;have e:h9 y216 a=a.1.size+(h9 (.sl y296) a.2.2.1+(h9 (.sl y300) a.2.2.2.1+(h9 (.sl (.int .i64)) a.2.2.2.2.1+0))):=by
  first | rfl | (simp only[Ba,CA,CB,BE] <;> omega)
 rw[e];refine Gn b.1 h m (fun f=>?_);have d:(l-(a.1.size:Int))<=9223372036854775807:=by omega
 refine Q5 (O0u _ _ b.2.2.1 f d) (fun r c k=>?_) f;have g:=Int.le_trans k d;refine Q5 (O0t _ _ b.2.2.2.1 c g) (fun s j o=>?_) c;have i:=Int.le_trans o g;refine Q5 (Fh _ _ b.2.2.2.2.1 j i) (fun u q n=>?_) j;have t:=Int.le_trans n i;exact AE q
theorem z78(a:List Z8)(l:Int)(b:wf (.sl y216) a)(h:0<=l)(m:l<=9223372036854775807):LJ a l=some (u6 (h9 (.sl y216) a) l):=by
 unfold LJ;rw[CC];refine Gp (d:=a6 y216) (c:=h9 y216) b.1 h m (fun g v i hi e f=>?_) (fun g v i hi=>Gq hi);exact HZ (O0x _ _ (N2 hi b) e f) hi b.1
theorem z35(a:List Z8)(l:Int)(c:wf (.sl y216) a)(h:0<=l)(m:l<=9223372036854775807):LK a l=some (u6 (h9 (.sl y216) a) l):=by
 unfold LK;have e:h9 (.sl y216) a=h9 (.sl y216) a+0:=by
  first | rfl | (simp only[Ba,CA,CB,BE] <;> omega)
 rw[e];refine Q5 (z78 _ _ c h m) (fun g b d=>?_) h;have f:=Int.le_trans d m;exact AE b
theorem z7(a:Ck)(l:Int)(b:wf T3 a)(h:0<=l)(m:l<=9223372036854775807):u7 a l=some (u6 (h9 T3 a) l):=by
 unfold u7;have e:h9 T3 a=h9 (.sl y216) a.1+(h9 Ch a.2.1+(h9 (.sl y146) a.2.2+0)):=by
  first | rfl | (simp only[Ba,CA,CB,BE] <;> omega)
 rw[e];refine Q5 (z35 _ _ b.1 h m) (fun s f n=>?_) h;have d:=Int.le_trans n m;refine Q5 (z36 _ _ b.2.1 f d) (fun o c i=>?_) f;have g:=Int.le_trans i d;refine Q5 (z37 _ _ b.2.2 c g) (fun q k j=>?_) c;have r:=Int.le_trans j g;exact AE k
theorem z8(a:Cm)(l:Int)(c:wf T4 a)(h:0<=l)(m:l<=9223372036854775807):u8 a l=some (u6 (h9 T4 a) l):=by
 unfold u8;have e:h9 T4 a=a.1.size+0:=by
  first | rfl | (simp only[Ba,CA,CB,BE] <;> omega)
 rw[e];refine Gn c.1 h m (fun b=>?_);have d:(l-(a.1.size:Int))<=9223372036854775807:=by omega
 exact AE b
theorem z9(a:List AT)(l:Int)(b:wf (.sl y106) a)(h:0<=l)(m:l<=9223372036854775807):u9 a l=some (u6 (h9 (.sl y106) a) l):=by
 unfold u9;have e:h9 (.sl y106) a=a.length+0:=z0s (fun _=>rfl);rw[e];exact Gn b.1 h m fun H=>AE H
theorem Bb(a:List Int)(h:h9 (.sl (.int .i64)) a<=1048576):F1 a=some a:=by
 unfold F1;have e:a.length<=9223372036854775807:=Nat.le_trans (C4 h) (by decide);exact BF (d:=a6 (.int .i64)) (C4 h) (by decide) (fun g i b hi c=>Vu hi e c) (fun g i b hi=>BG hi)
theorem w98(a:Ce)(h:h9 y146 a<=1048576):Jz a=some a:=by
 unfold Jz;refine M1 (Bb _ (cF h)) ?_;refine M1 (Bb _ (cF (cS h))) ?_;refine M1 (Bb _ (cF (cS (cS h)))) ?_;refine M1 (Bb _ (cS (cS (cS h)))) ?_;rfl
theorem w47(a:List Ce)(h:h9 (.sl y146) a<=1048576):Mu a=some a:=by
 unfold Mu;have e:a.length<=9223372036854775807:=Nat.le_trans (C4 h) (by decide);exact BF (d:=a6 y146) (C4 h) (by decide) (fun g i b hi c=>Fi (w98 _ (R8 hi h)) hi e c) (fun g i b hi=>BG hi)
theorem O0G(a:Cf)(h:h9 y221 a<=1048576):Mv a=some a:=by
 unfold Mv;rfl
theorem w97(a:List Cf)(h:h9 (.sl y221) a<=1048576):Mw a=some a:=by
 unfold Mw;have e:a.length<=9223372036854775807:=Nat.le_trans (C4 h) (by decide);rw[lE];exact BF (d:=a6 y221) (C4 h) (by decide) (fun g i b hi c=>Fi (O0G _ (R8 hi h)) hi e c) (fun g i b hi=>BG hi)
theorem w96(a:List ByteArray)(h:h9 (.sl .str) a<=1048576):Mx a=some a:=by
 unfold Mx;have e:a.length<=9223372036854775807:=Nat.le_trans (C4 h) (by decide);exact BF (d:=a6 .str) (C4 h) (by decide) (fun g i b hi c=>Vu hi e c) (fun g i b hi=>BG hi)
theorem O0H(a:Cg)(h:h9 y218 a<=1048576):JB a=some a:=by
 unfold JB;refine M1 (Bb _ (cS (cS h))) ?_;rfl
theorem w95(a:List Cg)(h:h9 (.sl y218) a<=1048576):My a=some a:=by
 unfold My;have e:a.length<=9223372036854775807:=Nat.le_trans (C4 h) (by decide);rw[lE];exact BF (d:=a6 y218) (C4 h) (by decide) (fun g i b hi c=>Fi (O0H _ (R8 hi h)) hi e c) (fun g i b hi=>BG hi)
theorem w46(a:LB)(h:h9 Ch a<=1048576):Mz a=some a:=by
 unfold Mz;refine M1 (w95 _ (cF h)) ?_;refine M1 (w96 _ (cF (cS h))) ?_;refine M1 (w97 _ (cS (cS h))) ?_;rfl
theorem O0B(a:Bw)(h:h9 y342 a<=1048576):JC a=some a:=by
 unfold JC;refine M1 (Bb _ (cF h)) ?_;refine M1 (Bb _ (cF (cS h))) ?_;refine M1 (Bb _ (cS (cS h))) ?_;rfl
theorem M0v(a:List Bw)(h:h9 (.sl y342) a<=1048576):Ht a=some a:=by
 unfold Ht;have e:a.length<=9223372036854775807:=Nat.le_trans (C4 h) (by decide);exact BF (d:=a6 y342) (C4 h) (by decide) (fun g i b hi c=>Fi (O0B _ (R8 hi h)) hi e c) (fun g i b hi=>BG hi)
theorem O0C(a:Ci)(h:h9 y300 a<=1048576):JD a=some a:=by
 unfold JD;refine M1 (M0v _ (cF (cS (cS (cS (cS h)))))) ?_;refine M1 (M0v _ (cS (cS (cS (cS (cS h)))))) ?_;rfl
theorem O0E(a:List Ci)(h:h9 (.sl y300) a<=1048576):MA a=some a:=by
 unfold MA;have e:a.length<=9223372036854775807:=Nat.le_trans (C4 h) (by decide);rw[lE];exact BF (d:=a6 y300) (C4 h) (by decide) (fun g i b hi c=>Fi (O0C _ (R8 hi h)) hi e c) (fun g i b hi=>BG hi)
theorem O0D(a:Cj)(h:h9 y296 a<=1048576):MB a=some a:=by
 unfold MB;rfl
theorem O0F(a:List Cj)(h:h9 (.sl y296) a<=1048576):MC a=some a:=by
 unfold MC;have e:a.length<=9223372036854775807:=Nat.le_trans (C4 h) (by decide);rw[lE];exact BF (d:=a6 y296) (C4 h) (by decide) (fun g i b hi c=>Fi (O0D _ (R8 hi h)) hi e c) (fun g i b hi=>BG hi)
theorem O0I(a:Z8)(h:h9 y216 a<=1048576):JE a=some a:=by
 unfold JE;refine M1 (O0F _ (cF (cS (cS h)))) ?_;refine M1 (O0E _ (cF (cS (cS (cS h))))) ?_;refine M1 (Bb _ (cF (cS (cS (cS (cS h)))))) ?_;rfl
theorem w94(a:List Z8)(h:h9 (.sl y216) a<=1048576):MD a=some a:=by
 unfold MD;have e:a.length<=9223372036854775807:=Nat.le_trans (C4 h) (by decide);rw[lE];exact BF (d:=a6 y216) (C4 h) (by decide) (fun g i b hi c=>Fi (O0I _ (R8 hi h)) hi e c) (fun g i b hi=>BG hi)
theorem w45(a:List Z8)(h:h9 (.sl y216) a<=1048576):ME a=some a:=by
 unfold ME;refine M1 (w94 _ h) ?_;rfl
theorem w12(a:Ck)(h:h9 T3 a<=1048576):N0 a=some a:=by
 unfold N0;refine M1 (w45 _ (cF h)) ?_;refine M1 (w46 _ (cF (cS h))) ?_;refine M1 (w47 _ (cS (cS h))) ?_;rfl
theorem w13(a:Cm)(h:h9 T4 a<=1048576):V5 a=some a:=by
 unfold V5;rfl
theorem Vv(a:Dg)(h:h9 y104 a<=1048576):DZ a=some a:=by
 unfold DZ;rfl
theorem w48(a:AT)(h:h9 y106 a<=1048576):MG a=some a:=by
 unfold MG;refine M1 (Vv _ (cF (cS h))) ?_;refine M1 (Vv _ (cS (cS h))) ?_;rfl
theorem NS(a:List AT)(h:h9 (.sl y106) a<=1048576):N9 a=some a:=by
 unfold N9;have e:a.length<=9223372036854775807:=Nat.le_trans (C4 h) (by decide);rw[lE];exact BF (d:=a6 y106) (C4 h) (by decide) (fun g i b hi c=>Fi (w48 _ (R8 hi h)) hi e c) (fun g i b hi=>BG hi)
theorem w50(a:List Dg)(h:h9 (.sl y104) a<=1048576):Hv a=some a:=by
 unfold Hv;have e:a.length<=9223372036854775807:=Nat.le_trans (C4 h) (by decide);rw[lE];exact BF (d:=a6 y104) (C4 h) (by decide) (fun g i b hi c=>Fi (Vv _ (R8 hi h)) hi e c) (fun g i b hi=>BG hi)
theorem w49(a:List Bool)(h:h9 (.sl .bool) a<=1048576):MH a=some a:=by
 unfold MH;have e:a.length<=9223372036854775807:=Nat.le_trans (C4 h) (by decide);exact BF (d:=a6 .bool) (C4 h) (by decide) (fun g i b hi c=>Vu hi e c) (fun g i b hi=>BG hi)
theorem NT(a:LN)(h:h9 FQ a<=1048576):u16 a=some a:=by
 unfold u16;refine M1 (w49 _ (cF h)) ?_;refine M1 (w50 _ (cF (cS h))) ?_;refine M1 (w50 _ (cS (cS h))) ?_;rfl
theorem Dr(a:List Int)(h:h9 (.sl (.int .i64)) a<=1048576):L6 a a=some true:=by
 unfold L6;have b:a.length<=9223372036854775807:=Nat.le_trans (C4 h) (by decide);exact BH b (fun g i hi=>Vw (by simp) hi b) (fun g i hi=>if_neg (by simp; omega))
theorem U0I(a:D0)(h:h9 y172 a<=1048576):MI a a=some true:=by
 unfold MI;refine M3 (Dr _ (cF h)) ?_;refine M3 (Dr _ (cF (cS h))) ?_;refine M3 (Dr _ (cF (cS (cS h)))) ?_;refine M3 (Dr _ (cS (cS (cS h)))) ?_;rfl
theorem e56(a:List D0)(h:h9 (.sl y172) a<=1048576):MJ a a=some true:=by
 unfold MJ;have b:a.length<=9223372036854775807:=Nat.le_trans (C4 h) (by decide);exact BH b (fun g i hi=>Fj (U0I _ (R8 hi h)) hi b) (fun g i hi=>if_neg (by simp; omega))
theorem U0F(a:K1)(h:h9 y231 a<=1048576):MK a a=some true:=by
 unfold MK;refine Rc rfl ?_
 first | refine Y0 ?_ | refine Ae ?_
 first | refine Y0 ?_ | refine Ae ?_
 rfl
theorem U0J(a:List K1)(h:h9 (.sl y231) a<=1048576):ML a a=some true:=by
 unfold ML;have b:a.length<=9223372036854775807:=Nat.le_trans (C4 h) (by decide);exact BH b (fun g i hi=>Fj (U0F _ (R8 hi h)) hi b) (fun g i hi=>if_neg (by simp; omega))
theorem U0K(a:List ByteArray)(h:h9 (.sl .str) a<=1048576):MM a a=some true:=by
 unfold MM;have b:a.length<=9223372036854775807:=Nat.le_trans (C4 h) (by decide);exact BH b (fun g i hi=>Vw (by simp) hi b) (fun g i hi=>if_neg (by simp; omega))
theorem U0G(a:H2)(h:h9 y155 a<=1048576):MN a a=some true:=by
 unfold MN;refine Rc rfl ?_
 first | refine Y0 ?_ | refine Ae ?_
 refine M3 (Dr _ (cS (cS h))) ?_;rfl
theorem U0L(a:List H2)(h:h9 (.sl y155) a<=1048576):MO a a=some true:=by
 unfold MO;have b:a.length<=9223372036854775807:=Nat.le_trans (C4 h) (by decide);exact BH b (fun g i hi=>Fj (U0G _ (R8 hi h)) hi b) (fun g i hi=>if_neg (by simp; omega))
theorem e55(a:q9)(h:h9 y53 a<=1048576):MP a a=some true:=by
 unfold MP;refine M3 (U0L _ (cF h)) ?_;refine M3 (U0K _ (cF (cS h))) ?_;refine M3 (U0J _ (cS (cS h))) ?_;rfl
theorem U0A(a:q5)(h:h9 y269 a<=1048576):MQ a a=some true:=by
 unfold MQ;refine M3 (Dr _ (cF h)) ?_;refine M3 (Dr _ (cF (cS h))) ?_;refine M3 (Dr _ (cS (cS h))) ?_;rfl
theorem O0j(a:List q5)(h:h9 (.sl y269) a<=1048576):Hx a a=some true:=by
 unfold Hx;have b:a.length<=9223372036854775807:=Nat.le_trans (C4 h) (by decide);exact BH b (fun g i hi=>Fj (U0A _ (R8 hi h)) hi b) (fun g i hi=>if_neg (by simp; omega))
theorem U0B(a:A6)(h:h9 y158 a<=1048576):MR a a=some true:=by
 unfold MR
 first | refine Y0 ?_ | refine Ae ?_
 first | refine Y0 ?_ | refine Ae ?_
 first | refine Y0 ?_ | refine Ae ?_
 first | refine Y0 ?_ | refine Ae ?_
 refine M3 (O0j _ (cF (cS (cS (cS (cS h)))))) ?_;refine M3 (O0j _ (cS (cS (cS (cS (cS h)))))) ?_;rfl
theorem U0D(a:List A6)(h:h9 (.sl y158) a<=1048576):MS a a=some true:=by
 unfold MS;have b:a.length<=9223372036854775807:=Nat.le_trans (C4 h) (by decide);exact BH b (fun g i hi=>Fj (U0B _ (R8 hi h)) hi b) (fun g i hi=>if_neg (by simp; omega))
theorem U0C(a:F8)(h:h9 y293 a<=1048576):MT a a=some true:=by
 unfold MT;refine Rc rfl ?_
 first | refine Y0 ?_ | refine Ae ?_
 first | refine Y0 ?_ | refine Ae ?_
 refine M0m ?_;rfl
theorem U0E(a:List F8)(h:h9 (.sl y293) a<=1048576):MU a a=some true:=by
 unfold MU;have b:a.length<=9223372036854775807:=Nat.le_trans (C4 h) (by decide);exact BH b (fun g i hi=>Fj (U0C _ (R8 hi h)) hi b) (fun g i hi=>if_neg (by simp; omega))
theorem U0H(a:l5)(h:h9 y153 a<=1048576):MV a a=some true:=by
 unfold MV;refine Rc rfl ?_
 first | refine Y0 ?_ | refine Ae ?_
 refine M3 (U0E _ (cF (cS (cS h)))) ?_;refine M3 (U0D _ (cF (cS (cS (cS h))))) ?_;refine M3 (Dr _ (cF (cS (cS (cS (cS h)))))) ?_
 first | refine Y0 ?_ | refine Ae ?_
 first | refine Y0 ?_ | refine Ae ?_
 rfl
theorem U0M(a:List l5)(h:h9 (.sl y153) a<=1048576):MW a a=some true:=by
 unfold MW;have b:a.length<=9223372036854775807:=Nat.le_trans (C4 h) (by decide);exact BH b (fun g i hi=>Fj (U0H _ (R8 hi h)) hi b) (fun g i hi=>if_neg (by simp; omega))
theorem e54(a:List l5)(h:h9 (.sl y153) a<=1048576):MX a a=some true:=by
 unfold MX;refine M3 (U0M _ h) ?_;rfl
theorem e18(a:j0)(h:h9 j3 a<=1048576):FY a a=some true:=by
 unfold FY;refine M3 (e54 _ (cF h)) ?_;refine M3 (e55 _ (cF (cS h))) ?_;refine M3 (e56 _ (cS (cS h))) ?_;rfl
theorem Vx(a:l9)(h:h9 y73 a<=1048576):Fb a a=some true:=by
 unfold Fb
 first | refine Y0 ?_ | refine Ae ?_
 first | refine Y0 ?_ | refine Ae ?_
 rfl
theorem e24(a:l7)(h:h9 y75 a<=1048576):Hy a a=some true:=by
 unfold Hy
 first | refine Y0 ?_ | refine Ae ?_
 refine M3 (Vx _ (cF (cS h))) ?_;refine M3 (Vx _ (cS (cS h))) ?_;rfl
theorem e20(a:List l7)(h:h9 (.sl y75) a<=1048576):FZ a a=some true:=by
 unfold FZ;have b:a.length<=9223372036854775807:=Nat.le_trans (C4 h) (by decide);exact BH b (fun g i hi=>Fj (e24 _ (R8 hi h)) hi b) (fun g i hi=>if_neg (by simp; omega))
theorem e58(a:List l9)(h:h9 (.sl y73) a<=1048576):Hz a a=some true:=by
 unfold Hz;have b:a.length<=9223372036854775807:=Nat.le_trans (C4 h) (by decide);exact BH b (fun g i hi=>Fj (Vx _ (R8 hi h)) hi b) (fun g i hi=>if_neg (by simp; omega))
theorem e57(a:List Bool)(h:h9 (.sl .bool) a<=1048576):MY a a=some true:=by
 unfold MY;have b:a.length<=9223372036854775807:=Nat.le_trans (C4 h) (by decide);exact BH b (fun g i hi=>Vw (by simp) hi b) (fun g i hi=>if_neg (by simp; omega))
theorem e21(a:B8)(h:h9 y65 a<=1048576):Ga a a=some true:=by
 unfold Ga;refine M3 (e57 _ (cF h)) ?_;refine M3 (e58 _ (cF (cS h))) ?_;refine M3 (e58 _ (cS (cS h))) ?_;rfl
end Go.Proofs.YtechodbafnmddaaGreatDoor
end

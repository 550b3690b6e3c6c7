/- Laws of sizes, copies and comparisons: printed by program. -/
import Derived.Test.YtechodbafnmddaaGreatDoorF92c
import Derived.Test.YtechodbafnmddaaGreatDoorXF
section
namespace Go.Proofs.YtechodbafnmddaaGreatDoor
open Go Go.Proofs Go.Proofs.Xv Go.Proofs.Xl Go.Proofs.Xd
theorem RJ{e:Ty}{a:List (c7 e)}(h:∀x,c9 e x=0):c9 (.sl e) a=a.length+0:=by
 have:a.map (c9 e)=a.map (fun _=>0):=List.map_congr_left (fun x _=>h x);show a.length+(a.map (c9 e)).sum=_;rw[this];congr 1
 induction a with
 | nil=>rfl
 | cons x r b=>simp only[List.map_cons,List.sum_cons,Nat.zero_add]; exact b (List.map_congr_left (fun x _=>h x))
theorem Cg(a:List Int)(l:Int)(b:wf (.sl (.int .i64)) a)(h:0<=l)(m:l<=9223372036854775807):I7 a l=some (m9 (c9 (.sl (.int .i64)) a) l):=by
 unfold I7;have e:c9 (.sl (.int .i64)) a=a.length+0:=p0u;rw[e];exact Bs b.1 h m fun H=>M9 H
theorem z82(a:Aq)(l:Int)(b:wf y146 a)(h:0<=l)(m:l<=9223372036854775807):IC a l=some (m9 (c9 y146 a) l):=by
 unfold IC;have e:c9 y146 a=c9 (.sl (.int .i64)) a.1+(c9 (.sl (.int .i64)) a.2.1+(c9 (.sl (.int .i64)) a.2.2.1+(c9 (.sl (.int .i64)) a.2.2.2+0))):=by
  first | rfl | (simp only[Q8,W2,Z3,W3] <;> omega)
 rw[e];refine H5 (Cg _ _ b.1 h m) (fun w g k=>?_) h;have d:=Int.le_trans k m;refine H5 (Cg _ _ b.2.1 g d) (fun v c n=>?_) g;have j:=Int.le_trans n d;refine H5 (Cg _ _ b.2.2.1 c j) (fun s f r=>?_) c;have i:=Int.le_trans r j;refine H5 (Cg _ _ b.2.2.2 f i) (fun t o q=>?_) f;have u:=Int.le_trans q i;exact M9 o
theorem z37(a:List Aq)(l:Int)(b:wf (.sl y146) a)(h:0<=l)(m:l<=9223372036854775807):ID a l=some (m9 (c9 (.sl y146) a) l):=by
 unfold ID;rw[AH];refine De (d:=a6 y146) (c:=c9 y146) b.1 h m (fun g v i hi f e=>?_) (fun g v i hi=>Df hi);exact Fs (z82 _ _ (H6 hi b) f e) hi b.1
theorem K0Z(a:Ar)(l:Int)(b:wf y221 a)(h:0<=l)(m:l<=9223372036854775807):IE a l=some (m9 (c9 y221 a) l):=by
 unfold IE;have e:c9 y221 a=a.1.size+0:=by
  first | rfl | (simp only[Q8,W2,Z3,W3] <;> omega)
 rw[e];refine Bs b.1 h m (fun c=>?_);have d:(l-(a.1.size:Int))<=9223372036854775807:=by omega
 exact M9 c
theorem z81(a:List Ar)(l:Int)(b:wf (.sl y221) a)(h:0<=l)(m:l<=9223372036854775807):IF a l=some (m9 (c9 (.sl y221) a) l):=by
 unfold IF;rw[AH];refine De (d:=a6 y221) (c:=c9 y221) b.1 h m (fun g v i hi f e=>?_) (fun g v i hi=>Df hi);exact Fs (K0Z _ _ (H6 hi b) f e) hi b.1
theorem z80(a:List ByteArray)(l:Int)(b:wf (.sl .str) a)(h:0<=l)(m:l<=9223372036854775807):IG a l=some (m9 (c9 (.sl .str) a) l):=by
 unfold IG;rw[AH];refine De (d:=a6 .str) (c:=c9 .str) b.1 h m (fun g v i hi f e=>?_) (fun g v i hi=>Df hi);have j:=H6 (d:=a6 .str) hi b;rw[W3];exact H0S hi b.1 j f e
theorem L0a(a:As)(l:Int)(c:wf y218 a)(h:0<=l)(m:l<=9223372036854775807):IH a l=some (m9 (c9 y218 a) l):=by
 unfold IH;have e:c9 y218 a=a.1.size+(c9 (.sl (.int .i64)) a.2.2+0):=by
  first | rfl | (simp only[Q8,W2,Z3,W3] <;> omega)
 rw[e];refine Bs c.1 h m (fun d=>?_);have b:(l-(a.1.size:Int))<=9223372036854775807:=by omega
 refine H5 (Cg _ _ c.2.2 d b) (fun i g f=>?_) d;have j:=Int.le_trans f b;exact M9 g
theorem z79(a:List As)(l:Int)(b:wf (.sl y218) a)(h:0<=l)(m:l<=9223372036854775807):II a l=some (m9 (c9 (.sl y218) a) l):=by
 unfold II;rw[AH];refine De (d:=a6 y218) (c:=c9 y218) b.1 h m (fun g v i hi f e=>?_) (fun g v i hi=>Df hi);exact Fs (L0a _ _ (H6 hi b) f e) hi b.1
theorem z36(a:IK)(l:Int)(b:wf BU a)(h:0<=l)(m:l<=9223372036854775807):IJ a l=some (m9 (c9 BU a) l):=by
 unfold IJ;have e:c9 BU a=c9 (.sl y218) a.1+(c9 (.sl .str) a.2.1+(c9 (.sl y221) a.2.2+0)):=by
  first | rfl | (simp only[Q8,W2,Z3,W3] <;> omega)
 rw[e];refine H5 (z79 _ _ b.1 h m) (fun s f i=>?_) h;have d:=Int.le_trans i m;refine H5 (z80 _ _ b.2.1 f d) (fun q c k=>?_) f;have g:=Int.le_trans k d;refine H5 (z81 _ _ b.2.2 c g) (fun o j n=>?_) c;have r:=Int.le_trans n g;exact M9 j
theorem K0U(a:Y2)(l:Int)(b:wf y342 a)(h:0<=l)(m:l<=9223372036854775807):IL a l=some (m9 (c9 y342 a) l):=by
 unfold IL;have e:c9 y342 a=c9 (.sl (.int .i64)) a.1+(c9 (.sl (.int .i64)) a.2.1+(c9 (.sl (.int .i64)) a.2.2+0)):=by
  first | rfl | (simp only[Q8,W2,Z3,W3] <;> omega)
 rw[e];refine H5 (Cg _ _ b.1 h m) (fun s f i=>?_) h;have d:=Int.le_trans i m;refine H5 (Cg _ _ b.2.1 f d) (fun q c k=>?_) f;have g:=Int.le_trans k d;refine H5 (Cg _ _ b.2.2 c g) (fun o j n=>?_) c;have r:=Int.le_trans n g;exact M9 j
theorem J0d(a:List Y2)(l:Int)(b:wf (.sl y342) a)(h:0<=l)(m:l<=9223372036854775807):DP a l=some (m9 (c9 (.sl y342) a) l):=by
 unfold DP;rw[AH];refine De (d:=a6 y342) (c:=c9 y342) b.1 h m (fun g v i hi f e=>?_) (fun g v i hi=>Df hi);exact Fs (K0U _ _ (H6 hi b) f e) hi b.1
theorem K0V(a:Au)(l:Int)(c:wf y300 a)(h:0<=l)(m:l<=9223372036854775807):IM a l=some (m9 (c9 y300 a) l):=by
 unfold IM;have e:c9 y300 a=c9 (.sl y342) a.2.2.2.2.1+(c9 (.sl y342) a.2.2.2.2.2+0):=by
  first | rfl | (simp only[Q8,W2,Z3,W3] <;> omega)
 rw[e];refine H5 (J0d _ _ c.2.2.2.2.1 h m) (fun k d f=>?_) h;have b:=Int.le_trans f m;refine H5 (J0d _ _ c.2.2.2.2.2 d b) (fun j g i=>?_) d;have n:=Int.le_trans i b;exact M9 g
theorem K0X(a:List Au)(l:Int)(b:wf (.sl y300) a)(h:0<=l)(m:l<=9223372036854775807):IN a l=some (m9 (c9 (.sl y300) a) l):=by
 unfold IN;rw[AH];refine De (d:=a6 y300) (c:=c9 y300) b.1 h m (fun g v i hi f e=>?_) (fun g v i hi=>Df hi);exact Fs (K0V _ _ (H6 hi b) f e) hi b.1
theorem K0W(a:Av)(l:Int)(b:wf y296 a)(h:0<=l)(m:l<=9223372036854775807):IP a l=some (m9 (c9 y296 a) l):=by
 unfold IP;have e:c9 y296 a=a.1.size+0:=by
  first | rfl | (simp only[Q8,W2,Z3,W3] <;> omega)
 rw[e];refine Bs b.1 h m (fun c=>?_);have d:(l-(a.1.size:Int))<=9223372036854775807:=by omega
 exact M9 c
theorem K0Y(a:List Av)(l:Int)(b:wf (.sl y296) a)(h:0<=l)(m:l<=9223372036854775807):IQ a l=some (m9 (c9 (.sl y296) a) l):=by
 unfold IQ;rw[AH];refine De (d:=a6 y296) (c:=c9 y296) b.1 h m (fun g v i hi f e=>?_) (fun g v i hi=>Df hi);exact Fs (K0W _ _ (H6 hi b) f e) hi b.1
theorem L0b(a:Q3)(l:Int)(b:wf y216 a)(h:0<=l)(m:l<=9223372036854775807):IS a l=some (m9 (c9 y216 a) l):=by
 unfold IS;have e:c9 y216 a=a.1.size+(c9 (.sl y296) a.2.2.1+(c9 (.sl y300) a.2.2.2.1+(c9 (.sl (.int .i64)) a.2.2.2.2.1+0))):=by
  first | rfl | (simp only[Q8,W2,Z3,W3] <;> omega)
 rw[e];refine Bs b.1 h m (fun f=>?_);have d:(l-(a.1.size:Int))<=9223372036854775807:=by omega
 refine H5 (K0Y _ _ b.2.2.1 f d) (fun u i k=>?_) f;have j:=Int.le_trans k d;refine H5 (K0X _ _ b.2.2.2.1 i j) (fun r c q=>?_) i;have g:=Int.le_trans q j;refine H5 (Cg _ _ b.2.2.2.2.1 c g) (fun s n o=>?_) c;have t:=Int.le_trans o g;exact M9 n
theorem z78(a:List Q3)(l:Int)(b:wf (.sl y216) a)(h:0<=l)(m:l<=9223372036854775807):IT a l=some (m9 (c9 (.sl y216) a) l):=by
 unfold IT;rw[AH];refine De (d:=a6 y216) (c:=c9 y216) b.1 h m (fun g v i hi f e=>?_) (fun g v i hi=>Df hi);exact Fs (L0b _ _ (H6 hi b) f e) hi b.1
theorem z35(a:List Q3)(l:Int)(c:wf (.sl y216) a)(h:0<=l)(m:l<=9223372036854775807):IU a l=some (m9 (c9 (.sl y216) a) l):=by
 unfold IU;have e:c9 (.sl y216) a=c9 (.sl y216) a+0:=by
  first | rfl | (simp only[Q8,W2,Z3,W3] <;> omega)
 rw[e];refine H5 (z78 _ _ c h m) (fun g d b=>?_) h;have f:=Int.le_trans b m;exact M9 d
theorem z7(a:Gy)(l:Int)(b:wf T7 a)(h:0<=l)(m:l<=9223372036854775807):u7 a l=some (m9 (c9 T7 a) l):=by
 unfold u7;have e:c9 T7 a=c9 (.sl y216) a.1+(c9 BU a.2.1+(c9 (.sl y146) a.2.2+0)):=by
  first | rfl | (simp only[Q8,W2,Z3,W3] <;> omega)
 rw[e];refine H5 (z35 _ _ b.1 h m) (fun s f i=>?_) h;have d:=Int.le_trans i m;refine H5 (z36 _ _ b.2.1 f d) (fun q c k=>?_) f;have g:=Int.le_trans k d;refine H5 (z37 _ _ b.2.2 c g) (fun o j n=>?_) c;have r:=Int.le_trans n g;exact M9 j
theorem z8(a:Gz)(l:Int)(b:wf V5 a)(h:0<=l)(m:l<=9223372036854775807):u8 a l=some (m9 (c9 V5 a) l):=by
 unfold u8;have e:c9 V5 a=a.1.size+0:=by
  first | rfl | (simp only[Q8,W2,Z3,W3] <;> omega)
 rw[e];refine Bs b.1 h m (fun c=>?_);have d:(l-(a.1.size:Int))<=9223372036854775807:=by omega
 exact M9 c
theorem z9(a:List BV)(l:Int)(b:wf (.sl y106) a)(h:0<=l)(m:l<=9223372036854775807):u9 a l=some (m9 (c9 (.sl y106) a) l):=by
 unfold u9;have e:c9 (.sl y106) a=a.length+0:=RJ (fun _=>rfl);rw[e];exact Bs b.1 h m fun H=>M9 H
theorem z39(a:List Aw)(l:Int)(b:wf (.sl y104) a)(h:0<=l)(m:l<=9223372036854775807):DQ a l=some (m9 (c9 (.sl y104) a) l):=by
 unfold DQ;have e:c9 (.sl y104) a=a.length+0:=RJ (fun _=>rfl);rw[e];exact Bs b.1 h m fun H=>M9 H
theorem z38(a:List Bool)(l:Int)(b:wf (.sl .bool) a)(h:0<=l)(m:l<=9223372036854775807):IV a l=some (m9 (c9 (.sl .bool) a) l):=by
 unfold IV;have e:c9 (.sl .bool) a=a.length+0:=RJ (fun _=>rfl);rw[e];exact Bs b.1 h m fun H=>M9 H
theorem z10(a:GA)(l:Int)(b:wf Y3 a)(h:0<=l)(m:l<=9223372036854775807):IW a l=some (m9 (c9 Y3 a) l):=by
 unfold IW;have e:c9 Y3 a=c9 (.sl .bool) a.1+(c9 (.sl y104) a.2.1+(c9 (.sl y104) a.2.2+0)):=by
  first | rfl | (simp only[Q8,W2,Z3,W3] <;> omega)
 rw[e];refine H5 (z38 _ _ b.1 h m) (fun s f i=>?_) h;have d:=Int.le_trans i m;refine H5 (z39 _ _ b.2.1 f d) (fun q c k=>?_) f;have g:=Int.le_trans k d;refine H5 (z39 _ _ b.2.2 c g) (fun o j n=>?_) c;have r:=Int.le_trans n g;exact M9 j
theorem Bt(a:List Int)(h:c9 (.sl (.int .i64)) a<=1048576):C3 a=some a:=by
 unfold C3;have c:a.length<=9223372036854775807:=Nat.le_trans (w5 h) (by decide);exact Z4 (d:=a6 (.int .i64)) (w5 h) (by decide) (fun g i e hi b=>RL hi c b) (fun g i e hi=>Z5 hi)
theorem w98(a:Aq)(h:c9 y146 a<=1048576):GL a=some a:=by
 unfold GL;refine F7 (Bt _ (cF h)) ?_;refine F7 (Bt _ (cF (cS h))) ?_;refine F7 (Bt _ (cF (cS (cS h)))) ?_;refine F7 (Bt _ (cS (cS (cS h)))) ?_;rfl
theorem w47(a:List Aq)(h:c9 (.sl y146) a<=1048576):JD a=some a:=by
 unfold JD;have c:a.length<=9223372036854775807:=Nat.le_trans (w5 h) (by decide);exact Z4 (d:=a6 y146) (w5 h) (by decide) (fun g i e hi b=>Ch (w98 _ (K8 hi h)) hi c b) (fun g i e hi=>Z5 hi)
theorem L0j(a:Ar)(h:c9 y221 a<=1048576):JE a=some a:=by
 unfold JE;rfl
theorem w97(a:List Ar)(h:c9 (.sl y221) a<=1048576):JF a=some a:=by
 unfold JF;have c:a.length<=9223372036854775807:=Nat.le_trans (w5 h) (by decide);rw[lE];exact Z4 (d:=a6 y221) (w5 h) (by decide) (fun g i e hi b=>Ch (L0j _ (K8 hi h)) hi c b) (fun g i e hi=>Z5 hi)
theorem w96(a:List ByteArray)(h:c9 (.sl .str) a<=1048576):JG a=some a:=by
 unfold JG;have c:a.length<=9223372036854775807:=Nat.le_trans (w5 h) (by decide);exact Z4 (d:=a6 .str) (w5 h) (by decide) (fun g i e hi b=>RL hi c b) (fun g i e hi=>Z5 hi)
theorem L0k(a:As)(h:c9 y218 a<=1048576):GN a=some a:=by
 unfold GN;refine F7 (Bt _ (cS (cS h))) ?_;rfl
theorem w95(a:List As)(h:c9 (.sl y218) a<=1048576):JH a=some a:=by
 unfold JH;have c:a.length<=9223372036854775807:=Nat.le_trans (w5 h) (by decide);rw[lE];exact Z4 (d:=a6 y218) (w5 h) (by decide) (fun g i e hi b=>Ch (L0k _ (K8 hi h)) hi c b) (fun g i e hi=>Z5 hi)
theorem w46(a:IK)(h:c9 BU a<=1048576):JI a=some a:=by
 unfold JI;refine F7 (w95 _ (cF h)) ?_;refine F7 (w96 _ (cF (cS h))) ?_;refine F7 (w97 _ (cS (cS h))) ?_;rfl
theorem L0e(a:Y2)(h:c9 y342 a<=1048576):GO a=some a:=by
 unfold GO;refine F7 (Bt _ (cF h)) ?_;refine F7 (Bt _ (cF (cS h))) ?_;refine F7 (Bt _ (cS (cS h))) ?_;rfl
theorem J0e(a:List Y2)(h:c9 (.sl y342) a<=1048576):DX a=some a:=by
 unfold DX;have c:a.length<=9223372036854775807:=Nat.le_trans (w5 h) (by decide);exact Z4 (d:=a6 y342) (w5 h) (by decide) (fun g i e hi b=>Ch (L0e _ (K8 hi h)) hi c b) (fun g i e hi=>Z5 hi)
theorem L0f(a:Au)(h:c9 y300 a<=1048576):GP a=some a:=by
 unfold GP;refine F7 (J0e _ (cF (cS (cS (cS (cS h)))))) ?_;refine F7 (J0e _ (cS (cS (cS (cS (cS h)))))) ?_;rfl
theorem L0h(a:List Au)(h:c9 (.sl y300) a<=1048576):JJ a=some a:=by
 unfold JJ;have c:a.length<=9223372036854775807:=Nat.le_trans (w5 h) (by decide);rw[lE];exact Z4 (d:=a6 y300) (w5 h) (by decide) (fun g i e hi b=>Ch (L0f _ (K8 hi h)) hi c b) (fun g i e hi=>Z5 hi)
theorem L0g(a:Av)(h:c9 y296 a<=1048576):JK a=some a:=by
 unfold JK;rfl
theorem L0i(a:List Av)(h:c9 (.sl y296) a<=1048576):JL a=some a:=by
 unfold JL;have c:a.length<=9223372036854775807:=Nat.le_trans (w5 h) (by decide);rw[lE];exact Z4 (d:=a6 y296) (w5 h) (by decide) (fun g i e hi b=>Ch (L0g _ (K8 hi h)) hi c b) (fun g i e hi=>Z5 hi)
theorem L0l(a:Q3)(h:c9 y216 a<=1048576):GQ a=some a:=by
 unfold GQ;refine F7 (L0i _ (cF (cS (cS h)))) ?_;refine F7 (L0h _ (cF (cS (cS (cS h))))) ?_;refine F7 (Bt _ (cF (cS (cS (cS (cS h)))))) ?_;rfl
theorem w94(a:List Q3)(h:c9 (.sl y216) a<=1048576):JM a=some a:=by
 unfold JM;have c:a.length<=9223372036854775807:=Nat.le_trans (w5 h) (by decide);rw[lE];exact Z4 (d:=a6 y216) (w5 h) (by decide) (fun g i e hi b=>Ch (L0l _ (K8 hi h)) hi c b) (fun g i e hi=>Z5 hi)
theorem w45(a:List Q3)(h:c9 (.sl y216) a<=1048576):JN a=some a:=by
 unfold JN;refine F7 (w94 _ h) ?_;rfl
theorem w12(a:Gy)(h:c9 T7 a<=1048576):Y9 a=some a:=by
 unfold Y9;refine F7 (w45 _ (cF h)) ?_;refine F7 (w46 _ (cF (cS h))) ?_;refine F7 (w47 _ (cS (cS h))) ?_;rfl
theorem w13(a:Gz)(h:c9 V5 a<=1048576):Cb a=some a:=by
 unfold Cb;rfl
theorem RM(a:Aw)(h:c9 y104 a<=1048576):Cc a=some a:=by
 unfold Cc;rfl
theorem w48(a:BV)(h:c9 y106 a<=1048576):JP a=some a:=by
 unfold JP;refine F7 (RM _ (cF (cS h))) ?_;refine F7 (RM _ (cS (cS h))) ?_;rfl
theorem w15(a:List BV)(h:c9 (.sl y106) a<=1048576):Z0 a=some a:=by
 unfold Z0;have c:a.length<=9223372036854775807:=Nat.le_trans (w5 h) (by decide);rw[lE];exact Z4 (d:=a6 y106) (w5 h) (by decide) (fun g i e hi b=>Ch (w48 _ (K8 hi h)) hi c b) (fun g i e hi=>Z5 hi)
theorem w50(a:List Aw)(h:c9 (.sl y104) a<=1048576):DY a=some a:=by
 unfold DY;have c:a.length<=9223372036854775807:=Nat.le_trans (w5 h) (by decide);rw[lE];exact Z4 (d:=a6 y104) (w5 h) (by decide) (fun g i e hi b=>Ch (RM _ (K8 hi h)) hi c b) (fun g i e hi=>Z5 hi)
theorem w49(a:List Bool)(h:c9 (.sl .bool) a<=1048576):JQ a=some a:=by
 unfold JQ;have c:a.length<=9223372036854775807:=Nat.le_trans (w5 h) (by decide);exact Z4 (d:=a6 .bool) (w5 h) (by decide) (fun g i e hi b=>RL hi c b) (fun g i e hi=>Z5 hi)
theorem w16(a:GA)(h:c9 Y3 a<=1048576):u16 a=some a:=by
 unfold u16;refine F7 (w49 _ (cF h)) ?_;refine F7 (w50 _ (cF (cS h))) ?_;refine F7 (w50 _ (cS (cS h))) ?_;rfl
theorem AI(a:List Int)(h:c9 (.sl (.int .i64)) a<=1048576):H3 a a=some true:=by
 unfold H3;have b:a.length<=9223372036854775807:=Nat.le_trans (w5 h) (by decide);exact Z6 b (fun g i hi=>RN (by simp) hi b) (fun g i hi=>if_neg (by simp; omega))
theorem R0l(a:w9)(h:c9 y172 a<=1048576):JS a a=some true:=by
 unfold JS;refine F8 (AI _ (cF h)) ?_;refine F8 (AI _ (cF (cS h))) ?_;refine F8 (AI _ (cF (cS (cS h)))) ?_;refine F8 (AI _ (cS (cS (cS h)))) ?_;rfl
theorem e56(a:List w9)(h:c9 (.sl y172) a<=1048576):JT a a=some true:=by
 unfold JT;have b:a.length<=9223372036854775807:=Nat.le_trans (w5 h) (by decide);exact Z6 b (fun g i hi=>Ci (R0l _ (K8 hi h)) hi b) (fun g i hi=>if_neg (by simp; omega))
theorem R0i(a:D3)(h:c9 y231 a<=1048576):JU a a=some true:=by
 unfold JU;refine NQ rfl ?_
 first | refine O8 ?_ | refine Q9 ?_
 first | refine O8 ?_ | refine Q9 ?_
 rfl
theorem R0m(a:List D3)(h:c9 (.sl y231) a<=1048576):JV a a=some true:=by
 unfold JV;have b:a.length<=9223372036854775807:=Nat.le_trans (w5 h) (by decide);exact Z6 b (fun g i hi=>Ci (R0i _ (K8 hi h)) hi b) (fun g i hi=>if_neg (by simp; omega))
theorem R0n(a:List ByteArray)(h:c9 (.sl .str) a<=1048576):JW a a=some true:=by
 unfold JW;have b:a.length<=9223372036854775807:=Nat.le_trans (w5 h) (by decide);exact Z6 b (fun g i hi=>RN (by simp) hi b) (fun g i hi=>if_neg (by simp; omega))
theorem R0j(a:A9)(h:c9 y155 a<=1048576):JX a a=some true:=by
 unfold JX;refine NQ rfl ?_
 first | refine O8 ?_ | refine Q9 ?_
 refine F8 (AI _ (cS (cS h))) ?_;rfl
theorem R0o(a:List A9)(h:c9 (.sl y155) a<=1048576):JY a a=some true:=by
 unfold JY;have b:a.length<=9223372036854775807:=Nat.le_trans (w5 h) (by decide);exact Z6 b (fun g i hi=>Ci (R0j _ (K8 hi h)) hi b) (fun g i hi=>if_neg (by simp; omega))
theorem e55(a:m6)(h:c9 y53 a<=1048576):JZ a a=some true:=by
 unfold JZ;refine F8 (R0o _ (cF h)) ?_;refine F8 (R0n _ (cF (cS h))) ?_;refine F8 (R0m _ (cS (cS h))) ?_;rfl
theorem R0d(a:m4)(h:c9 y269 a<=1048576):Kb a a=some true:=by
 unfold Kb;refine F8 (AI _ (cF h)) ?_;refine F8 (AI _ (cF (cS h))) ?_;refine F8 (AI _ (cS (cS h))) ?_;rfl
theorem K0N(a:List m4)(h:c9 (.sl y269) a<=1048576):DZ a a=some true:=by
 unfold DZ;have b:a.length<=9223372036854775807:=Nat.le_trans (w5 h) (by decide);exact Z6 b (fun g i hi=>Ci (R0d _ (K8 hi h)) hi b) (fun g i hi=>if_neg (by simp; omega))
theorem R0e(a:r7)(h:c9 y158 a<=1048576):Kc a a=some true:=by
 unfold Kc
 first | refine O8 ?_ | refine Q9 ?_
 first | refine O8 ?_ | refine Q9 ?_
 first | refine O8 ?_ | refine Q9 ?_
 first | refine O8 ?_ | refine Q9 ?_
 refine F8 (K0N _ (cF (cS (cS (cS (cS h)))))) ?_;refine F8 (K0N _ (cS (cS (cS (cS (cS h)))))) ?_;rfl
theorem R0g(a:List r7)(h:c9 (.sl y158) a<=1048576):Ke a a=some true:=by
 unfold Ke;have b:a.length<=9223372036854775807:=Nat.le_trans (w5 h) (by decide);exact Z6 b (fun g i hi=>Ci (R0e _ (K8 hi h)) hi b) (fun g i hi=>if_neg (by simp; omega))
theorem R0f(a:A6)(h:c9 y293 a<=1048576):Kg a a=some true:=by
 unfold Kg;refine NQ rfl ?_
 first | refine O8 ?_ | refine Q9 ?_
 first | refine O8 ?_ | refine Q9 ?_
 refine I0U ?_;rfl
theorem R0h(a:List A6)(h:c9 (.sl y293) a<=1048576):Kh a a=some true:=by
 unfold Kh;have b:a.length<=9223372036854775807:=Nat.le_trans (w5 h) (by decide);exact Z6 b (fun g i hi=>Ci (R0f _ (K8 hi h)) hi b) (fun g i hi=>if_neg (by simp; omega))
theorem R0k(a:k6)(h:c9 y153 a<=1048576):Ki a a=some true:=by
 unfold Ki;refine NQ rfl ?_
 first | refine O8 ?_ | refine Q9 ?_
 refine F8 (R0h _ (cF (cS (cS h)))) ?_;refine F8 (R0g _ (cF (cS (cS (cS h))))) ?_;refine F8 (AI _ (cF (cS (cS (cS (cS h)))))) ?_
 first | refine O8 ?_ | refine Q9 ?_
 first | refine O8 ?_ | refine Q9 ?_
 rfl
theorem R0p(a:List k6)(h:c9 (.sl y153) a<=1048576):Kj a a=some true:=by
 unfold Kj;have b:a.length<=9223372036854775807:=Nat.le_trans (w5 h) (by decide);exact Z6 b (fun g i hi=>Ci (R0k _ (K8 hi h)) hi b) (fun g i hi=>if_neg (by simp; omega))
theorem e54(a:List k6)(h:c9 (.sl y153) a<=1048576):Kk a a=some true:=by
 unfold Kk;refine F8 (R0p _ h) ?_;rfl
theorem e18(a:j0)(h:c9 j7 a<=1048576):Kl a a=some true:=by
 unfold Kl;refine F8 (e54 _ (cF h)) ?_;refine F8 (e55 _ (cF (cS h))) ?_;refine F8 (e56 _ (cS (cS h))) ?_;rfl
theorem RO(a:q7)(h:c9 y73 a<=1048576):Cd a a=some true:=by
 unfold Cd
 first | refine O8 ?_ | refine Q9 ?_
 first | refine O8 ?_ | refine Q9 ?_
 rfl
theorem e24(a:l6)(h:c9 y75 a<=1048576):CT a a=some true:=by
 unfold CT
 first | refine O8 ?_ | refine Q9 ?_
 refine F8 (RO _ (cF (cS h))) ?_;refine F8 (RO _ (cS (cS h))) ?_;rfl
theorem e20(a:List l6)(h:c9 (.sl y75) a<=1048576):Km a a=some true:=by
 unfold Km;have b:a.length<=9223372036854775807:=Nat.le_trans (w5 h) (by decide);exact Z6 b (fun g i hi=>Ci (e24 _ (K8 hi h)) hi b) (fun g i hi=>if_neg (by simp; omega))
theorem e58(a:List q7)(h:c9 (.sl y73) a<=1048576):Fa a a=some true:=by
 unfold Fa;have b:a.length<=9223372036854775807:=Nat.le_trans (w5 h) (by decide);exact Z6 b (fun g i hi=>Ci (RO _ (K8 hi h)) hi b) (fun g i hi=>if_neg (by simp; omega))
theorem e57(a:List Bool)(h:c9 (.sl .bool) a<=1048576):Kn a a=some true:=by
 unfold Kn;have b:a.length<=9223372036854775807:=Nat.le_trans (w5 h) (by decide);exact Z6 b (fun g i hi=>RN (by simp) hi b) (fun g i hi=>if_neg (by simp; omega))
theorem e21(a:A0)(h:c9 y65 a<=1048576):Ko a a=some true:=by
 unfold Ko;refine F8 (e57 _ (cF h)) ?_;refine F8 (e58 _ (cF (cS h))) ?_;refine F8 (e58 _ (cS (cS h))) ?_;rfl
end Go.Proofs.YtechodbafnmddaaGreatDoor
end

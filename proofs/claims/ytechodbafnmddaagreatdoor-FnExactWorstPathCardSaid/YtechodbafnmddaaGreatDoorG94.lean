/- Laws of sizes, copies and comparisons: printed by program. -/
import Derived.Test.YtechodbafnmddaaGreatDoorF94b
import Derived.Test.YtechodbafnmddaaGreatDoorXF
section
namespace Go.Proofs.YtechodbafnmddaaGreatDoor
open Go Go.Proofs Go.Proofs.Xv Go.Proofs.Xl Go.Proofs.Xd
theorem TK{e:Ty}{a:List (c9 e)}(h:∀x,h9 e x=0):h9 (.sl e) a=a.length+0:=by
 have:a.map (h9 e)=a.map (fun _=>0):=List.map_congr_left (fun x _=>h x);show a.length+(a.map (h9 e)).sum=_;rw[this];congr 1
 induction a with
 | nil=>rfl
 | cons x r b=>simp only[List.map_cons,List.sum_cons,Nat.zero_add]; exact b (List.map_congr_left (fun x _=>h x))
theorem DB(a:List Int)(l:Int)(b:wf (.sl (.int .i64)) a)(h:0<=l)(m:l<=9223372036854775807):O3 a l=some (r7 (h9 (.sl (.int .i64)) a) l):=by
 unfold O3;have e:h9 (.sl (.int .i64)) a=a.length+0:=q0Y;rw[e];exact CK b.1 h m fun H=>T7 H
theorem z82(a:BH)(l:Int)(b:wf y146 a)(h:0<=l)(m:l<=9223372036854775807):Kl a l=some (r7 (h9 y146 a) l):=by
 unfold Kl;have e:h9 y146 a=h9 (.sl (.int .i64)) a.1+(h9 (.sl (.int .i64)) a.2.1+(h9 (.sl (.int .i64)) a.2.2.1+(h9 (.sl (.int .i64)) a.2.2.2+0))):=by
  first | rfl | (simp only[Ac,Bi,Bj,Ax] <;> omega)
 rw[e];refine M8 (DB _ _ b.1 h m) (fun u c n=>?_) h;have i:=Int.le_trans n m;refine M8 (DB _ _ b.2.1 c i) (fun v j k=>?_) c;have d:=Int.le_trans k i;refine M8 (DB _ _ b.2.2.1 j d) (fun w g q=>?_) j;have f:=Int.le_trans q d;refine M8 (DB _ _ b.2.2.2 g f) (fun t r o=>?_) g;have s:=Int.le_trans o f;exact T7 r
theorem z37(a:List BH)(l:Int)(b:wf (.sl y146) a)(h:0<=l)(m:l<=9223372036854775807):Km a l=some (r7 (h9 (.sl y146) a) l):=by
 unfold Km;rw[BZ];refine FE (d:=a7 y146) (c:=h9 y146) b.1 h m (fun g v i hi f e=>?_) (fun g v i hi=>FF hi);exact GW (z82 _ _ (M9 hi b) f e) hi b.1
theorem M0Q(a:BI)(l:Int)(b:wf y221 a)(h:0<=l)(m:l<=9223372036854775807):Kn a l=some (r7 (h9 y221 a) l):=by
 unfold Kn;have e:h9 y221 a=a.1.size+0:=by
  first | rfl | (simp only[Ac,Bi,Bj,Ax] <;> omega)
 rw[e];refine CK b.1 h m (fun c=>?_);have d:(l-(a.1.size:Int))<=9223372036854775807:=by omega
 exact T7 c
theorem z81(a:List BI)(l:Int)(b:wf (.sl y221) a)(h:0<=l)(m:l<=9223372036854775807):Ko a l=some (r7 (h9 (.sl y221) a) l):=by
 unfold Ko;rw[BZ];refine FE (d:=a7 y221) (c:=h9 y221) b.1 h m (fun g v i hi f e=>?_) (fun g v i hi=>FF hi);exact GW (M0Q _ _ (M9 hi b) f e) hi b.1
theorem z80(a:List ByteArray)(l:Int)(b:wf (.sl .str) a)(h:0<=l)(m:l<=9223372036854775807):Kp a l=some (r7 (h9 (.sl .str) a) l):=by
 unfold Kp;rw[BZ];refine FE (d:=a7 .str) (c:=h9 .str) b.1 h m (fun g v i hi f e=>?_) (fun g v i hi=>FF hi);have j:=M9 (d:=a7 .str) hi b;rw[Ax];exact J0K hi b.1 j f e
theorem M0R(a:BJ)(l:Int)(b:wf y218 a)(h:0<=l)(m:l<=9223372036854775807):Kq a l=some (r7 (h9 y218 a) l):=by
 unfold Kq;have e:h9 y218 a=a.1.size+(h9 (.sl (.int .i64)) a.2.2+0):=by
  first | rfl | (simp only[Ac,Bi,Bj,Ax] <;> omega)
 rw[e];refine CK b.1 h m (fun c=>?_);have d:(l-(a.1.size:Int))<=9223372036854775807:=by omega
 refine M8 (DB _ _ b.2.2 c d) (fun j g f=>?_) c;have i:=Int.le_trans f d;exact T7 g
theorem z79(a:List BJ)(l:Int)(b:wf (.sl y218) a)(h:0<=l)(m:l<=9223372036854775807):Kr a l=some (r7 (h9 (.sl y218) a) l):=by
 unfold Kr;rw[BZ];refine FE (d:=a7 y218) (c:=h9 y218) b.1 h m (fun g v i hi f e=>?_) (fun g v i hi=>FF hi);exact GW (M0R _ _ (M9 hi b) f e) hi b.1
theorem z36(a:Kt)(l:Int)(b:wf BK a)(h:0<=l)(m:l<=9223372036854775807):Ks a l=some (r7 (h9 BK a) l):=by
 unfold Ks;have e:h9 BK a=h9 (.sl y218) a.1+(h9 (.sl .str) a.2.1+(h9 (.sl y221) a.2.2+0)):=by
  first | rfl | (simp only[Ac,Bi,Bj,Ax] <;> omega)
 rw[e];refine M8 (z79 _ _ b.1 h m) (fun o c j=>?_) h;have f:=Int.le_trans j m;refine M8 (z80 _ _ b.2.1 c f) (fun q g i=>?_) c;have d:=Int.le_trans i f;refine M8 (z81 _ _ b.2.2 g d) (fun s n k=>?_) g;have r:=Int.le_trans k d;exact T7 n
theorem M0L(a:AX)(l:Int)(b:wf y342 a)(h:0<=l)(m:l<=9223372036854775807):Ku a l=some (r7 (h9 y342 a) l):=by
 unfold Ku;have e:h9 y342 a=h9 (.sl (.int .i64)) a.1+(h9 (.sl (.int .i64)) a.2.1+(h9 (.sl (.int .i64)) a.2.2+0)):=by
  first | rfl | (simp only[Ac,Bi,Bj,Ax] <;> omega)
 rw[e];refine M8 (DB _ _ b.1 h m) (fun o c j=>?_) h;have f:=Int.le_trans j m;refine M8 (DB _ _ b.2.1 c f) (fun q g i=>?_) c;have d:=Int.le_trans i f;refine M8 (DB _ _ b.2.2 g d) (fun s n k=>?_) g;have r:=Int.le_trans k d;exact T7 n
theorem K0U(a:List AX)(l:Int)(b:wf (.sl y342) a)(h:0<=l)(m:l<=9223372036854775807):Gr a l=some (r7 (h9 (.sl y342) a) l):=by
 unfold Gr;rw[BZ];refine FE (d:=a7 y342) (c:=h9 y342) b.1 h m (fun g v i hi f e=>?_) (fun g v i hi=>FF hi);exact GW (M0L _ _ (M9 hi b) f e) hi b.1
theorem M0M(a:BL)(l:Int)(b:wf y300 a)(h:0<=l)(m:l<=9223372036854775807):Kv a l=some (r7 (h9 y300 a) l):=by
 unfold Kv;have e:h9 y300 a=h9 (.sl y342) a.2.2.2.2.1+(h9 (.sl y342) a.2.2.2.2.2+0):=by
  first | rfl | (simp only[Ac,Bi,Bj,Ax] <;> omega)
 rw[e];refine M8 (K0U _ _ b.2.2.2.2.1 h m) (fun j c g=>?_) h;have d:=Int.le_trans g m;refine M8 (K0U _ _ b.2.2.2.2.2 c d) (fun n i f=>?_) c;have k:=Int.le_trans f d;exact T7 i
theorem M0O(a:List BL)(l:Int)(b:wf (.sl y300) a)(h:0<=l)(m:l<=9223372036854775807):Kw a l=some (r7 (h9 (.sl y300) a) l):=by
 unfold Kw;rw[BZ];refine FE (d:=a7 y300) (c:=h9 y300) b.1 h m (fun g v i hi f e=>?_) (fun g v i hi=>FF hi);exact GW (M0M _ _ (M9 hi b) f e) hi b.1
theorem M0N(a:BM)(l:Int)(b:wf y296 a)(h:0<=l)(m:l<=9223372036854775807):Kx a l=some (r7 (h9 y296 a) l):=by
 unfold Kx;have e:h9 y296 a=a.1.size+0:=by
  first | rfl | (simp only[Ac,Bi,Bj,Ax] <;> omega)
 rw[e];refine CK b.1 h m (fun c=>?_);have d:(l-(a.1.size:Int))<=9223372036854775807:=by omega
 exact T7 c
theorem M0P(a:List BM)(l:Int)(b:wf (.sl y296) a)(h:0<=l)(m:l<=9223372036854775807):Ky a l=some (r7 (h9 (.sl y296) a) l):=by
 unfold Ky;rw[BZ];refine FE (d:=a7 y296) (c:=h9 y296) b.1 h m (fun g v i hi f e=>?_) (fun g v i hi=>FF hi);exact GW (M0N _ _ (M9 hi b) f e) hi b.1
theorem M0S(a:X5)(l:Int)(b:wf y216 a)(h:0<=l)(m:l<=9223372036854775807):Kz a l=some (r7 (h9 y216 a) l):=by
 unfold Kz;have e:h9 y216 a=a.1.size+(h9 (.sl y296) a.2.2.1+(h9 (.sl y300) a.2.2.2.1+(h9 (.sl (.int .i64)) a.2.2.2.2.1+0))):=by
  first | rfl | (simp only[Ac,Bi,Bj,Ax] <;> omega)
 rw[e];refine CK b.1 h m (fun c=>?_);have i:(l-(a.1.size:Int))<=9223372036854775807:=by omega
 refine M8 (M0P _ _ b.2.2.1 c i) (fun t j k=>?_) c;have d:=Int.le_trans k i;refine M8 (M0O _ _ b.2.2.2.1 j d) (fun u g n=>?_) j;have f:=Int.le_trans n d;refine M8 (DB _ _ b.2.2.2.2.1 g f) (fun s q o=>?_) g;have r:=Int.le_trans o f;exact T7 q
theorem z78(a:List X5)(l:Int)(b:wf (.sl y216) a)(h:0<=l)(m:l<=9223372036854775807):KA a l=some (r7 (h9 (.sl y216) a) l):=by
 unfold KA;rw[BZ];refine FE (d:=a7 y216) (c:=h9 y216) b.1 h m (fun g v i hi f e=>?_) (fun g v i hi=>FF hi);exact GW (M0S _ _ (M9 hi b) f e) hi b.1
theorem z35(a:List X5)(l:Int)(c:wf (.sl y216) a)(h:0<=l)(m:l<=9223372036854775807):KB a l=some (r7 (h9 (.sl y216) a) l):=by
 unfold KB;have e:h9 (.sl y216) a=h9 (.sl y216) a+0:=by
  first | rfl | (simp only[Ac,Bi,Bj,Ax] <;> omega)
 rw[e];refine M8 (z78 _ _ c h m) (fun f d b=>?_) h;have g:=Int.le_trans b m;exact T7 d
theorem z7(a:Dm)(l:Int)(b:wf Z7 a)(h:0<=l)(m:l<=9223372036854775807):u7 a l=some (r7 (h9 Z7 a) l):=by
 unfold u7;have e:h9 Z7 a=h9 (.sl y216) a.1+(h9 BK a.2.1+(h9 (.sl y146) a.2.2+0)):=by
  first | rfl | (simp only[Ac,Bi,Bj,Ax] <;> omega)
 rw[e];refine M8 (z35 _ _ b.1 h m) (fun o c j=>?_) h;have f:=Int.le_trans j m;refine M8 (z36 _ _ b.2.1 c f) (fun q g i=>?_) c;have d:=Int.le_trans i f;refine M8 (z37 _ _ b.2.2 g d) (fun s n k=>?_) g;have r:=Int.le_trans k d;exact T7 n
theorem z8(a:Dn)(l:Int)(b:wf Z8 a)(h:0<=l)(m:l<=9223372036854775807):u8 a l=some (r7 (h9 Z8 a) l):=by
 unfold u8;have e:h9 Z8 a=a.1.size+0:=by
  first | rfl | (simp only[Ac,Bi,Bj,Ax] <;> omega)
 rw[e];refine CK b.1 h m (fun c=>?_);have d:(l-(a.1.size:Int))<=9223372036854775807:=by omega
 exact T7 c
theorem z9(a:List BN)(l:Int)(b:wf (.sl y106) a)(h:0<=l)(m:l<=9223372036854775807):u9 a l=some (r7 (h9 (.sl y106) a) l):=by
 unfold u9;have e:h9 (.sl y106) a=a.length+0:=TK (fun _=>rfl);rw[e];exact CK b.1 h m fun H=>T7 H
theorem z39(a:List BO)(l:Int)(b:wf (.sl y104) a)(h:0<=l)(m:l<=9223372036854775807):Gs a l=some (r7 (h9 (.sl y104) a) l):=by
 unfold Gs;have e:h9 (.sl y104) a=a.length+0:=TK (fun _=>rfl);rw[e];exact CK b.1 h m fun H=>T7 H
theorem z38(a:List Bool)(l:Int)(b:wf (.sl .bool) a)(h:0<=l)(m:l<=9223372036854775807):KC a l=some (r7 (h9 (.sl .bool) a) l):=by
 unfold KC;have e:h9 (.sl .bool) a=a.length+0:=TK (fun _=>rfl);rw[e];exact CK b.1 h m fun H=>T7 H
theorem z10(a:Dp)(l:Int)(b:wf AY a)(h:0<=l)(m:l<=9223372036854775807):Ol a l=some (r7 (h9 AY a) l):=by
 unfold Ol;have e:h9 AY a=h9 (.sl .bool) a.1+(h9 (.sl y104) a.2.1+(h9 (.sl y104) a.2.2+0)):=by
  first | rfl | (simp only[Ac,Bi,Bj,Ax] <;> omega)
 rw[e];refine M8 (z38 _ _ b.1 h m) (fun o c j=>?_) h;have f:=Int.le_trans j m;refine M8 (z39 _ _ b.2.1 c f) (fun q g i=>?_) c;have d:=Int.le_trans i f;refine M8 (z39 _ _ b.2.2 g d) (fun s n k=>?_) g;have r:=Int.le_trans k d;exact T7 n
theorem w14(a:List Int)(h:h9 (.sl (.int .i64)) a<=1048576):N5 a=some a:=by
 unfold N5;have b:a.length<=9223372036854775807:=Nat.le_trans (B7 h) (by decide);exact Bk (d:=a7 (.int .i64)) (B7 h) (by decide) (fun g i e hi c=>TL hi b c) (fun g i e hi=>Bl hi)
theorem w98(a:BH)(h:h9 y146 a<=1048576):Ir a=some a:=by
 unfold Ir;refine K9 (w14 _ (cF h)) ?_;refine K9 (w14 _ (cF (cS h))) ?_;refine K9 (w14 _ (cF (cS (cS h)))) ?_;refine K9 (w14 _ (cS (cS (cS h)))) ?_;rfl
theorem w47(a:List BH)(h:h9 (.sl y146) a<=1048576):Ll a=some a:=by
 unfold Ll;have b:a.length<=9223372036854775807:=Nat.le_trans (B7 h) (by decide);exact Bk (d:=a7 y146) (B7 h) (by decide) (fun g i e hi c=>DC (w98 _ (Q3 hi h)) hi b c) (fun g i e hi=>Bl hi)
theorem N0b(a:BI)(h:h9 y221 a<=1048576):Lm a=some a:=by
 unfold Lm;rfl
theorem w97(a:List BI)(h:h9 (.sl y221) a<=1048576):Ln a=some a:=by
 unfold Ln;have b:a.length<=9223372036854775807:=Nat.le_trans (B7 h) (by decide);rw[lE];exact Bk (d:=a7 y221) (B7 h) (by decide) (fun g i e hi c=>DC (N0b _ (Q3 hi h)) hi b c) (fun g i e hi=>Bl hi)
theorem w96(a:List ByteArray)(h:h9 (.sl .str) a<=1048576):Lo a=some a:=by
 unfold Lo;have b:a.length<=9223372036854775807:=Nat.le_trans (B7 h) (by decide);exact Bk (d:=a7 .str) (B7 h) (by decide) (fun g i e hi c=>TL hi b c) (fun g i e hi=>Bl hi)
theorem N0c(a:BJ)(h:h9 y218 a<=1048576):It a=some a:=by
 unfold It;refine K9 (w14 _ (cS (cS h))) ?_;rfl
theorem w95(a:List BJ)(h:h9 (.sl y218) a<=1048576):Lp a=some a:=by
 unfold Lp;have b:a.length<=9223372036854775807:=Nat.le_trans (B7 h) (by decide);rw[lE];exact Bk (d:=a7 y218) (B7 h) (by decide) (fun g i e hi c=>DC (N0c _ (Q3 hi h)) hi b c) (fun g i e hi=>Bl hi)
theorem w46(a:Kt)(h:h9 BK a<=1048576):Lq a=some a:=by
 unfold Lq;refine K9 (w95 _ (cF h)) ?_;refine K9 (w96 _ (cF (cS h))) ?_;refine K9 (w97 _ (cS (cS h))) ?_;rfl
theorem M0W(a:AX)(h:h9 y342 a<=1048576):Iu a=some a:=by
 unfold Iu;refine K9 (w14 _ (cF h)) ?_;refine K9 (w14 _ (cF (cS h))) ?_;refine K9 (w14 _ (cS (cS h))) ?_;rfl
theorem K0V(a:List AX)(h:h9 (.sl y342) a<=1048576):GA a=some a:=by
 unfold GA;have b:a.length<=9223372036854775807:=Nat.le_trans (B7 h) (by decide);exact Bk (d:=a7 y342) (B7 h) (by decide) (fun g i e hi c=>DC (M0W _ (Q3 hi h)) hi b c) (fun g i e hi=>Bl hi)
theorem M0X(a:BL)(h:h9 y300 a<=1048576):Iv a=some a:=by
 unfold Iv;refine K9 (K0V _ (cF (cS (cS (cS (cS h)))))) ?_;refine K9 (K0V _ (cS (cS (cS (cS (cS h)))))) ?_;rfl
theorem M0Z(a:List BL)(h:h9 (.sl y300) a<=1048576):Lr a=some a:=by
 unfold Lr;have b:a.length<=9223372036854775807:=Nat.le_trans (B7 h) (by decide);rw[lE];exact Bk (d:=a7 y300) (B7 h) (by decide) (fun g i e hi c=>DC (M0X _ (Q3 hi h)) hi b c) (fun g i e hi=>Bl hi)
theorem M0Y(a:BM)(h:h9 y296 a<=1048576):Ls a=some a:=by
 unfold Ls;rfl
theorem N0a(a:List BM)(h:h9 (.sl y296) a<=1048576):Lt a=some a:=by
 unfold Lt;have b:a.length<=9223372036854775807:=Nat.le_trans (B7 h) (by decide);rw[lE];exact Bk (d:=a7 y296) (B7 h) (by decide) (fun g i e hi c=>DC (M0Y _ (Q3 hi h)) hi b c) (fun g i e hi=>Bl hi)
theorem N0d(a:X5)(h:h9 y216 a<=1048576):Iw a=some a:=by
 unfold Iw;refine K9 (N0a _ (cF (cS (cS h)))) ?_;refine K9 (M0Z _ (cF (cS (cS (cS h))))) ?_;refine K9 (w14 _ (cF (cS (cS (cS (cS h)))))) ?_;rfl
theorem w94(a:List X5)(h:h9 (.sl y216) a<=1048576):Lu a=some a:=by
 unfold Lu;have b:a.length<=9223372036854775807:=Nat.le_trans (B7 h) (by decide);rw[lE];exact Bk (d:=a7 y216) (B7 h) (by decide) (fun g i e hi c=>DC (N0d _ (Q3 hi h)) hi b c) (fun g i e hi=>Bl hi)
theorem w45(a:List X5)(h:h9 (.sl y216) a<=1048576):Lv a=some a:=by
 unfold Lv;refine K9 (w94 _ h) ?_;rfl
theorem w12(a:Dm)(h:h9 Z7 a<=1048576):Lw a=some a:=by
 unfold Lw;refine K9 (w45 _ (cF h)) ?_;refine K9 (w46 _ (cF (cS h))) ?_;refine K9 (w47 _ (cS (cS h))) ?_;rfl
theorem w13(a:Dn)(h:h9 Z8 a<=1048576):Lx a=some a:=by
 unfold Lx;rfl
theorem TM(a:BO)(h:h9 y104 a<=1048576):Dw a=some a:=by
 unfold Dw;rfl
theorem w48(a:BN)(h:h9 y106 a<=1048576):Lz a=some a:=by
 unfold Lz;refine K9 (TM _ (cF (cS h))) ?_;refine K9 (TM _ (cS (cS h))) ?_;rfl
theorem w15(a:List BN)(h:h9 (.sl y106) a<=1048576):OR a=some a:=by
 unfold OR;have b:a.length<=9223372036854775807:=Nat.le_trans (B7 h) (by decide);rw[lE];exact Bk (d:=a7 y106) (B7 h) (by decide) (fun g i e hi c=>DC (w48 _ (Q3 hi h)) hi b c) (fun g i e hi=>Bl hi)
theorem w50(a:List BO)(h:h9 (.sl y104) a<=1048576):GB a=some a:=by
 unfold GB;have b:a.length<=9223372036854775807:=Nat.le_trans (B7 h) (by decide);rw[lE];exact Bk (d:=a7 y104) (B7 h) (by decide) (fun g i e hi c=>DC (TM _ (Q3 hi h)) hi b c) (fun g i e hi=>Bl hi)
theorem w49(a:List Bool)(h:h9 (.sl .bool) a<=1048576):LA a=some a:=by
 unfold LA;have b:a.length<=9223372036854775807:=Nat.le_trans (B7 h) (by decide);exact Bk (d:=a7 .bool) (B7 h) (by decide) (fun g i e hi c=>TL hi b c) (fun g i e hi=>Bl hi)
theorem w16(a:Dp)(h:h9 AY a<=1048576):u16 a=some a:=by
 unfold u16;refine K9 (w49 _ (cF h)) ?_;refine K9 (w50 _ (cF (cS h))) ?_;refine K9 (w50 _ (cS (cS h))) ?_;rfl
theorem Ca(a:List Int)(h:h9 (.sl (.int .i64)) a<=1048576):M6 a a=some true:=by
 unfold M6;have b:a.length<=9223372036854775807:=Nat.le_trans (B7 h) (by decide);exact Bm b (fun g i hi=>TN (by simp) hi b) (fun g i hi=>if_neg (by simp; omega))
theorem T0k(a:C3)(h:h9 y172 a<=1048576):LB a a=some true:=by
 unfold LB;refine L4 (Ca _ (cF h)) ?_;refine L4 (Ca _ (cF (cS h))) ?_;refine L4 (Ca _ (cF (cS (cS h)))) ?_;refine L4 (Ca _ (cS (cS (cS h)))) ?_;rfl
theorem e56(a:List C3)(h:h9 (.sl y172) a<=1048576):LC a a=some true:=by
 unfold LC;have b:a.length<=9223372036854775807:=Nat.le_trans (B7 h) (by decide);exact Bm b (fun g i hi=>DD (T0k _ (Q3 hi h)) hi b) (fun g i hi=>if_neg (by simp; omega))
theorem T0h(a:J3)(h:h9 y231 a<=1048576):LD a a=some true:=by
 unfold LD;refine PQ rfl ?_
 first | refine V4 ?_ | refine X9 ?_
 first | refine V4 ?_ | refine X9 ?_
 rfl
theorem T0l(a:List J3)(h:h9 (.sl y231) a<=1048576):LF a a=some true:=by
 unfold LF;have b:a.length<=9223372036854775807:=Nat.le_trans (B7 h) (by decide);exact Bm b (fun g i hi=>DD (T0h _ (Q3 hi h)) hi b) (fun g i hi=>if_neg (by simp; omega))
theorem T0m(a:List ByteArray)(h:h9 (.sl .str) a<=1048576):LG a a=some true:=by
 unfold LG;have b:a.length<=9223372036854775807:=Nat.le_trans (B7 h) (by decide);exact Bm b (fun g i hi=>TN (by simp) hi b) (fun g i hi=>if_neg (by simp; omega))
theorem T0i(a:F7)(h:h9 y155 a<=1048576):LH a a=some true:=by
 unfold LH;refine PQ rfl ?_
 first | refine V4 ?_ | refine X9 ?_
 refine L4 (Ca _ (cS (cS h))) ?_;rfl
theorem T0n(a:List F7)(h:h9 (.sl y155) a<=1048576):LI a a=some true:=by
 unfold LI;have b:a.length<=9223372036854775807:=Nat.le_trans (B7 h) (by decide);exact Bm b (fun g i hi=>DD (T0i _ (Q3 hi h)) hi b) (fun g i hi=>if_neg (by simp; omega))
theorem e55(a:p9)(h:h9 y53 a<=1048576):LJ a a=some true:=by
 unfold LJ;refine L4 (T0n _ (cF h)) ?_;refine L4 (T0m _ (cF (cS h))) ?_;refine L4 (T0l _ (cS (cS h))) ?_;rfl
theorem T0c(a:o5)(h:h9 y269 a<=1048576):LK a a=some true:=by
 unfold LK;refine L4 (Ca _ (cF h)) ?_;refine L4 (Ca _ (cF (cS h))) ?_;refine L4 (Ca _ (cS (cS h))) ?_;rfl
theorem M0D(a:List o5)(h:h9 (.sl y269) a<=1048576):GC a a=some true:=by
 unfold GC;have b:a.length<=9223372036854775807:=Nat.le_trans (B7 h) (by decide);exact Bm b (fun g i hi=>DD (T0c _ (Q3 hi h)) hi b) (fun g i hi=>if_neg (by simp; omega))
theorem T0d(a:A6)(h:h9 y158 a<=1048576):LL a a=some true:=by
 unfold LL
 first | refine V4 ?_ | refine X9 ?_
 first | refine V4 ?_ | refine X9 ?_
 first | refine V4 ?_ | refine X9 ?_
 first | refine V4 ?_ | refine X9 ?_
 refine L4 (M0D _ (cF (cS (cS (cS (cS h)))))) ?_;refine L4 (M0D _ (cS (cS (cS (cS (cS h)))))) ?_;rfl
theorem T0f(a:List A6)(h:h9 (.sl y158) a<=1048576):LM a a=some true:=by
 unfold LM;have b:a.length<=9223372036854775807:=Nat.le_trans (B7 h) (by decide);exact Bm b (fun g i hi=>DD (T0d _ (Q3 hi h)) hi b) (fun g i hi=>if_neg (by simp; omega))
theorem T0e(a:F3)(h:h9 y293 a<=1048576):LN a a=some true:=by
 unfold LN;refine PQ rfl ?_
 first | refine V4 ?_ | refine X9 ?_
 first | refine V4 ?_ | refine X9 ?_
 refine K0M ?_;rfl
theorem T0g(a:List F3)(h:h9 (.sl y293) a<=1048576):LO a a=some true:=by
 unfold LO;have b:a.length<=9223372036854775807:=Nat.le_trans (B7 h) (by decide);exact Bm b (fun g i hi=>DD (T0e _ (Q3 hi h)) hi b) (fun g i hi=>if_neg (by simp; omega))
theorem T0j(a:l6)(h:h9 y153 a<=1048576):LP a a=some true:=by
 unfold LP;refine PQ rfl ?_
 first | refine V4 ?_ | refine X9 ?_
 refine L4 (T0g _ (cF (cS (cS h)))) ?_;refine L4 (T0f _ (cF (cS (cS (cS h))))) ?_;refine L4 (Ca _ (cF (cS (cS (cS (cS h)))))) ?_
 first | refine V4 ?_ | refine X9 ?_
 first | refine V4 ?_ | refine X9 ?_
 rfl
theorem T0o(a:List l6)(h:h9 (.sl y153) a<=1048576):LQ a a=some true:=by
 unfold LQ;have b:a.length<=9223372036854775807:=Nat.le_trans (B7 h) (by decide);exact Bm b (fun g i hi=>DD (T0j _ (Q3 hi h)) hi b) (fun g i hi=>if_neg (by simp; omega))
theorem e54(a:List l6)(h:h9 (.sl y153) a<=1048576):LR a a=some true:=by
 unfold LR;refine L4 (T0o _ h) ?_;rfl
theorem e18(a:j1)(h:h9 j6 a<=1048576):OT a a=some true:=by
 unfold OT;refine L4 (e54 _ (cF h)) ?_;refine L4 (e55 _ (cF (cS h))) ?_;refine L4 (e56 _ (cS (cS h))) ?_;rfl
theorem TO(a:B0)(h:h9 y73 a<=1048576):Dx a a=some true:=by
 unfold Dx
 first | refine V4 ?_ | refine X9 ?_
 first | refine V4 ?_ | refine X9 ?_
 rfl
theorem e24(a:r8)(h:h9 y75 a<=1048576):LS a a=some true:=by
 unfold LS
 first | refine V4 ?_ | refine X9 ?_
 refine L4 (TO _ (cF (cS h))) ?_;refine L4 (TO _ (cS (cS h))) ?_;rfl
theorem e20(a:List r8)(h:h9 (.sl y75) a<=1048576):OU a a=some true:=by
 unfold OU;have b:a.length<=9223372036854775807:=Nat.le_trans (B7 h) (by decide);exact Bm b (fun g i hi=>DD (e24 _ (Q3 hi h)) hi b) (fun g i hi=>if_neg (by simp; omega))
theorem e58(a:List B0)(h:h9 (.sl y73) a<=1048576):GD a a=some true:=by
 unfold GD;have b:a.length<=9223372036854775807:=Nat.le_trans (B7 h) (by decide);exact Bm b (fun g i hi=>DD (TO _ (Q3 hi h)) hi b) (fun g i hi=>if_neg (by simp; omega))
theorem e57(a:List Bool)(h:h9 (.sl .bool) a<=1048576):LU a a=some true:=by
 unfold LU;have b:a.length<=9223372036854775807:=Nat.le_trans (B7 h) (by decide);exact Bm b (fun g i hi=>TN (by simp) hi b) (fun g i hi=>if_neg (by simp; omega))
theorem e21(a:C0)(h:h9 y65 a<=1048576):OV a a=some true:=by
 unfold OV;refine L4 (e57 _ (cF h)) ?_;refine L4 (e58 _ (cF (cS h))) ?_;refine L4 (e58 _ (cS (cS h))) ?_;rfl
end Go.Proofs.YtechodbafnmddaaGreatDoor
end

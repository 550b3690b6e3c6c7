/- Laws of sizes, copies and comparisons: printed by program. -/
import Derived.Test.YtechodbafnmddaaGreatDoorF91c
import Derived.Test.YtechodbafnmddaaGreatDoorXF
section
namespace Go.Proofs.YtechodbafnmddaaGreatDoor
open Go Go.Proofs Go.Proofs.Xv Go.Proofs.Xl Go.Proofs.Xd
theorem Rb{e:Ty}{a:List (j2 e)}(h:∀x,j0 e x=0):j0 (.sl e) a=a.length+0:=by
 have:a.map (j0 e)=a.map (fun _=>0):=List.map_congr_left (fun x _=>h x);show a.length+(a.map (j0 e)).sum=_;rw[this];congr 1
 induction a with
 | nil=>rfl
 | cons x r b=>simp only[List.map_cons,List.sum_cons,Nat.zero_add]; exact b (List.map_congr_left (fun x _=>h x))
theorem BQ(a:List Int)(l:Int)(b:wf (.sl (.int .i64)) a)(h:0<=l)(m:l<=9223372036854775807):I4 a l=some (n6 (j0 (.sl (.int .i64)) a) l):=by
 unfold I4;have e:j0 (.sl (.int .i64)) a=a.length+0:=Zt;rw[e];exact Bc b.1 h m fun H=>M4 H
theorem z82(a:Ab)(l:Int)(b:wf y146 a)(h:0<=l)(m:l<=9223372036854775807):Ic a l=some (n6 (j0 y146 a) l):=by
 unfold Ic;have e:j0 y146 a=j0 (.sl (.int .i64)) a.1+(j0 (.sl (.int .i64)) a.2.1+(j0 (.sl (.int .i64)) a.2.2.1+(j0 (.sl (.int .i64)) a.2.2.2+0))):=by
  first | rfl | (simp only[S0,Y0,Y1,U7] <;> omega)
 rw[e];refine H0 (BQ _ _ b.1 h m) (fun w i r=>?_) h;have c:=Int.le_trans r m;refine H0 (BQ _ _ b.2.1 i c) (fun s j k=>?_) i;have d:=Int.le_trans k c;refine H0 (BQ _ _ b.2.2.1 j d) (fun t f o=>?_) j;have g:=Int.le_trans o d;refine H0 (BQ _ _ b.2.2.2 f g) (fun v n q=>?_) f;have u:=Int.le_trans q g;exact M4 n
theorem z37(a:List Ab)(l:Int)(b:wf (.sl y146) a)(h:0<=l)(m:l<=9223372036854775807):Ie a l=some (n6 (j0 (.sl y146) a) l):=by
 unfold Ie;rw[Aq];refine CM (d:=a7 y146) (c:=j0 y146) b.1 h m (fun g v i hi f e=>?_) (fun g v i hi=>CN hi);exact DZ (z82 _ _ (H2 hi b) f e) hi b.1
theorem K0q(a:Ac)(l:Int)(b:wf y221 a)(h:0<=l)(m:l<=9223372036854775807):Ig a l=some (n6 (j0 y221 a) l):=by
 unfold Ig;have e:j0 y221 a=a.1.size+0:=by
  first | rfl | (simp only[S0,Y0,Y1,U7] <;> omega)
 rw[e];refine Bc b.1 h m (fun c=>?_);have d:(l-(a.1.size:Int))<=9223372036854775807:=by omega
 exact M4 c
theorem z81(a:List Ac)(l:Int)(b:wf (.sl y221) a)(h:0<=l)(m:l<=9223372036854775807):Ih a l=some (n6 (j0 (.sl y221) a) l):=by
 unfold Ih;rw[Aq];refine CM (d:=a7 y221) (c:=j0 y221) b.1 h m (fun g v i hi f e=>?_) (fun g v i hi=>CN hi);exact DZ (K0q _ _ (H2 hi b) f e) hi b.1
theorem z80(a:List ByteArray)(l:Int)(b:wf (.sl .str) a)(h:0<=l)(m:l<=9223372036854775807):Ii a l=some (n6 (j0 (.sl .str) a) l):=by
 unfold Ii;rw[Aq];refine CM (d:=a7 .str) (c:=j0 .str) b.1 h m (fun g v i hi j e=>?_) (fun g v i hi=>CN hi);have f:=H2 (d:=a7 .str) hi b;rw[U7];exact H0m hi b.1 f j e
theorem K0r(a:Ad)(l:Int)(c:wf y218 a)(h:0<=l)(m:l<=9223372036854775807):Ij a l=some (n6 (j0 y218 a) l):=by
 unfold Ij;have e:j0 y218 a=a.1.size+(j0 (.sl (.int .i64)) a.2.2+0):=by
  first | rfl | (simp only[S0,Y0,Y1,U7] <;> omega)
 rw[e];refine Bc c.1 h m (fun d=>?_);have b:(l-(a.1.size:Int))<=9223372036854775807:=by omega
 refine H0 (BQ _ _ c.2.2 d b) (fun i g f=>?_) d;have j:=Int.le_trans f b;exact M4 g
theorem z79(a:List Ad)(l:Int)(b:wf (.sl y218) a)(h:0<=l)(m:l<=9223372036854775807):Ik a l=some (n6 (j0 (.sl y218) a) l):=by
 unfold Ik;rw[Aq];refine CM (d:=a7 y218) (c:=j0 y218) b.1 h m (fun g v i hi f e=>?_) (fun g v i hi=>CN hi);exact DZ (K0r _ _ (H2 hi b) f e) hi b.1
theorem z36(a:Im)(l:Int)(b:wf BE a)(h:0<=l)(m:l<=9223372036854775807):Il a l=some (n6 (j0 BE a) l):=by
 unfold Il;have e:j0 BE a=j0 (.sl y218) a.1+(j0 (.sl .str) a.2.1+(j0 (.sl y221) a.2.2+0)):=by
  first | rfl | (simp only[S0,Y0,Y1,U7] <;> omega)
 rw[e];refine H0 (z79 _ _ b.1 h m) (fun s f n=>?_) h;have c:=Int.le_trans n m;refine H0 (z80 _ _ b.2.1 f c) (fun o g i=>?_) f;have d:=Int.le_trans i c;refine H0 (z81 _ _ b.2.2 g d) (fun q j k=>?_) g;have r:=Int.le_trans k d;exact M4 j
theorem K0l(a:W9)(l:Int)(b:wf y342 a)(h:0<=l)(m:l<=9223372036854775807):Io a l=some (n6 (j0 y342 a) l):=by
 unfold Io;have e:j0 y342 a=j0 (.sl (.int .i64)) a.1+(j0 (.sl (.int .i64)) a.2.1+(j0 (.sl (.int .i64)) a.2.2+0)):=by
  first | rfl | (simp only[S0,Y0,Y1,U7] <;> omega)
 rw[e];refine H0 (BQ _ _ b.1 h m) (fun s f n=>?_) h;have c:=Int.le_trans n m;refine H0 (BQ _ _ b.2.1 f c) (fun o g i=>?_) f;have d:=Int.le_trans i c;refine H0 (BQ _ _ b.2.2 g d) (fun q j k=>?_) g;have r:=Int.le_trans k d;exact M4 j
theorem Zu(a:List W9)(l:Int)(b:wf (.sl y342) a)(h:0<=l)(m:l<=9223372036854775807):Dw a l=some (n6 (j0 (.sl y342) a) l):=by
 unfold Dw;rw[Aq];refine CM (d:=a7 y342) (c:=j0 y342) b.1 h m (fun g v i hi f e=>?_) (fun g v i hi=>CN hi);exact DZ (K0l _ _ (H2 hi b) f e) hi b.1
theorem K0m(a:Ae)(l:Int)(c:wf y300 a)(h:0<=l)(m:l<=9223372036854775807):Ip a l=some (n6 (j0 y300 a) l):=by
 unfold Ip;have e:j0 y300 a=j0 (.sl y342) a.2.2.2.2.1+(j0 (.sl y342) a.2.2.2.2.2+0):=by
  first | rfl | (simp only[S0,Y0,Y1,U7] <;> omega)
 rw[e];refine H0 (Zu _ _ c.2.2.2.2.1 h m) (fun n d i=>?_) h;have b:=Int.le_trans i m;refine H0 (Zu _ _ c.2.2.2.2.2 d b) (fun j g f=>?_) d;have k:=Int.le_trans f b;exact M4 g
theorem K0o(a:List Ae)(l:Int)(b:wf (.sl y300) a)(h:0<=l)(m:l<=9223372036854775807):Iq a l=some (n6 (j0 (.sl y300) a) l):=by
 unfold Iq;rw[Aq];refine CM (d:=a7 y300) (c:=j0 y300) b.1 h m (fun g v i hi f e=>?_) (fun g v i hi=>CN hi);exact DZ (K0m _ _ (H2 hi b) f e) hi b.1
theorem K0n(a:Af)(l:Int)(b:wf y296 a)(h:0<=l)(m:l<=9223372036854775807):Ir a l=some (n6 (j0 y296 a) l):=by
 unfold Ir;have e:j0 y296 a=a.1.size+0:=by
  first | rfl | (simp only[S0,Y0,Y1,U7] <;> omega)
 rw[e];refine Bc b.1 h m (fun c=>?_);have d:(l-(a.1.size:Int))<=9223372036854775807:=by omega
 exact M4 c
theorem K0p(a:List Af)(l:Int)(b:wf (.sl y296) a)(h:0<=l)(m:l<=9223372036854775807):Is a l=some (n6 (j0 (.sl y296) a) l):=by
 unfold Is;rw[Aq];refine CM (d:=a7 y296) (c:=j0 y296) b.1 h m (fun g v i hi f e=>?_) (fun g v i hi=>CN hi);exact DZ (K0n _ _ (H2 hi b) f e) hi b.1
theorem K0s(a:P2)(l:Int)(b:wf y216 a)(h:0<=l)(m:l<=9223372036854775807):It a l=some (n6 (j0 y216 a) l):=by
 unfold It;have e:j0 y216 a=a.1.size+(j0 (.sl y296) a.2.2.1+(j0 (.sl y300) a.2.2.2.1+(j0 (.sl (.int .i64)) a.2.2.2.2.1+0))):=by
  first | rfl | (simp only[S0,Y0,Y1,U7] <;> omega)
 rw[e];refine Bc b.1 h m (fun i=>?_);have c:(l-(a.1.size:Int))<=9223372036854775807:=by omega
 refine H0 (K0p _ _ b.2.2.1 i c) (fun r j k=>?_) i;have d:=Int.le_trans k c;refine H0 (K0o _ _ b.2.2.2.1 j d) (fun s f o=>?_) j;have g:=Int.le_trans o d;refine H0 (BQ _ _ b.2.2.2.2.1 f g) (fun t n q=>?_) f;have u:=Int.le_trans q g;exact M4 n
theorem z78(a:List P2)(l:Int)(b:wf (.sl y216) a)(h:0<=l)(m:l<=9223372036854775807):Iu a l=some (n6 (j0 (.sl y216) a) l):=by
 unfold Iu;rw[Aq];refine CM (d:=a7 y216) (c:=j0 y216) b.1 h m (fun g v i hi f e=>?_) (fun g v i hi=>CN hi);exact DZ (K0s _ _ (H2 hi b) f e) hi b.1
theorem z35(a:List P2)(l:Int)(b:wf (.sl y216) a)(h:0<=l)(m:l<=9223372036854775807):Iv a l=some (n6 (j0 (.sl y216) a) l):=by
 unfold Iv;have e:j0 (.sl y216) a=j0 (.sl y216) a+0:=by
  first | rfl | (simp only[S0,Y0,Y1,U7] <;> omega)
 rw[e];refine H0 (z78 _ _ b h m) (fun g c d=>?_) h;have f:=Int.le_trans d m;exact M4 c
theorem z7(a:Gf)(l:Int)(b:wf R6 a)(h:0<=l)(m:l<=9223372036854775807):u7 a l=some (n6 (j0 R6 a) l):=by
 unfold u7;have e:j0 R6 a=j0 (.sl y216) a.1+(j0 BE a.2.1+(j0 (.sl y146) a.2.2+0)):=by
  first | rfl | (simp only[S0,Y0,Y1,U7] <;> omega)
 rw[e];refine H0 (z35 _ _ b.1 h m) (fun s f n=>?_) h;have c:=Int.le_trans n m;refine H0 (z36 _ _ b.2.1 f c) (fun o g i=>?_) f;have d:=Int.le_trans i c;refine H0 (z37 _ _ b.2.2 g d) (fun q j k=>?_) g;have r:=Int.le_trans k d;exact M4 j
theorem z8(a:Gg)(l:Int)(b:wf U1 a)(h:0<=l)(m:l<=9223372036854775807):u8 a l=some (n6 (j0 U1 a) l):=by
 unfold u8;have e:j0 U1 a=a.1.size+0:=by
  first | rfl | (simp only[S0,Y0,Y1,U7] <;> omega)
 rw[e];refine Bc b.1 h m (fun c=>?_);have d:(l-(a.1.size:Int))<=9223372036854775807:=by omega
 exact M4 c
theorem z9(a:List BF)(l:Int)(b:wf (.sl y106) a)(h:0<=l)(m:l<=9223372036854775807):u9 a l=some (n6 (j0 (.sl y106) a) l):=by
 unfold u9;have e:j0 (.sl y106) a=a.length+0:=Rb (fun _=>rfl);rw[e];exact Bc b.1 h m fun H=>M4 H
theorem Zv(a:List Ag)(l:Int)(b:wf (.sl y104) a)(h:0<=l)(m:l<=9223372036854775807):Dx a l=some (n6 (j0 (.sl y104) a) l):=by
 unfold Dx;have e:j0 (.sl y104) a=a.length+0:=Rb (fun _=>rfl);rw[e];exact Bc b.1 h m fun H=>M4 H
theorem z38(a:List Bool)(l:Int)(b:wf (.sl .bool) a)(h:0<=l)(m:l<=9223372036854775807):Iw a l=some (n6 (j0 (.sl .bool) a) l):=by
 unfold Iw;have e:j0 (.sl .bool) a=a.length+0:=Rb (fun _=>rfl);rw[e];exact Bc b.1 h m fun H=>M4 H
theorem z10(a:Gi)(l:Int)(b:wf X0 a)(h:0<=l)(m:l<=9223372036854775807):Ix a l=some (n6 (j0 X0 a) l):=by
 unfold Ix;have e:j0 X0 a=j0 (.sl .bool) a.1+(j0 (.sl y104) a.2.1+(j0 (.sl y104) a.2.2+0)):=by
  first | rfl | (simp only[S0,Y0,Y1,U7] <;> omega)
 rw[e];refine H0 (z38 _ _ b.1 h m) (fun s f n=>?_) h;have c:=Int.le_trans n m;refine H0 (Zv _ _ b.2.1 f c) (fun o g i=>?_) f;have d:=Int.le_trans i c;refine H0 (Zv _ _ b.2.2 g d) (fun q j k=>?_) g;have r:=Int.le_trans k d;exact M4 j
theorem Bd(a:List Int)(h:j0 (.sl (.int .i64)) a<=1048576):C4 a=some a:=by
 unfold C4;have e:a.length<=9223372036854775807:=Nat.le_trans (w4 h) (by decide);exact Y2 (d:=a7 (.int .i64)) (w4 h) (by decide) (fun g i b hi c=>Rc hi e c) (fun g i b hi=>Y3 hi)
theorem w98(a:Ab)(h:j0 y146 a<=1048576):Gt a=some a:=by
 unfold Gt;refine F6 (Bd _ (cF h)) ?_;refine F6 (Bd _ (cF (cS h))) ?_;refine F6 (Bd _ (cF (cS (cS h)))) ?_;refine F6 (Bd _ (cS (cS (cS h)))) ?_;rfl
theorem w47(a:List Ab)(h:j0 (.sl y146) a<=1048576):Jh a=some a:=by
 unfold Jh;have e:a.length<=9223372036854775807:=Nat.le_trans (w4 h) (by decide);exact Y2 (d:=a7 y146) (w4 h) (by decide) (fun g i b hi c=>BR (w98 _ (K2 hi h)) hi e c) (fun g i b hi=>Y3 hi)
theorem K0A(a:Ac)(h:j0 y221 a<=1048576):Ji a=some a:=by
 unfold Ji;rfl
theorem w97(a:List Ac)(h:j0 (.sl y221) a<=1048576):Jj a=some a:=by
 unfold Jj;have e:a.length<=9223372036854775807:=Nat.le_trans (w4 h) (by decide);rw[lE];exact Y2 (d:=a7 y221) (w4 h) (by decide) (fun g i b hi c=>BR (K0A _ (K2 hi h)) hi e c) (fun g i b hi=>Y3 hi)
theorem w96(a:List ByteArray)(h:j0 (.sl .str) a<=1048576):Jk a=some a:=by
 unfold Jk;have e:a.length<=9223372036854775807:=Nat.le_trans (w4 h) (by decide);exact Y2 (d:=a7 .str) (w4 h) (by decide) (fun g i b hi c=>Rc hi e c) (fun g i b hi=>Y3 hi)
theorem K0B(a:Ad)(h:j0 y218 a<=1048576):Gv a=some a:=by
 unfold Gv;refine F6 (Bd _ (cS (cS h))) ?_;rfl
theorem w95(a:List Ad)(h:j0 (.sl y218) a<=1048576):Jl a=some a:=by
 unfold Jl;have e:a.length<=9223372036854775807:=Nat.le_trans (w4 h) (by decide);rw[lE];exact Y2 (d:=a7 y218) (w4 h) (by decide) (fun g i b hi c=>BR (K0B _ (K2 hi h)) hi e c) (fun g i b hi=>Y3 hi)
theorem w46(a:Im)(h:j0 BE a<=1048576):Jm a=some a:=by
 unfold Jm;refine F6 (w95 _ (cF h)) ?_;refine F6 (w96 _ (cF (cS h))) ?_;refine F6 (w97 _ (cS (cS h))) ?_;rfl
theorem K0v(a:W9)(h:j0 y342 a<=1048576):Gw a=some a:=by
 unfold Gw;refine F6 (Bd _ (cF h)) ?_;refine F6 (Bd _ (cF (cS h))) ?_;refine F6 (Bd _ (cS (cS h))) ?_;rfl
theorem Zw(a:List W9)(h:j0 (.sl y342) a<=1048576):DE a=some a:=by
 unfold DE;have e:a.length<=9223372036854775807:=Nat.le_trans (w4 h) (by decide);exact Y2 (d:=a7 y342) (w4 h) (by decide) (fun g i b hi c=>BR (K0v _ (K2 hi h)) hi e c) (fun g i b hi=>Y3 hi)
theorem K0w(a:Ae)(h:j0 y300 a<=1048576):Gx a=some a:=by
 unfold Gx;refine F6 (Zw _ (cF (cS (cS (cS (cS h)))))) ?_;refine F6 (Zw _ (cS (cS (cS (cS (cS h)))))) ?_;rfl
theorem K0y(a:List Ae)(h:j0 (.sl y300) a<=1048576):Jn a=some a:=by
 unfold Jn;have e:a.length<=9223372036854775807:=Nat.le_trans (w4 h) (by decide);rw[lE];exact Y2 (d:=a7 y300) (w4 h) (by decide) (fun g i b hi c=>BR (K0w _ (K2 hi h)) hi e c) (fun g i b hi=>Y3 hi)
theorem K0x(a:Af)(h:j0 y296 a<=1048576):Jo a=some a:=by
 unfold Jo;rfl
theorem K0z(a:List Af)(h:j0 (.sl y296) a<=1048576):Jp a=some a:=by
 unfold Jp;have e:a.length<=9223372036854775807:=Nat.le_trans (w4 h) (by decide);rw[lE];exact Y2 (d:=a7 y296) (w4 h) (by decide) (fun g i b hi c=>BR (K0x _ (K2 hi h)) hi e c) (fun g i b hi=>Y3 hi)
theorem K0C(a:P2)(h:j0 y216 a<=1048576):Gy a=some a:=by
 unfold Gy;refine F6 (K0z _ (cF (cS (cS h)))) ?_;refine F6 (K0y _ (cF (cS (cS (cS h))))) ?_;refine F6 (Bd _ (cF (cS (cS (cS (cS h)))))) ?_;rfl
theorem w94(a:List P2)(h:j0 (.sl y216) a<=1048576):Jq a=some a:=by
 unfold Jq;have e:a.length<=9223372036854775807:=Nat.le_trans (w4 h) (by decide);rw[lE];exact Y2 (d:=a7 y216) (w4 h) (by decide) (fun g i b hi c=>BR (K0C _ (K2 hi h)) hi e c) (fun g i b hi=>Y3 hi)
theorem w45(a:List P2)(h:j0 (.sl y216) a<=1048576):Jr a=some a:=by
 unfold Jr;refine F6 (w94 _ h) ?_;rfl
theorem w12(a:Gf)(h:j0 R6 a<=1048576):X6 a=some a:=by
 unfold X6;refine F6 (w45 _ (cF h)) ?_;refine F6 (w46 _ (cF (cS h))) ?_;refine F6 (w47 _ (cS (cS h))) ?_;rfl
theorem w13(a:Gg)(h:j0 U1 a<=1048576):BL a=some a:=by
 unfold BL;rfl
theorem Rd(a:Ag)(h:j0 y104 a<=1048576):BM a=some a:=by
 unfold BM;rfl
theorem w48(a:BF)(h:j0 y106 a<=1048576):Jt a=some a:=by
 unfold Jt;refine F6 (Rd _ (cF (cS h))) ?_;refine F6 (Rd _ (cS (cS h))) ?_;rfl
theorem w15(a:List BF)(h:j0 (.sl y106) a<=1048576):X7 a=some a:=by
 unfold X7;have e:a.length<=9223372036854775807:=Nat.le_trans (w4 h) (by decide);rw[lE];exact Y2 (d:=a7 y106) (w4 h) (by decide) (fun g i b hi c=>BR (w48 _ (K2 hi h)) hi e c) (fun g i b hi=>Y3 hi)
theorem Zx(a:List Ag)(h:j0 (.sl y104) a<=1048576):DG a=some a:=by
 unfold DG;have e:a.length<=9223372036854775807:=Nat.le_trans (w4 h) (by decide);rw[lE];exact Y2 (d:=a7 y104) (w4 h) (by decide) (fun g i b hi c=>BR (Rd _ (K2 hi h)) hi e c) (fun g i b hi=>Y3 hi)
theorem w49(a:List Bool)(h:j0 (.sl .bool) a<=1048576):Ju a=some a:=by
 unfold Ju;have e:a.length<=9223372036854775807:=Nat.le_trans (w4 h) (by decide);exact Y2 (d:=a7 .bool) (w4 h) (by decide) (fun g i b hi c=>Rc hi e c) (fun g i b hi=>Y3 hi)
theorem w16(a:Gi)(h:j0 X0 a<=1048576):u16 a=some a:=by
 unfold u16;refine F6 (w49 _ (cF h)) ?_;refine F6 (Zx _ (cF (cS h))) ?_;refine F6 (Zx _ (cS (cS h))) ?_;rfl
theorem Ar(a:List Int)(h:j0 (.sl (.int .i64)) a<=1048576):G7 a a=some true:=by
 unfold G7;have b:a.length<=9223372036854775807:=Nat.le_trans (w4 h) (by decide);exact Y4 b (fun g i hi=>Re (by simp) hi b) (fun g i hi=>if_neg (by simp; omega))
theorem Q0z(a:w7)(h:j0 y172 a<=1048576):Jw a a=some true:=by
 unfold Jw;refine F7 (Ar _ (cF h)) ?_;refine F7 (Ar _ (cF (cS h))) ?_;refine F7 (Ar _ (cF (cS (cS h)))) ?_;refine F7 (Ar _ (cS (cS (cS h)))) ?_;rfl
theorem e56(a:List w7)(h:j0 (.sl y172) a<=1048576):Jx a a=some true:=by
 unfold Jx;have b:a.length<=9223372036854775807:=Nat.le_trans (w4 h) (by decide);exact Y4 b (fun g i hi=>BS (Q0z _ (K2 hi h)) hi b) (fun g i hi=>if_neg (by simp; omega))
theorem Q0w(a:D2)(h:j0 y231 a<=1048576):Jy a a=some true:=by
 unfold Jy;refine Np rfl ?_
 first | refine O0 ?_ | refine P6 ?_
 first | refine O0 ?_ | refine P6 ?_
 rfl
theorem Q0A(a:List D2)(h:j0 (.sl y231) a<=1048576):Jz a a=some true:=by
 unfold Jz;have b:a.length<=9223372036854775807:=Nat.le_trans (w4 h) (by decide);exact Y4 b (fun g i hi=>BS (Q0w _ (K2 hi h)) hi b) (fun g i hi=>if_neg (by simp; omega))
theorem Q0B(a:List ByteArray)(h:j0 (.sl .str) a<=1048576):JA a a=some true:=by
 unfold JA;have b:a.length<=9223372036854775807:=Nat.le_trans (w4 h) (by decide);exact Y4 b (fun g i hi=>Re (by simp) hi b) (fun g i hi=>if_neg (by simp; omega))
theorem Q0x(a:B0)(h:j0 y155 a<=1048576):JB a a=some true:=by
 unfold JB;refine Np rfl ?_
 first | refine O0 ?_ | refine P6 ?_
 refine F7 (Ar _ (cS (cS h))) ?_;rfl
theorem Q0C(a:List B0)(h:j0 (.sl y155) a<=1048576):JC a a=some true:=by
 unfold JC;have b:a.length<=9223372036854775807:=Nat.le_trans (w4 h) (by decide);exact Y4 b (fun g i hi=>BS (Q0x _ (K2 hi h)) hi b) (fun g i hi=>if_neg (by simp; omega))
theorem e55(a:m7)(h:j0 y53 a<=1048576):JD a a=some true:=by
 unfold JD;refine F7 (Q0C _ (cF h)) ?_;refine F7 (Q0B _ (cF (cS h))) ?_;refine F7 (Q0A _ (cS (cS h))) ?_;rfl
theorem Q0r(a:m0)(h:j0 y269 a<=1048576):JE a a=some true:=by
 unfold JE;refine F7 (Ar _ (cF h)) ?_;refine F7 (Ar _ (cF (cS h))) ?_;refine F7 (Ar _ (cS (cS h))) ?_;rfl
theorem Zy(a:List m0)(h:j0 (.sl y269) a<=1048576):DH a a=some true:=by
 unfold DH;have b:a.length<=9223372036854775807:=Nat.le_trans (w4 h) (by decide);exact Y4 b (fun g i hi=>BS (Q0r _ (K2 hi h)) hi b) (fun g i hi=>if_neg (by simp; omega))
theorem Q0s(a:r9)(h:j0 y158 a<=1048576):JF a a=some true:=by
 unfold JF
 first | refine O0 ?_ | refine P6 ?_
 first | refine O0 ?_ | refine P6 ?_
 first | refine O0 ?_ | refine P6 ?_
 first | refine O0 ?_ | refine P6 ?_
 refine F7 (Zy _ (cF (cS (cS (cS (cS h)))))) ?_;refine F7 (Zy _ (cS (cS (cS (cS (cS h)))))) ?_;rfl
theorem Q0u(a:List r9)(h:j0 (.sl y158) a<=1048576):JG a a=some true:=by
 unfold JG;have b:a.length<=9223372036854775807:=Nat.le_trans (w4 h) (by decide);exact Y4 b (fun g i hi=>BS (Q0s _ (K2 hi h)) hi b) (fun g i hi=>if_neg (by simp; omega))
theorem Q0t(a:A7)(h:j0 y293 a<=1048576):JH a a=some true:=by
 unfold JH;refine Np rfl ?_
 first | refine O0 ?_ | refine P6 ?_
 first | refine O0 ?_ | refine P6 ?_
 refine I0p ?_;rfl
theorem Q0v(a:List A7)(h:j0 (.sl y293) a<=1048576):JI a a=some true:=by
 unfold JI;have b:a.length<=9223372036854775807:=Nat.le_trans (w4 h) (by decide);exact Y4 b (fun g i hi=>BS (Q0t _ (K2 hi h)) hi b) (fun g i hi=>if_neg (by simp; omega))
theorem Q0y(a:l6)(h:j0 y153 a<=1048576):JJ a a=some true:=by
 unfold JJ;refine Np rfl ?_
 first | refine O0 ?_ | refine P6 ?_
 refine F7 (Q0v _ (cF (cS (cS h)))) ?_;refine F7 (Q0u _ (cF (cS (cS (cS h))))) ?_;refine F7 (Ar _ (cF (cS (cS (cS (cS h)))))) ?_
 first | refine O0 ?_ | refine P6 ?_
 first | refine O0 ?_ | refine P6 ?_
 rfl
theorem Q0D(a:List l6)(h:j0 (.sl y153) a<=1048576):JK a a=some true:=by
 unfold JK;have b:a.length<=9223372036854775807:=Nat.le_trans (w4 h) (by decide);exact Y4 b (fun g i hi=>BS (Q0y _ (K2 hi h)) hi b) (fun g i hi=>if_neg (by simp; omega))
theorem e54(a:List l6)(h:j0 (.sl y153) a<=1048576):JL a a=some true:=by
 unfold JL;refine F7 (Q0D _ h) ?_;rfl
theorem Zz(a:j1)(h:j0 l5 a<=1048576):JM a a=some true:=by
 unfold JM;refine F7 (e54 _ (cF h)) ?_;refine F7 (e55 _ (cF (cS h))) ?_;refine F7 (e56 _ (cS (cS h))) ?_;rfl
theorem Rf(a:s7)(h:j0 y73 a<=1048576):BN a a=some true:=by
 unfold BN
 first | refine O0 ?_ | refine P6 ?_
 first | refine O0 ?_ | refine P6 ?_
 rfl
theorem e24(a:r4)(h:j0 y75 a<=1048576):JN a a=some true:=by
 unfold JN
 first | refine O0 ?_ | refine P6 ?_
 refine F7 (Rf _ (cF (cS h))) ?_;refine F7 (Rf _ (cS (cS h))) ?_;rfl
theorem ZA(a:List r4)(h:j0 (.sl y75) a<=1048576):JO a a=some true:=by
 unfold JO;have b:a.length<=9223372036854775807:=Nat.le_trans (w4 h) (by decide);exact Y4 b (fun g i hi=>BS (e24 _ (K2 hi h)) hi b) (fun g i hi=>if_neg (by simp; omega))
theorem ZB(a:List s7)(h:j0 (.sl y73) a<=1048576):DI a a=some true:=by
 unfold DI;have b:a.length<=9223372036854775807:=Nat.le_trans (w4 h) (by decide);exact Y4 b (fun g i hi=>BS (Rf _ (K2 hi h)) hi b) (fun g i hi=>if_neg (by simp; omega))
theorem e57(a:List Bool)(h:j0 (.sl .bool) a<=1048576):JP a a=some true:=by
 unfold JP;have b:a.length<=9223372036854775807:=Nat.le_trans (w4 h) (by decide);exact Y4 b (fun g i hi=>Re (by simp) hi b) (fun g i hi=>if_neg (by simp; omega))
theorem ZC(a:A3)(h:j0 y65 a<=1048576):JQ a a=some true:=by
 unfold JQ;refine F7 (e57 _ (cF h)) ?_;refine F7 (ZB _ (cF (cS h))) ?_;refine F7 (ZB _ (cS (cS h))) ?_;rfl
end Go.Proofs.YtechodbafnmddaaGreatDoor
end

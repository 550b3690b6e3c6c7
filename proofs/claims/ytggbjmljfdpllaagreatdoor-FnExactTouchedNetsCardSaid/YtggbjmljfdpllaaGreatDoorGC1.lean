/- Laws of sizes, copies and comparisons: printed by program. -/
import Derived.Test.YtggbjmljfdpllaaGreatDoorFC1b
import Derived.Test.YtggbjmljfdpllaaGreatDoorXF
section
namespace Go.Proofs.YtggbjmljfdpllaaGreatDoor
open Go Go.Proofs Go.Proofs.Xv Go.Proofs.Xl Go.Proofs.Xd
theorem z42(a:List Int)(l:Int)(hw:wf (.sl (.int .i64)) a)(h:0<=l)(m:l<=9223372036854775807):u42 a l=some (szN (cnt (.sl (.int .i64)) a) l):=by
 unfold u42;have e:cnt (.sl (.int .i64)) a=a.length+0:=cnt_ints;rw[e];exact sz_s hw.1 h m fun H=>sz_last H
theorem z20(a:Y35)(l:Int)(hw:wf y35 a)(h:0<=l)(m:l<=9223372036854775807):u20 a l=some (szN (cnt y35 a) l):=by
 unfold u20;have e:cnt y35 a=cnt (.sl (.int .i64)) a.1+(cnt (.sl (.int .i64)) a.2.1+(cnt (.sl (.int .i64)) a.2.2.1+(cnt (.sl (.int .i64)) a.2.2.2+0))):=by
  first | rfl | (simp only[cnt_pr,cnt_int,cnt_bool,cnt_str] <;> omega)
 rw[e];refine sz_c (z42 _ _ hw.1 h m) (fun v0 h0 m0=>?_) h;have M0:=Int.le_trans m0 m;refine sz_c (z42 _ _ hw.2.1 h0 M0) (fun v1 h1 m1=>?_) h0;have M1:=Int.le_trans m1 M0;refine sz_c (z42 _ _ hw.2.2.1 h1 M1) (fun v2 h2 m2=>?_) h1;have M2:=Int.le_trans m2 M1;refine sz_c (z42 _ _ hw.2.2.2 h2 M2) (fun v3 h3 m3=>?_) h2;have M3:=Int.le_trans m3 M2;exact sz_last h3
theorem z19(a:List Y35)(l:Int)(hw:wf (.sl y35) a)(h:0<=l)(m:l<=9223372036854775807):u19 a l=some (szN (cnt (.sl y35) a) l):=by
 unfold u19;rw[cnt_sl];refine sz_row (d:=dflt y35) (c:=cnt y35) hw.1 h m (fun g v i hi hv mv=>?_) (fun g v i hi=>sz_end hi);exact sz_el (z20 _ _ (wf_el hi hw) hv mv) hi hw.1
theorem z70(a:Y125)(l:Int)(hw:wf y125 a)(h:0<=l)(m:l<=9223372036854775807):u70 a l=some (szN (cnt y125 a) l):=by
 unfold u70;have e:cnt y125 a=a.1.size+0:=by
  first | rfl | (simp only[cnt_pr,cnt_int,cnt_bool,cnt_str] <;> omega)
 rw[e];refine sz_s hw.1 h m (fun h0=>?_);have M0:(l-(a.1.size:Int))<=9223372036854775807:=by omega
 exact sz_last h0
theorem z41(a:List Y125)(l:Int)(hw:wf (.sl y125) a)(h:0<=l)(m:l<=9223372036854775807):u41 a l=some (szN (cnt (.sl y125) a) l):=by
 unfold u41;rw[cnt_sl];refine sz_row (d:=dflt y125) (c:=cnt y125) hw.1 h m (fun g v i hi hv mv=>?_) (fun g v i hi=>sz_end hi);exact sz_el (z70 _ _ (wf_el hi hw) hv mv) hi hw.1
theorem z40(a:List ByteArray)(l:Int)(hw:wf (.sl .str) a)(h:0<=l)(m:l<=9223372036854775807):u40 a l=some (szN (cnt (.sl .str) a) l):=by
 unfold u40;rw[cnt_sl];refine sz_row (d:=dflt .str) (c:=cnt .str) hw.1 h m (fun g v i hi hv mv=>?_) (fun g v i hi=>sz_end hi);have hs:=wf_el (d:=dflt .str) hi hw;rw[cnt_str];exact sz_es hi hw.1 hs hv mv
theorem z69(a:Y122)(l:Int)(hw:wf y122 a)(h:0<=l)(m:l<=9223372036854775807):u69 a l=some (szN (cnt y122 a) l):=by
 unfold u69;have e:cnt y122 a=a.1.size+(cnt (.sl (.int .i64)) a.2.2+0):=by
  first | rfl | (simp only[cnt_pr,cnt_int,cnt_bool,cnt_str] <;> omega)
 rw[e];refine sz_s hw.1 h m (fun h0=>?_);have M0:(l-(a.1.size:Int))<=9223372036854775807:=by omega
 refine sz_c (z42 _ _ hw.2.2 h0 M0) (fun v1 h1 m1=>?_) h0;have M1:=Int.le_trans m1 M0;exact sz_last h1
theorem z39(a:List Y122)(l:Int)(hw:wf (.sl y122) a)(h:0<=l)(m:l<=9223372036854775807):u39 a l=some (szN (cnt (.sl y122) a) l):=by
 unfold u39;rw[cnt_sl];refine sz_row (d:=dflt y122) (c:=cnt y122) hw.1 h m (fun g v i hi hv mv=>?_) (fun g v i hi=>sz_end hi);exact sz_el (z69 _ _ (wf_el hi hw) hv mv) hi hw.1
theorem z18(a:Y29)(l:Int)(hw:wf y29 a)(h:0<=l)(m:l<=9223372036854775807):u18 a l=some (szN (cnt y29 a) l):=by
 unfold u18;have e:cnt y29 a=cnt (.sl y122) a.1+(cnt (.sl .str) a.2.1+(cnt (.sl y125) a.2.2+0)):=by
  first | rfl | (simp only[cnt_pr,cnt_int,cnt_bool,cnt_str] <;> omega)
 rw[e];refine sz_c (z39 _ _ hw.1 h m) (fun v0 h0 m0=>?_) h;have M0:=Int.le_trans m0 m;refine sz_c (z40 _ _ hw.2.1 h0 M0) (fun v1 h1 m1=>?_) h0;have M1:=Int.le_trans m1 M0;refine sz_c (z41 _ _ hw.2.2 h1 M1) (fun v2 h2 m2=>?_) h1;have M2:=Int.le_trans m2 M1;exact sz_last h2
theorem z187(a:Y238)(l:Int)(hw:wf y238 a)(h:0<=l)(m:l<=9223372036854775807):u187 a l=some (szN (cnt y238 a) l):=by
 unfold u187;have e:cnt y238 a=cnt (.sl (.int .i64)) a.1+(cnt (.sl (.int .i64)) a.2.1+(cnt (.sl (.int .i64)) a.2.2+0)):=by
  first | rfl | (simp only[cnt_pr,cnt_int,cnt_bool,cnt_str] <;> omega)
 rw[e];refine sz_c (z42 _ _ hw.1 h m) (fun v0 h0 m0=>?_) h;have M0:=Int.le_trans m0 m;refine sz_c (z42 _ _ hw.2.1 h0 M0) (fun v1 h1 m1=>?_) h0;have M1:=Int.le_trans m1 M0;refine sz_c (z42 _ _ hw.2.2 h1 M1) (fun v2 h2 m2=>?_) h1;have M2:=Int.le_trans m2 M1;exact sz_last h2
theorem z166(a:List Y238)(l:Int)(hw:wf (.sl y238) a)(h:0<=l)(m:l<=9223372036854775807):u166 a l=some (szN (cnt (.sl y238) a) l):=by
 unfold u166;rw[cnt_sl];refine sz_row (d:=dflt y238) (c:=cnt y238) hw.1 h m (fun g v i hi hv mv=>?_) (fun g v i hi=>sz_end hi);exact sz_el (z187 _ _ (wf_el hi hw) hv mv) hi hw.1
theorem z140(a:Y197)(l:Int)(hw:wf y197 a)(h:0<=l)(m:l<=9223372036854775807):u140 a l=some (szN (cnt y197 a) l):=by
 unfold u140;have e:cnt y197 a=cnt (.sl y238) a.2.2.2.2.1+(cnt (.sl y238) a.2.2.2.2.2+0):=by
  first | rfl | (simp only[cnt_pr,cnt_int,cnt_bool,cnt_str] <;> omega)
 rw[e];refine sz_c (z166 _ _ hw.2.2.2.2.1 h m) (fun v0 h0 m0=>?_) h;have M0:=Int.le_trans m0 m;refine sz_c (z166 _ _ hw.2.2.2.2.2 h0 M0) (fun v1 h1 m1=>?_) h0;have M1:=Int.le_trans m1 M0;exact sz_last h1
theorem z97(a:List Y197)(l:Int)(hw:wf (.sl y197) a)(h:0<=l)(m:l<=9223372036854775807):u97 a l=some (szN (cnt (.sl y197) a) l):=by
 unfold u97;rw[cnt_sl];refine sz_row (d:=dflt y197) (c:=cnt y197) hw.1 h m (fun g v i hi hv mv=>?_) (fun g v i hi=>sz_end hi);exact sz_el (z140 _ _ (wf_el hi hw) hv mv) hi hw.1
theorem z139(a:Y193)(l:Int)(hw:wf y193 a)(h:0<=l)(m:l<=9223372036854775807):u139 a l=some (szN (cnt y193 a) l):=by
 unfold u139;have e:cnt y193 a=a.1.size+0:=by
  first | rfl | (simp only[cnt_pr,cnt_int,cnt_bool,cnt_str] <;> omega)
 rw[e];refine sz_s hw.1 h m (fun h0=>?_);have M0:(l-(a.1.size:Int))<=9223372036854775807:=by omega
 exact sz_last h0
theorem z96(a:List Y193)(l:Int)(hw:wf (.sl y193) a)(h:0<=l)(m:l<=9223372036854775807):u96 a l=some (szN (cnt (.sl y193) a) l):=by
 unfold u96;rw[cnt_sl];refine sz_row (d:=dflt y193) (c:=cnt y193) hw.1 h m (fun g v i hi hv mv=>?_) (fun g v i hi=>sz_end hi);exact sz_el (z139 _ _ (wf_el hi hw) hv mv) hi hw.1
theorem z68(a:Y120)(l:Int)(hw:wf y120 a)(h:0<=l)(m:l<=9223372036854775807):u68 a l=some (szN (cnt y120 a) l):=by
 unfold u68;have e:cnt y120 a=a.1.size+(cnt (.sl y193) a.2.2.1+(cnt (.sl y197) a.2.2.2.1+(cnt (.sl (.int .i64)) a.2.2.2.2.1+0))):=by
  first | rfl | (simp only[cnt_pr,cnt_int,cnt_bool,cnt_str] <;> omega)
 rw[e];refine sz_s hw.1 h m (fun h0=>?_);have M0:(l-(a.1.size:Int))<=9223372036854775807:=by omega
 refine sz_c (z96 _ _ hw.2.2.1 h0 M0) (fun v1 h1 m1=>?_) h0;have M1:=Int.le_trans m1 M0;refine sz_c (z97 _ _ hw.2.2.2.1 h1 M1) (fun v2 h2 m2=>?_) h1;have M2:=Int.le_trans m2 M1;refine sz_c (z42 _ _ hw.2.2.2.2.1 h2 M2) (fun v3 h3 m3=>?_) h2;have M3:=Int.le_trans m3 M2;exact sz_last h3
theorem z38(a:List Y120)(l:Int)(hw:wf (.sl y120) a)(h:0<=l)(m:l<=9223372036854775807):u38 a l=some (szN (cnt (.sl y120) a) l):=by
 unfold u38;rw[cnt_sl];refine sz_row (d:=dflt y120) (c:=cnt y120) hw.1 h m (fun g v i hi hv mv=>?_) (fun g v i hi=>sz_end hi);exact sz_el (z68 _ _ (wf_el hi hw) hv mv) hi hw.1
theorem z17(a:List Y120)(l:Int)(hw:wf (.sl y120) a)(h:0<=l)(m:l<=9223372036854775807):u17 a l=some (szN (cnt (.sl y120) a) l):=by
 unfold u17;have e:cnt (.sl y120) a=cnt (.sl y120) a+0:=by
  first | rfl | (simp only[cnt_pr,cnt_int,cnt_bool,cnt_str] <;> omega)
 rw[e];refine sz_c (z38 _ _ hw h m) (fun v0 h0 m0=>?_) h;have M0:=Int.le_trans m0 m;exact sz_last h0
theorem z4(a:Y32)(l:Int)(hw:wf y32 a)(h:0<=l)(m:l<=9223372036854775807):u4 a l=some (szN (cnt y32 a) l):=by
 unfold u4;have e:cnt y32 a=cnt (.sl y120) a.1+(cnt y29 a.2.1+(cnt (.sl y35) a.2.2+0)):=by
  first | rfl | (simp only[cnt_pr,cnt_int,cnt_bool,cnt_str] <;> omega)
 rw[e];refine sz_c (z17 _ _ hw.1 h m) (fun v0 h0 m0=>?_) h;have M0:=Int.le_trans m0 m;refine sz_c (z18 _ _ hw.2.1 h0 M0) (fun v1 h1 m1=>?_) h0;have M1:=Int.le_trans m1 M0;refine sz_c (z19 _ _ hw.2.2 h1 M1) (fun v2 h2 m2=>?_) h1;have M2:=Int.le_trans m2 M1;exact sz_last h2
theorem z5(a:Y37)(l:Int)(hw:wf y37 a)(h:0<=l)(m:l<=9223372036854775807):u5 a l=some (szN (cnt y37 a) l):=by
 unfold u5;have e:cnt y37 a=a.2.2.2.2.2.1.size+(cnt y35 a.2.2.2.2.2.2+0):=by
  first | rfl | (simp only[cnt_pr,cnt_int,cnt_bool,cnt_str] <;> omega)
 rw[e];refine sz_s hw.2.2.2.2.2.1 h m (fun h0=>?_);have M0:(l-(a.2.2.2.2.2.1.size:Int))<=9223372036854775807:=by omega
 refine sz_c (z20 _ _ hw.2.2.2.2.2.2 h0 M0) (fun v1 h1 m1=>?_) h0;have M1:=Int.le_trans m1 M0;exact sz_last h1
theorem w52(a:List Int)(h:cnt (.sl (.int .i64)) a<=1048576):u52 a=some a:=by
 unfold u52;have hl:a.length<=9223372036854775807:=Nat.le_trans (cnt_len h) (by decide);exact to_row (d:=dflt (.int .i64)) (cnt_len h) (by decide) (fun g i ys hi hy=>to_es hi hl hy) (fun g i ys hi=>to_end hi)
theorem w27(a:Y35)(h:cnt y35 a<=1048576):u27 a=some a:=by
 unfold u27;refine to_c (w52 _ (cF h)) ?_;refine to_c (w52 _ (cF (cS h))) ?_;refine to_c (w52 _ (cF (cS (cS h)))) ?_;refine to_c (w52 _ (cS (cS (cS h)))) ?_;rfl
theorem w26(a:List Y35)(h:cnt (.sl y35) a<=1048576):u26 a=some a:=by
 unfold u26;have hl:a.length<=9223372036854775807:=Nat.le_trans (cnt_len h) (by decide);exact to_row (d:=dflt y35) (cnt_len h) (by decide) (fun g i ys hi hy=>to_el (w27 _ (cnt_el hi h)) hi hl hy) (fun g i ys hi=>to_end hi)
theorem w83(a:Y125)(h:cnt y125 a<=1048576):u83 a=some a:=by
 unfold u83;rfl
theorem w51(a:List Y125)(h:cnt (.sl y125) a<=1048576):u51 a=some a:=by
 unfold u51;have hl:a.length<=9223372036854775807:=Nat.le_trans (cnt_len h) (by decide);rw[lE];exact to_row (d:=dflt y125) (cnt_len h) (by decide) (fun g i ys hi hy=>to_el (w83 _ (cnt_el hi h)) hi hl hy) (fun g i ys hi=>to_end hi)
theorem w50(a:List ByteArray)(h:cnt (.sl .str) a<=1048576):u50 a=some a:=by
 unfold u50;have hl:a.length<=9223372036854775807:=Nat.le_trans (cnt_len h) (by decide);exact to_row (d:=dflt .str) (cnt_len h) (by decide) (fun g i ys hi hy=>to_es hi hl hy) (fun g i ys hi=>to_end hi)
theorem w82(a:Y122)(h:cnt y122 a<=1048576):u82 a=some a:=by
 unfold u82;refine to_c (w52 _ (cS (cS h))) ?_;rfl
theorem w49(a:List Y122)(h:cnt (.sl y122) a<=1048576):u49 a=some a:=by
 unfold u49;have hl:a.length<=9223372036854775807:=Nat.le_trans (cnt_len h) (by decide);rw[lE];exact to_row (d:=dflt y122) (cnt_len h) (by decide) (fun g i ys hi hy=>to_el (w82 _ (cnt_el hi h)) hi hl hy) (fun g i ys hi=>to_end hi)
theorem w25(a:Y29)(h:cnt y29 a<=1048576):u25 a=some a:=by
 unfold u25;refine to_c (w49 _ (cF h)) ?_;refine to_c (w50 _ (cF (cS h))) ?_;refine to_c (w51 _ (cS (cS h))) ?_;rfl
theorem w189(a:Y238)(h:cnt y238 a<=1048576):u189 a=some a:=by
 unfold u189;refine to_c (w52 _ (cF h)) ?_;refine to_c (w52 _ (cF (cS h))) ?_;refine to_c (w52 _ (cS (cS h))) ?_;rfl
theorem w170(a:List Y238)(h:cnt (.sl y238) a<=1048576):u170 a=some a:=by
 unfold u170;have hl:a.length<=9223372036854775807:=Nat.le_trans (cnt_len h) (by decide);exact to_row (d:=dflt y238) (cnt_len h) (by decide) (fun g i ys hi hy=>to_el (w189 _ (cnt_el hi h)) hi hl hy) (fun g i ys hi=>to_end hi)
theorem w143(a:Y197)(h:cnt y197 a<=1048576):u143 a=some a:=by
 unfold u143;refine to_c (w170 _ (cF (cS (cS (cS (cS h)))))) ?_;refine to_c (w170 _ (cS (cS (cS (cS (cS h)))))) ?_;rfl
theorem w104(a:List Y197)(h:cnt (.sl y197) a<=1048576):u104 a=some a:=by
 unfold u104;have hl:a.length<=9223372036854775807:=Nat.le_trans (cnt_len h) (by decide);rw[lE];exact to_row (d:=dflt y197) (cnt_len h) (by decide) (fun g i ys hi hy=>to_el (w143 _ (cnt_el hi h)) hi hl hy) (fun g i ys hi=>to_end hi)
theorem w142(a:Y193)(h:cnt y193 a<=1048576):u142 a=some a:=by
 unfold u142;rfl
theorem w103(a:List Y193)(h:cnt (.sl y193) a<=1048576):u103 a=some a:=by
 unfold u103;have hl:a.length<=9223372036854775807:=Nat.le_trans (cnt_len h) (by decide);rw[lE];exact to_row (d:=dflt y193) (cnt_len h) (by decide) (fun g i ys hi hy=>to_el (w142 _ (cnt_el hi h)) hi hl hy) (fun g i ys hi=>to_end hi)
theorem w81(a:Y120)(h:cnt y120 a<=1048576):u81 a=some a:=by
 unfold u81;refine to_c (w103 _ (cF (cS (cS h)))) ?_;refine to_c (w104 _ (cF (cS (cS (cS h))))) ?_;refine to_c (w52 _ (cF (cS (cS (cS (cS h)))))) ?_;rfl
theorem w48(a:List Y120)(h:cnt (.sl y120) a<=1048576):u48 a=some a:=by
 unfold u48;have hl:a.length<=9223372036854775807:=Nat.le_trans (cnt_len h) (by decide);rw[lE];exact to_row (d:=dflt y120) (cnt_len h) (by decide) (fun g i ys hi hy=>to_el (w81 _ (cnt_el hi h)) hi hl hy) (fun g i ys hi=>to_end hi)
theorem w24(a:List Y120)(h:cnt (.sl y120) a<=1048576):u24 a=some a:=by
 unfold u24;refine to_c (w48 _ h) ?_;rfl
theorem w7(a:Y32)(h:cnt y32 a<=1048576):u7 a=some a:=by
 unfold u7;refine to_c (w24 _ (cF h)) ?_;refine to_c (w25 _ (cF (cS h))) ?_;refine to_c (w26 _ (cS (cS h))) ?_;rfl
theorem w8(a:Y37)(h:cnt y37 a<=1048576):u8 a=some a:=by
 unfold u8;refine to_c (w27 _ (cS (cS (cS (cS (cS (cS h))))))) ?_;rfl
theorem e10(a:List Int)(h:cnt (.sl (.int .i64)) a<=1048576):u10 a a=some true:=by
 unfold u10;have hl:a.length<=9223372036854775807:=Nat.le_trans (cnt_len h) (by decide);exact eq_row hl (fun g i hi=>eq_es (by simp) hi hl) (fun g i hi=>if_neg (by simp; omega))
theorem e33(a:Y53)(h:cnt y53 a<=1048576):u33 a a=some true:=by
 unfold u33;refine eq_c (e10 _ (cF h)) ?_;refine eq_c (e10 _ (cF (cS h))) ?_;refine eq_c (e10 _ (cF (cS (cS h)))) ?_;refine eq_c (e10 _ (cS (cS (cS h)))) ?_;rfl
theorem e32(a:List Y53)(h:cnt (.sl y53) a<=1048576):u32 a a=some true:=by
 unfold u32;have hl:a.length<=9223372036854775807:=Nat.le_trans (cnt_len h) (by decide);exact eq_row hl (fun g i hi=>eq_el (e33 _ (cnt_el hi h)) hi hl) (fun g i hi=>if_neg (by simp; omega))
theorem e92(a:Y138)(h:cnt y138 a<=1048576):u92 a a=some true:=by
 unfold u92;refine eq_d rfl ?_
 first | refine eq_i ?_ | refine eq_b ?_
 first | refine eq_i ?_ | refine eq_b ?_
 rfl
theorem e63(a:List Y138)(h:cnt (.sl y138) a<=1048576):u63 a a=some true:=by
 unfold u63;have hl:a.length<=9223372036854775807:=Nat.le_trans (cnt_len h) (by decide);exact eq_row hl (fun g i hi=>eq_el (e92 _ (cnt_el hi h)) hi hl) (fun g i hi=>if_neg (by simp; omega))
theorem e62(a:List ByteArray)(h:cnt (.sl .str) a<=1048576):u62 a a=some true:=by
 unfold u62;have hl:a.length<=9223372036854775807:=Nat.le_trans (cnt_len h) (by decide);exact eq_row hl (fun g i hi=>eq_es (by simp) hi hl) (fun g i hi=>if_neg (by simp; omega))
theorem e91(a:Y94)(h:cnt y94 a<=1048576):u91 a a=some true:=by
 unfold u91;refine eq_d rfl ?_
 first | refine eq_i ?_ | refine eq_b ?_
 refine eq_c (e10 _ (cS (cS h))) ?_;rfl
theorem e61(a:List Y94)(h:cnt (.sl y94) a<=1048576):u61 a a=some true:=by
 unfold u61;have hl:a.length<=9223372036854775807:=Nat.le_trans (cnt_len h) (by decide);exact eq_row hl (fun g i hi=>eq_el (e91 _ (cnt_el hi h)) hi hl) (fun g i hi=>if_neg (by simp; omega))
theorem e31(a:Y48)(h:cnt y48 a<=1048576):u31 a a=some true:=by
 unfold u31;refine eq_c (e61 _ (cF h)) ?_;refine eq_c (e62 _ (cF (cS h))) ?_;refine eq_c (e63 _ (cS (cS h))) ?_;rfl
theorem e201(a:Y217)(h:cnt y217 a<=1048576):u201 a a=some true:=by
 unfold u201;refine eq_c (e10 _ (cF h)) ?_;refine eq_c (e10 _ (cF (cS h))) ?_;refine eq_c (e10 _ (cS (cS h))) ?_;rfl
theorem e186(a:List Y217)(h:cnt (.sl y217) a<=1048576):u186 a a=some true:=by
 unfold u186;have hl:a.length<=9223372036854775807:=Nat.le_trans (cnt_len h) (by decide);exact eq_row hl (fun g i hi=>eq_el (e201 _ (cnt_el hi h)) hi hl) (fun g i hi=>if_neg (by simp; omega))
theorem e165(a:Y190)(h:cnt y190 a<=1048576):u165 a a=some true:=by
 unfold u165
 first | refine eq_i ?_ | refine eq_b ?_
 first | refine eq_i ?_ | refine eq_b ?_
 first | refine eq_i ?_ | refine eq_b ?_
 first | refine eq_i ?_ | refine eq_b ?_
 refine eq_c (e186 _ (cF (cS (cS (cS (cS h)))))) ?_;refine eq_c (e186 _ (cS (cS (cS (cS (cS h)))))) ?_;rfl
theorem e137(a:List Y190)(h:cnt (.sl y190) a<=1048576):u137 a a=some true:=by
 unfold u137;have hl:a.length<=9223372036854775807:=Nat.le_trans (cnt_len h) (by decide);exact eq_row hl (fun g i hi=>eq_el (e165 _ (cnt_el hi h)) hi hl) (fun g i hi=>if_neg (by simp; omega))
theorem e164(a:Y155)(h:cnt y155 a<=1048576):u164 a a=some true:=by
 unfold u164;refine eq_d rfl ?_
 first | refine eq_i ?_ | refine eq_b ?_
 first | refine eq_i ?_ | refine eq_b ?_
 refine eq_b' ?_;rfl
theorem e136(a:List Y155)(h:cnt (.sl y155) a<=1048576):u136 a a=some true:=by
 unfold u136;have hl:a.length<=9223372036854775807:=Nat.le_trans (cnt_len h) (by decide);exact eq_row hl (fun g i hi=>eq_el (e164 _ (cnt_el hi h)) hi hl) (fun g i hi=>if_neg (by simp; omega))
theorem e90(a:Y134)(h:cnt y134 a<=1048576):u90 a a=some true:=by
 unfold u90;refine eq_d rfl ?_
 first | refine eq_i ?_ | refine eq_b ?_
 refine eq_c (e136 _ (cF (cS (cS h)))) ?_;refine eq_c (e137 _ (cF (cS (cS (cS h))))) ?_;refine eq_c (e10 _ (cF (cS (cS (cS (cS h)))))) ?_
 first | refine eq_i ?_ | refine eq_b ?_
 first | refine eq_i ?_ | refine eq_b ?_
 rfl
theorem e60(a:List Y134)(h:cnt (.sl y134) a<=1048576):u60 a a=some true:=by
 unfold u60;have hl:a.length<=9223372036854775807:=Nat.le_trans (cnt_len h) (by decide);exact eq_row hl (fun g i hi=>eq_el (e90 _ (cnt_el hi h)) hi hl) (fun g i hi=>if_neg (by simp; omega))
theorem e30(a:List Y134)(h:cnt (.sl y134) a<=1048576):u30 a a=some true:=by
 unfold u30;refine eq_c (e60 _ h) ?_;rfl
theorem e11(a:Y51)(h:cnt y51 a<=1048576):u11 a a=some true:=by
 unfold u11;refine eq_c (e30 _ (cF h)) ?_;refine eq_c (e31 _ (cF (cS h))) ?_;refine eq_c (e32 _ (cS (cS h))) ?_;rfl
theorem e12(a:Y55)(h:cnt y55 a<=1048576):u12 a a=some true:=by
 unfold u12
 first | refine eq_i ?_ | refine eq_b ?_
 first | refine eq_i ?_ | refine eq_b ?_
 first | refine eq_i ?_ | refine eq_b ?_
 first | refine eq_i ?_ | refine eq_b ?_
 first | refine eq_i ?_ | refine eq_b ?_
 refine eq_d rfl ?_;refine eq_c (e33 _ (cS (cS (cS (cS (cS (cS h))))))) ?_;rfl
end Go.Proofs.YtggbjmljfdpllaaGreatDoor
end

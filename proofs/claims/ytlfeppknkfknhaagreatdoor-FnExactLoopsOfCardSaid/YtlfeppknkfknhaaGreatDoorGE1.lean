/- Laws of sizes, copies and comparisons: printed by program. -/
import Derived.Test.YtlfeppknkfknhaaGreatDoorFE1b
import Derived.Test.YtlfeppknkfknhaaGreatDoorXF
section
namespace Go.Proofs.YtlfeppknkfknhaaGreatDoor
open Go Go.Proofs Go.Proofs.Xv Go.Proofs.Xl Go.Proofs.Xd
theorem z77(a:List Int)(l:Int)(hw:wf (.sl (.int .i64)) a)(h:0<=l)(m:l<=9223372036854775807):u77 a l=some (szN (cnt (.sl (.int .i64)) a) l):=by
 unfold u77;have e:cnt (.sl (.int .i64)) a=a.length+0:=cnt_ints;rw[e];exact sz_s hw.1 h m fun H=>sz_last H
theorem z40(a:Y86)(l:Int)(hw:wf y86 a)(h:0<=l)(m:l<=9223372036854775807):u40 a l=some (szN (cnt y86 a) l):=by
 unfold u40;have e:cnt y86 a=cnt (.sl (.int .i64)) a.1+(cnt (.sl (.int .i64)) a.2.1+(cnt (.sl (.int .i64)) a.2.2.1+(cnt (.sl (.int .i64)) a.2.2.2+0))):=by
  first | rfl | (simp only[cnt_pr,cnt_int,cnt_bool,cnt_str] <;> omega)
 rw[e];refine sz_c (z77 _ _ hw.1 h m) (fun v0 h0 m0=>?_) h;have M0:=Int.le_trans m0 m;refine sz_c (z77 _ _ hw.2.1 h0 M0) (fun v1 h1 m1=>?_) h0;have M1:=Int.le_trans m1 M0;refine sz_c (z77 _ _ hw.2.2.1 h1 M1) (fun v2 h2 m2=>?_) h1;have M2:=Int.le_trans m2 M1;refine sz_c (z77 _ _ hw.2.2.2 h2 M2) (fun v3 h3 m3=>?_) h2;have M3:=Int.le_trans m3 M2;exact sz_last h3
theorem z18(a:List Y86)(l:Int)(hw:wf (.sl y86) a)(h:0<=l)(m:l<=9223372036854775807):u18 a l=some (szN (cnt (.sl y86) a) l):=by
 unfold u18;rw[cnt_sl];refine sz_row (d:=dflt y86) (c:=cnt y86) hw.1 h m (fun g v i hi hv mv=>?_) (fun g v i hi=>sz_end hi);exact sz_el (z40 _ _ (wf_el hi hw) hv mv) hi hw.1
theorem z76(a:Y141)(l:Int)(hw:wf y141 a)(h:0<=l)(m:l<=9223372036854775807):u76 a l=some (szN (cnt y141 a) l):=by
 unfold u76;have e:cnt y141 a=a.1.size+0:=by
  first | rfl | (simp only[cnt_pr,cnt_int,cnt_bool,cnt_str] <;> omega)
 rw[e];refine sz_s hw.1 h m (fun h0=>?_);have M0:(l-(a.1.size:Int))<=9223372036854775807:=by omega
 exact sz_last h0
theorem z39(a:List Y141)(l:Int)(hw:wf (.sl y141) a)(h:0<=l)(m:l<=9223372036854775807):u39 a l=some (szN (cnt (.sl y141) a) l):=by
 unfold u39;rw[cnt_sl];refine sz_row (d:=dflt y141) (c:=cnt y141) hw.1 h m (fun g v i hi hv mv=>?_) (fun g v i hi=>sz_end hi);exact sz_el (z76 _ _ (wf_el hi hw) hv mv) hi hw.1
theorem z38(a:List ByteArray)(l:Int)(hw:wf (.sl .str) a)(h:0<=l)(m:l<=9223372036854775807):u38 a l=some (szN (cnt (.sl .str) a) l):=by
 unfold u38;rw[cnt_sl];refine sz_row (d:=dflt .str) (c:=cnt .str) hw.1 h m (fun g v i hi hv mv=>?_) (fun g v i hi=>sz_end hi);have hs:=wf_el (d:=dflt .str) hi hw;rw[cnt_str];exact sz_es hi hw.1 hs hv mv
theorem z75(a:Y138)(l:Int)(hw:wf y138 a)(h:0<=l)(m:l<=9223372036854775807):u75 a l=some (szN (cnt y138 a) l):=by
 unfold u75;have e:cnt y138 a=a.1.size+(cnt (.sl (.int .i64)) a.2.2+0):=by
  first | rfl | (simp only[cnt_pr,cnt_int,cnt_bool,cnt_str] <;> omega)
 rw[e];refine sz_s hw.1 h m (fun h0=>?_);have M0:(l-(a.1.size:Int))<=9223372036854775807:=by omega
 refine sz_c (z77 _ _ hw.2.2 h0 M0) (fun v1 h1 m1=>?_) h0;have M1:=Int.le_trans m1 M0;exact sz_last h1
theorem z37(a:List Y138)(l:Int)(hw:wf (.sl y138) a)(h:0<=l)(m:l<=9223372036854775807):u37 a l=some (szN (cnt (.sl y138) a) l):=by
 unfold u37;rw[cnt_sl];refine sz_row (d:=dflt y138) (c:=cnt y138) hw.1 h m (fun g v i hi hv mv=>?_) (fun g v i hi=>sz_end hi);exact sz_el (z75 _ _ (wf_el hi hw) hv mv) hi hw.1
theorem z17(a:Y29)(l:Int)(hw:wf y29 a)(h:0<=l)(m:l<=9223372036854775807):u17 a l=some (szN (cnt y29 a) l):=by
 unfold u17;have e:cnt y29 a=cnt (.sl y138) a.1+(cnt (.sl .str) a.2.1+(cnt (.sl y141) a.2.2+0)):=by
  first | rfl | (simp only[cnt_pr,cnt_int,cnt_bool,cnt_str] <;> omega)
 rw[e];refine sz_c (z37 _ _ hw.1 h m) (fun v0 h0 m0=>?_) h;have M0:=Int.le_trans m0 m;refine sz_c (z38 _ _ hw.2.1 h0 M0) (fun v1 h1 m1=>?_) h0;have M1:=Int.le_trans m1 M0;refine sz_c (z39 _ _ hw.2.2 h1 M1) (fun v2 h2 m2=>?_) h1;have M2:=Int.le_trans m2 M1;exact sz_last h2
theorem z154(a:Y225)(l:Int)(hw:wf y225 a)(h:0<=l)(m:l<=9223372036854775807):u154 a l=some (szN (cnt y225 a) l):=by
 unfold u154;have e:cnt y225 a=cnt (.sl (.int .i64)) a.1+(cnt (.sl (.int .i64)) a.2.1+(cnt (.sl (.int .i64)) a.2.2+0)):=by
  first | rfl | (simp only[cnt_pr,cnt_int,cnt_bool,cnt_str] <;> omega)
 rw[e];refine sz_c (z77 _ _ hw.1 h m) (fun v0 h0 m0=>?_) h;have M0:=Int.le_trans m0 m;refine sz_c (z77 _ _ hw.2.1 h0 M0) (fun v1 h1 m1=>?_) h0;have M1:=Int.le_trans m1 M0;refine sz_c (z77 _ _ hw.2.2 h1 M1) (fun v2 h2 m2=>?_) h1;have M2:=Int.le_trans m2 M1;exact sz_last h2
theorem z143(a:List Y225)(l:Int)(hw:wf (.sl y225) a)(h:0<=l)(m:l<=9223372036854775807):u143 a l=some (szN (cnt (.sl y225) a) l):=by
 unfold u143;rw[cnt_sl];refine sz_row (d:=dflt y225) (c:=cnt y225) hw.1 h m (fun g v i hi hv mv=>?_) (fun g v i hi=>sz_end hi);exact sz_el (z154 _ _ (wf_el hi hw) hv mv) hi hw.1
theorem z129(a:Y201)(l:Int)(hw:wf y201 a)(h:0<=l)(m:l<=9223372036854775807):u129 a l=some (szN (cnt y201 a) l):=by
 unfold u129;have e:cnt y201 a=cnt (.sl y225) a.2.2.2.2.1+(cnt (.sl y225) a.2.2.2.2.2+0):=by
  first | rfl | (simp only[cnt_pr,cnt_int,cnt_bool,cnt_str] <;> omega)
 rw[e];refine sz_c (z143 _ _ hw.2.2.2.2.1 h m) (fun v0 h0 m0=>?_) h;have M0:=Int.le_trans m0 m;refine sz_c (z143 _ _ hw.2.2.2.2.2 h0 M0) (fun v1 h1 m1=>?_) h0;have M1:=Int.le_trans m1 M0;exact sz_last h1
theorem z105(a:List Y201)(l:Int)(hw:wf (.sl y201) a)(h:0<=l)(m:l<=9223372036854775807):u105 a l=some (szN (cnt (.sl y201) a) l):=by
 unfold u105;rw[cnt_sl];refine sz_row (d:=dflt y201) (c:=cnt y201) hw.1 h m (fun g v i hi hv mv=>?_) (fun g v i hi=>sz_end hi);exact sz_el (z129 _ _ (wf_el hi hw) hv mv) hi hw.1
theorem z128(a:Y197)(l:Int)(hw:wf y197 a)(h:0<=l)(m:l<=9223372036854775807):u128 a l=some (szN (cnt y197 a) l):=by
 unfold u128;have e:cnt y197 a=a.1.size+0:=by
  first | rfl | (simp only[cnt_pr,cnt_int,cnt_bool,cnt_str] <;> omega)
 rw[e];refine sz_s hw.1 h m (fun h0=>?_);have M0:(l-(a.1.size:Int))<=9223372036854775807:=by omega
 exact sz_last h0
theorem z104(a:List Y197)(l:Int)(hw:wf (.sl y197) a)(h:0<=l)(m:l<=9223372036854775807):u104 a l=some (szN (cnt (.sl y197) a) l):=by
 unfold u104;rw[cnt_sl];refine sz_row (d:=dflt y197) (c:=cnt y197) hw.1 h m (fun g v i hi hv mv=>?_) (fun g v i hi=>sz_end hi);exact sz_el (z128 _ _ (wf_el hi hw) hv mv) hi hw.1
theorem z74(a:Y136)(l:Int)(hw:wf y136 a)(h:0<=l)(m:l<=9223372036854775807):u74 a l=some (szN (cnt y136 a) l):=by
 unfold u74;have e:cnt y136 a=a.1.size+(cnt (.sl y197) a.2.2.1+(cnt (.sl y201) a.2.2.2.1+(cnt (.sl (.int .i64)) a.2.2.2.2.1+0))):=by
  first | rfl | (simp only[cnt_pr,cnt_int,cnt_bool,cnt_str] <;> omega)
 rw[e];refine sz_s hw.1 h m (fun h0=>?_);have M0:(l-(a.1.size:Int))<=9223372036854775807:=by omega
 refine sz_c (z104 _ _ hw.2.2.1 h0 M0) (fun v1 h1 m1=>?_) h0;have M1:=Int.le_trans m1 M0;refine sz_c (z105 _ _ hw.2.2.2.1 h1 M1) (fun v2 h2 m2=>?_) h1;have M2:=Int.le_trans m2 M1;refine sz_c (z77 _ _ hw.2.2.2.2.1 h2 M2) (fun v3 h3 m3=>?_) h2;have M3:=Int.le_trans m3 M2;exact sz_last h3
theorem z36(a:List Y136)(l:Int)(hw:wf (.sl y136) a)(h:0<=l)(m:l<=9223372036854775807):u36 a l=some (szN (cnt (.sl y136) a) l):=by
 unfold u36;rw[cnt_sl];refine sz_row (d:=dflt y136) (c:=cnt y136) hw.1 h m (fun g v i hi hv mv=>?_) (fun g v i hi=>sz_end hi);exact sz_el (z74 _ _ (wf_el hi hw) hv mv) hi hw.1
theorem z16(a:List Y136)(l:Int)(hw:wf (.sl y136) a)(h:0<=l)(m:l<=9223372036854775807):u16 a l=some (szN (cnt (.sl y136) a) l):=by
 unfold u16;have e:cnt (.sl y136) a=cnt (.sl y136) a+0:=by
  first | rfl | (simp only[cnt_pr,cnt_int,cnt_bool,cnt_str] <;> omega)
 rw[e];refine sz_c (z36 _ _ hw h m) (fun v0 h0 m0=>?_) h;have M0:=Int.le_trans m0 m;exact sz_last h0
theorem z4(a:Y32)(l:Int)(hw:wf y32 a)(h:0<=l)(m:l<=9223372036854775807):u4 a l=some (szN (cnt y32 a) l):=by
 unfold u4;have e:cnt y32 a=cnt (.sl y136) a.1+(cnt y29 a.2.1+(cnt (.sl y86) a.2.2+0)):=by
  first | rfl | (simp only[cnt_pr,cnt_int,cnt_bool,cnt_str] <;> omega)
 rw[e];refine sz_c (z16 _ _ hw.1 h m) (fun v0 h0 m0=>?_) h;have M0:=Int.le_trans m0 m;refine sz_c (z17 _ _ hw.2.1 h0 M0) (fun v1 h1 m1=>?_) h0;have M1:=Int.le_trans m1 M0;refine sz_c (z18 _ _ hw.2.2 h1 M1) (fun v2 h2 m2=>?_) h1;have M2:=Int.le_trans m2 M1;exact sz_last h2
theorem w7(a:List Int)(h:cnt (.sl (.int .i64)) a<=1048576):u7 a=some a:=by
 unfold u7;have hl:a.length<=9223372036854775807:=Nat.le_trans (cnt_len h) (by decide);exact to_row (d:=dflt (.int .i64)) (cnt_len h) (by decide) (fun g i ys hi hy=>to_es hi hl hy) (fun g i ys hi=>to_end hi)
theorem w56(a:Y86)(h:cnt y86 a<=1048576):u56 a=some a:=by
 unfold u56;refine to_c (w7 _ (cF h)) ?_;refine to_c (w7 _ (cF (cS h))) ?_;refine to_c (w7 _ (cF (cS (cS h)))) ?_;refine to_c (w7 _ (cS (cS (cS h)))) ?_;rfl
theorem w26(a:List Y86)(h:cnt (.sl y86) a<=1048576):u26 a=some a:=by
 unfold u26;have hl:a.length<=9223372036854775807:=Nat.le_trans (cnt_len h) (by decide);exact to_row (d:=dflt y86) (cnt_len h) (by decide) (fun g i ys hi hy=>to_el (w56 _ (cnt_el hi h)) hi hl hy) (fun g i ys hi=>to_end hi)
theorem w83(a:Y141)(h:cnt y141 a<=1048576):u83 a=some a:=by
 unfold u83;rfl
theorem w55(a:List Y141)(h:cnt (.sl y141) a<=1048576):u55 a=some a:=by
 unfold u55;have hl:a.length<=9223372036854775807:=Nat.le_trans (cnt_len h) (by decide);rw[lE];exact to_row (d:=dflt y141) (cnt_len h) (by decide) (fun g i ys hi hy=>to_el (w83 _ (cnt_el hi h)) hi hl hy) (fun g i ys hi=>to_end hi)
theorem w54(a:List ByteArray)(h:cnt (.sl .str) a<=1048576):u54 a=some a:=by
 unfold u54;have hl:a.length<=9223372036854775807:=Nat.le_trans (cnt_len h) (by decide);exact to_row (d:=dflt .str) (cnt_len h) (by decide) (fun g i ys hi hy=>to_es hi hl hy) (fun g i ys hi=>to_end hi)
theorem w82(a:Y138)(h:cnt y138 a<=1048576):u82 a=some a:=by
 unfold u82;refine to_c (w7 _ (cS (cS h))) ?_;rfl
theorem w53(a:List Y138)(h:cnt (.sl y138) a<=1048576):u53 a=some a:=by
 unfold u53;have hl:a.length<=9223372036854775807:=Nat.le_trans (cnt_len h) (by decide);rw[lE];exact to_row (d:=dflt y138) (cnt_len h) (by decide) (fun g i ys hi hy=>to_el (w82 _ (cnt_el hi h)) hi hl hy) (fun g i ys hi=>to_end hi)
theorem w25(a:Y29)(h:cnt y29 a<=1048576):u25 a=some a:=by
 unfold u25;refine to_c (w53 _ (cF h)) ?_;refine to_c (w54 _ (cF (cS h))) ?_;refine to_c (w55 _ (cS (cS h))) ?_;rfl
theorem w156(a:Y225)(h:cnt y225 a<=1048576):u156 a=some a:=by
 unfold u156;refine to_c (w7 _ (cF h)) ?_;refine to_c (w7 _ (cF (cS h))) ?_;refine to_c (w7 _ (cS (cS h))) ?_;rfl
theorem w147(a:List Y225)(h:cnt (.sl y225) a<=1048576):u147 a=some a:=by
 unfold u147;have hl:a.length<=9223372036854775807:=Nat.le_trans (cnt_len h) (by decide);exact to_row (d:=dflt y225) (cnt_len h) (by decide) (fun g i ys hi hy=>to_el (w156 _ (cnt_el hi h)) hi hl hy) (fun g i ys hi=>to_end hi)
theorem w133(a:Y201)(h:cnt y201 a<=1048576):u133 a=some a:=by
 unfold u133;refine to_c (w147 _ (cF (cS (cS (cS (cS h)))))) ?_;refine to_c (w147 _ (cS (cS (cS (cS (cS h)))))) ?_;rfl
theorem w110(a:List Y201)(h:cnt (.sl y201) a<=1048576):u110 a=some a:=by
 unfold u110;have hl:a.length<=9223372036854775807:=Nat.le_trans (cnt_len h) (by decide);rw[lE];exact to_row (d:=dflt y201) (cnt_len h) (by decide) (fun g i ys hi hy=>to_el (w133 _ (cnt_el hi h)) hi hl hy) (fun g i ys hi=>to_end hi)
theorem w132(a:Y197)(h:cnt y197 a<=1048576):u132 a=some a:=by
 unfold u132;rfl
theorem w109(a:List Y197)(h:cnt (.sl y197) a<=1048576):u109 a=some a:=by
 unfold u109;have hl:a.length<=9223372036854775807:=Nat.le_trans (cnt_len h) (by decide);rw[lE];exact to_row (d:=dflt y197) (cnt_len h) (by decide) (fun g i ys hi hy=>to_el (w132 _ (cnt_el hi h)) hi hl hy) (fun g i ys hi=>to_end hi)
theorem w81(a:Y136)(h:cnt y136 a<=1048576):u81 a=some a:=by
 unfold u81;refine to_c (w109 _ (cF (cS (cS h)))) ?_;refine to_c (w110 _ (cF (cS (cS (cS h))))) ?_;refine to_c (w7 _ (cF (cS (cS (cS (cS h)))))) ?_;rfl
theorem w52(a:List Y136)(h:cnt (.sl y136) a<=1048576):u52 a=some a:=by
 unfold u52;have hl:a.length<=9223372036854775807:=Nat.le_trans (cnt_len h) (by decide);rw[lE];exact to_row (d:=dflt y136) (cnt_len h) (by decide) (fun g i ys hi hy=>to_el (w81 _ (cnt_el hi h)) hi hl hy) (fun g i ys hi=>to_end hi)
theorem w24(a:List Y136)(h:cnt (.sl y136) a<=1048576):u24 a=some a:=by
 unfold u24;refine to_c (w52 _ h) ?_;rfl
theorem w6(a:Y32)(h:cnt y32 a<=1048576):u6 a=some a:=by
 unfold u6;refine to_c (w24 _ (cF h)) ?_;refine to_c (w25 _ (cF (cS h))) ?_;refine to_c (w26 _ (cS (cS h))) ?_;rfl
theorem e11(a:List Int)(h:cnt (.sl (.int .i64)) a<=1048576):u11 a a=some true:=by
 unfold u11;have hl:a.length<=9223372036854775807:=Nat.le_trans (cnt_len h) (by decide);exact eq_row hl (fun g i hi=>eq_es (by simp) hi hl) (fun g i hi=>if_neg (by simp; omega))
theorem e9(a:List (List Int))(h:cnt (.sl (.sl (.int .i64))) a<=1048576):u9 a a=some true:=by
 unfold u9;have hl:a.length<=9223372036854775807:=Nat.le_trans (cnt_len h) (by decide);exact eq_row hl (fun g i hi=>eq_el (e11 _ (cnt_el hi h)) hi hl) (fun g i hi=>if_neg (by simp; omega))
theorem e69(a:Y111)(h:cnt y111 a<=1048576):u69 a a=some true:=by
 unfold u69;refine eq_c (e11 _ (cF h)) ?_;refine eq_c (e11 _ (cF (cS h))) ?_;refine eq_c (e11 _ (cF (cS (cS h)))) ?_;refine eq_c (e11 _ (cS (cS (cS h)))) ?_;rfl
theorem e31(a:List Y111)(h:cnt (.sl y111) a<=1048576):u31 a a=some true:=by
 unfold u31;have hl:a.length<=9223372036854775807:=Nat.le_trans (cnt_len h) (by decide);exact eq_row hl (fun g i hi=>eq_el (e69 _ (cnt_el hi h)) hi hl) (fun g i hi=>if_neg (by simp; omega))
theorem e100(a:Y149)(h:cnt y149 a<=1048576):u100 a a=some true:=by
 unfold u100;refine eq_d rfl ?_
 first | refine eq_i ?_ | refine eq_b ?_
 first | refine eq_i ?_ | refine eq_b ?_
 rfl
theorem e68(a:List Y149)(h:cnt (.sl y149) a<=1048576):u68 a a=some true:=by
 unfold u68;have hl:a.length<=9223372036854775807:=Nat.le_trans (cnt_len h) (by decide);exact eq_row hl (fun g i hi=>eq_el (e100 _ (cnt_el hi h)) hi hl) (fun g i hi=>if_neg (by simp; omega))
theorem e67(a:List ByteArray)(h:cnt (.sl .str) a<=1048576):u67 a a=some true:=by
 unfold u67;have hl:a.length<=9223372036854775807:=Nat.le_trans (cnt_len h) (by decide);exact eq_row hl (fun g i hi=>eq_es (by simp) hi hl) (fun g i hi=>if_neg (by simp; omega))
theorem e99(a:Y94)(h:cnt y94 a<=1048576):u99 a a=some true:=by
 unfold u99;refine eq_d rfl ?_
 first | refine eq_i ?_ | refine eq_b ?_
 refine eq_c (e11 _ (cS (cS h))) ?_;rfl
theorem e66(a:List Y94)(h:cnt (.sl y94) a<=1048576):u66 a a=some true:=by
 unfold u66;have hl:a.length<=9223372036854775807:=Nat.le_trans (cnt_len h) (by decide);exact eq_row hl (fun g i hi=>eq_el (e99 _ (cnt_el hi h)) hi hl) (fun g i hi=>if_neg (by simp; omega))
theorem e30(a:Y44)(h:cnt y44 a<=1048576):u30 a a=some true:=by
 unfold u30;refine eq_c (e66 _ (cF h)) ?_;refine eq_c (e67 _ (cF (cS h))) ?_;refine eq_c (e68 _ (cS (cS h))) ?_;rfl
theorem e166(a:Y213)(h:cnt y213 a<=1048576):u166 a a=some true:=by
 unfold u166;refine eq_c (e11 _ (cF h)) ?_;refine eq_c (e11 _ (cF (cS h))) ?_;refine eq_c (e11 _ (cS (cS h))) ?_;rfl
theorem e153(a:List Y213)(h:cnt (.sl y213) a<=1048576):u153 a a=some true:=by
 unfold u153;have hl:a.length<=9223372036854775807:=Nat.le_trans (cnt_len h) (by decide);exact eq_row hl (fun g i hi=>eq_el (e166 _ (cnt_el hi h)) hi hl) (fun g i hi=>if_neg (by simp; omega))
theorem e142(a:Y97)(h:cnt y97 a<=1048576):u142 a a=some true:=by
 unfold u142
 first | refine eq_i ?_ | refine eq_b ?_
 first | refine eq_i ?_ | refine eq_b ?_
 first | refine eq_i ?_ | refine eq_b ?_
 first | refine eq_i ?_ | refine eq_b ?_
 refine eq_c (e153 _ (cF (cS (cS (cS (cS h)))))) ?_;refine eq_c (e153 _ (cS (cS (cS (cS (cS h)))))) ?_;rfl
theorem e126(a:List Y97)(h:cnt (.sl y97) a<=1048576):u126 a a=some true:=by
 unfold u126;have hl:a.length<=9223372036854775807:=Nat.le_trans (cnt_len h) (by decide);exact eq_row hl (fun g i hi=>eq_el (e142 _ (cnt_el hi h)) hi hl) (fun g i hi=>if_neg (by simp; omega))
theorem e141(a:Y194)(h:cnt y194 a<=1048576):u141 a a=some true:=by
 unfold u141;refine eq_d rfl ?_
 first | refine eq_i ?_ | refine eq_b ?_
 first | refine eq_i ?_ | refine eq_b ?_
 refine eq_b' ?_;rfl
theorem e125(a:List Y194)(h:cnt (.sl y194) a<=1048576):u125 a a=some true:=by
 unfold u125;have hl:a.length<=9223372036854775807:=Nat.le_trans (cnt_len h) (by decide);exact eq_row hl (fun g i hi=>eq_el (e141 _ (cnt_el hi h)) hi hl) (fun g i hi=>if_neg (by simp; omega))
theorem e98(a:Y92)(h:cnt y92 a<=1048576):u98 a a=some true:=by
 unfold u98;refine eq_d rfl ?_
 first | refine eq_i ?_ | refine eq_b ?_
 refine eq_c (e125 _ (cF (cS (cS h)))) ?_;refine eq_c (e126 _ (cF (cS (cS (cS h))))) ?_;refine eq_c (e11 _ (cF (cS (cS (cS (cS h)))))) ?_
 first | refine eq_i ?_ | refine eq_b ?_
 first | refine eq_i ?_ | refine eq_b ?_
 rfl
theorem e65(a:List Y92)(h:cnt (.sl y92) a<=1048576):u65 a a=some true:=by
 unfold u65;have hl:a.length<=9223372036854775807:=Nat.le_trans (cnt_len h) (by decide);exact eq_row hl (fun g i hi=>eq_el (e98 _ (cnt_el hi h)) hi hl) (fun g i hi=>if_neg (by simp; omega))
theorem e29(a:List Y92)(h:cnt (.sl y92) a<=1048576):u29 a a=some true:=by
 unfold u29;refine eq_c (e65 _ h) ?_;rfl
theorem e10(a:Y47)(h:cnt y47 a<=1048576):u10 a a=some true:=by
 unfold u10;refine eq_c (e29 _ (cF h)) ?_;refine eq_c (e30 _ (cF (cS h))) ?_;refine eq_c (e31 _ (cS (cS h))) ?_;rfl
end Go.Proofs.YtlfeppknkfknhaaGreatDoor
end

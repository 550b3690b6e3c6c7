/- Laws of sizes, copies, comparisons: printed by program. -/
import Derived.Test.YthobjlocnkienaaGreatDoorXF
import Derived.Test.YthobjlocnkienaaGreatDoorFn25d
section
namespace Go.Proofs.YthobjlocnkienaaGreatDoor
open Go Go.Proofs Go.Proofs.Xv Go.Proofs.Xl Go.Proofs.Xd
theorem z134(a:List Int)(l:Int)(hw:wf (.sl (.int .i64)) a)(h:0<=l)(m:l<=9223372036854775807):u134 a l=some (szN (cnt (.sl (.int .i64)) a) l):=by
 unfold u134;have e:cnt (.sl (.int .i64)) a=a.length+0:=cnt_ints;rw[e];exact sz_s hw.1 h m fun H=>sz_last H
theorem z77(a:Y120)(l:Int)(hw:wf y120 a)(h:0<=l)(m:l<=9223372036854775807):u77 a l=some (szN (cnt y120 a) l):=by
 unfold u77;have e:cnt y120 a=cnt (.sl (.int .i64)) a.1+(cnt (.sl (.int .i64)) a.2.1+(cnt (.sl (.int .i64)) a.2.2.1+(cnt (.sl (.int .i64)) a.2.2.2+0))):=by
  first | rfl | (simp only[cnt_pr,cnt_int,cnt_bool,cnt_str] <;> omega)
 rw[e];refine sz_c (z134 _ _ hw.1 h m) (fun v0 h0 m0=>?_) h;have M0:=Int.le_trans m0 m;refine sz_c (z134 _ _ hw.2.1 h0 M0) (fun v1 h1 m1=>?_) h0;have M1:=Int.le_trans m1 M0;refine sz_c (z134 _ _ hw.2.2.1 h1 M1) (fun v2 h2 m2=>?_) h1;have M2:=Int.le_trans m2 M1;refine sz_c (z134 _ _ hw.2.2.2 h2 M2) (fun v3 h3 m3=>?_) h2;have M3:=Int.le_trans m3 M2;exact sz_last h3
theorem z37(a:List Y120)(l:Int)(hw:wf (.sl y120) a)(h:0<=l)(m:l<=9223372036854775807):u37 a l=some (szN (cnt (.sl y120) a) l):=by
 unfold u37;rw[cnt_sl];refine sz_row (d:=dflt y120) (c:=cnt y120) hw.1 h m (fun g v i hi hv mv=>?_) (fun g v i hi=>sz_end hi);exact sz_el (z77 _ _ (wf_el hi hw) hv mv) hi hw.1
theorem z133(a:Y187)(l:Int)(hw:wf y187 a)(h:0<=l)(m:l<=9223372036854775807):u133 a l=some (szN (cnt y187 a) l):=by
 unfold u133;have e:cnt y187 a=a.1.size+0:=by
  first | rfl | (simp only[cnt_pr,cnt_int,cnt_bool,cnt_str] <;> omega)
 rw[e];refine sz_s hw.1 h m (fun h0=>?_);have M0:(l-(a.1.size:Int))<=9223372036854775807:=by omega
 exact sz_last h0
theorem z76(a:List Y187)(l:Int)(hw:wf (.sl y187) a)(h:0<=l)(m:l<=9223372036854775807):u76 a l=some (szN (cnt (.sl y187) a) l):=by
 unfold u76;rw[cnt_sl];refine sz_row (d:=dflt y187) (c:=cnt y187) hw.1 h m (fun g v i hi hv mv=>?_) (fun g v i hi=>sz_end hi);exact sz_el (z133 _ _ (wf_el hi hw) hv mv) hi hw.1
theorem z75(a:List ByteArray)(l:Int)(hw:wf (.sl .str) a)(h:0<=l)(m:l<=9223372036854775807):u75 a l=some (szN (cnt (.sl .str) a) l):=by
 unfold u75;rw[cnt_sl];refine sz_row (d:=dflt .str) (c:=cnt .str) hw.1 h m (fun g v i hi hv mv=>?_) (fun g v i hi=>sz_end hi);have hs:=wf_el (d:=dflt .str) hi hw;rw[cnt_str];exact sz_es hi hw.1 hs hv mv
theorem z132(a:Y184)(l:Int)(hw:wf y184 a)(h:0<=l)(m:l<=9223372036854775807):u132 a l=some (szN (cnt y184 a) l):=by
 unfold u132;have e:cnt y184 a=a.1.size+(cnt (.sl (.int .i64)) a.2.2+0):=by
  first | rfl | (simp only[cnt_pr,cnt_int,cnt_bool,cnt_str] <;> omega)
 rw[e];refine sz_s hw.1 h m (fun h0=>?_);have M0:(l-(a.1.size:Int))<=9223372036854775807:=by omega
 refine sz_c (z134 _ _ hw.2.2 h0 M0) (fun v1 h1 m1=>?_) h0;have M1:=Int.le_trans m1 M0;exact sz_last h1
theorem z74(a:List Y184)(l:Int)(hw:wf (.sl y184) a)(h:0<=l)(m:l<=9223372036854775807):u74 a l=some (szN (cnt (.sl y184) a) l):=by
 unfold u74;rw[cnt_sl];refine sz_row (d:=dflt y184) (c:=cnt y184) hw.1 h m (fun g v i hi hv mv=>?_) (fun g v i hi=>sz_end hi);exact sz_el (z132 _ _ (wf_el hi hw) hv mv) hi hw.1
theorem z36(a:Y29)(l:Int)(hw:wf y29 a)(h:0<=l)(m:l<=9223372036854775807):u36 a l=some (szN (cnt y29 a) l):=by
 unfold u36;have e:cnt y29 a=cnt (.sl y184) a.1+(cnt (.sl .str) a.2.1+(cnt (.sl y187) a.2.2+0)):=by
  first | rfl | (simp only[cnt_pr,cnt_int,cnt_bool,cnt_str] <;> omega)
 rw[e];refine sz_c (z74 _ _ hw.1 h m) (fun v0 h0 m0=>?_) h;have M0:=Int.le_trans m0 m;refine sz_c (z75 _ _ hw.2.1 h0 M0) (fun v1 h1 m1=>?_) h0;have M1:=Int.le_trans m1 M0;refine sz_c (z76 _ _ hw.2.2 h1 M1) (fun v2 h2 m2=>?_) h1;have M2:=Int.le_trans m2 M1;exact sz_last h2
theorem z237(a:Y288)(l:Int)(hw:wf y288 a)(h:0<=l)(m:l<=9223372036854775807):u237 a l=some (szN (cnt y288 a) l):=by
 unfold u237;have e:cnt y288 a=cnt (.sl (.int .i64)) a.1+(cnt (.sl (.int .i64)) a.2.1+(cnt (.sl (.int .i64)) a.2.2+0)):=by
  first | rfl | (simp only[cnt_pr,cnt_int,cnt_bool,cnt_str] <;> omega)
 rw[e];refine sz_c (z134 _ _ hw.1 h m) (fun v0 h0 m0=>?_) h;have M0:=Int.le_trans m0 m;refine sz_c (z134 _ _ hw.2.1 h0 M0) (fun v1 h1 m1=>?_) h0;have M1:=Int.le_trans m1 M0;refine sz_c (z134 _ _ hw.2.2 h1 M1) (fun v2 h2 m2=>?_) h1;have M2:=Int.le_trans m2 M1;exact sz_last h2
theorem z223(a:List Y288)(l:Int)(hw:wf (.sl y288) a)(h:0<=l)(m:l<=9223372036854775807):u223 a l=some (szN (cnt (.sl y288) a) l):=by
 unfold u223;rw[cnt_sl];refine sz_row (d:=dflt y288) (c:=cnt y288) hw.1 h m (fun g v i hi hv mv=>?_) (fun g v i hi=>sz_end hi);exact sz_el (z237 _ _ (wf_el hi hw) hv mv) hi hw.1
theorem z203(a:Y255)(l:Int)(hw:wf y255 a)(h:0<=l)(m:l<=9223372036854775807):u203 a l=some (szN (cnt y255 a) l):=by
 unfold u203;have e:cnt y255 a=cnt (.sl y288) a.2.2.2.2.1+(cnt (.sl y288) a.2.2.2.2.2+0):=by
  first | rfl | (simp only[cnt_pr,cnt_int,cnt_bool,cnt_str] <;> omega)
 rw[e];refine sz_c (z223 _ _ hw.2.2.2.2.1 h m) (fun v0 h0 m0=>?_) h;have M0:=Int.le_trans m0 m;refine sz_c (z223 _ _ hw.2.2.2.2.2 h0 M0) (fun v1 h1 m1=>?_) h0;have M1:=Int.le_trans m1 M0;exact sz_last h1
theorem z174(a:List Y255)(l:Int)(hw:wf (.sl y255) a)(h:0<=l)(m:l<=9223372036854775807):u174 a l=some (szN (cnt (.sl y255) a) l):=by
 unfold u174;rw[cnt_sl];refine sz_row (d:=dflt y255) (c:=cnt y255) hw.1 h m (fun g v i hi hv mv=>?_) (fun g v i hi=>sz_end hi);exact sz_el (z203 _ _ (wf_el hi hw) hv mv) hi hw.1
theorem z202(a:Y251)(l:Int)(hw:wf y251 a)(h:0<=l)(m:l<=9223372036854775807):u202 a l=some (szN (cnt y251 a) l):=by
 unfold u202;have e:cnt y251 a=a.1.size+0:=by
  first | rfl | (simp only[cnt_pr,cnt_int,cnt_bool,cnt_str] <;> omega)
 rw[e];refine sz_s hw.1 h m (fun h0=>?_);have M0:(l-(a.1.size:Int))<=9223372036854775807:=by omega
 exact sz_last h0
theorem z173(a:List Y251)(l:Int)(hw:wf (.sl y251) a)(h:0<=l)(m:l<=9223372036854775807):u173 a l=some (szN (cnt (.sl y251) a) l):=by
 unfold u173;rw[cnt_sl];refine sz_row (d:=dflt y251) (c:=cnt y251) hw.1 h m (fun g v i hi hv mv=>?_) (fun g v i hi=>sz_end hi);exact sz_el (z202 _ _ (wf_el hi hw) hv mv) hi hw.1
theorem z131(a:Y182)(l:Int)(hw:wf y182 a)(h:0<=l)(m:l<=9223372036854775807):u131 a l=some (szN (cnt y182 a) l):=by
 unfold u131;have e:cnt y182 a=a.1.size+(cnt (.sl y251) a.2.2.1+(cnt (.sl y255) a.2.2.2.1+(cnt (.sl (.int .i64)) a.2.2.2.2.1+0))):=by
  first | rfl | (simp only[cnt_pr,cnt_int,cnt_bool,cnt_str] <;> omega)
 rw[e];refine sz_s hw.1 h m (fun h0=>?_);have M0:(l-(a.1.size:Int))<=9223372036854775807:=by omega
 refine sz_c (z173 _ _ hw.2.2.1 h0 M0) (fun v1 h1 m1=>?_) h0;have M1:=Int.le_trans m1 M0;refine sz_c (z174 _ _ hw.2.2.2.1 h1 M1) (fun v2 h2 m2=>?_) h1;have M2:=Int.le_trans m2 M1;refine sz_c (z134 _ _ hw.2.2.2.2.1 h2 M2) (fun v3 h3 m3=>?_) h2;have M3:=Int.le_trans m3 M2;exact sz_last h3
theorem z73(a:List Y182)(l:Int)(hw:wf (.sl y182) a)(h:0<=l)(m:l<=9223372036854775807):u73 a l=some (szN (cnt (.sl y182) a) l):=by
 unfold u73;rw[cnt_sl];refine sz_row (d:=dflt y182) (c:=cnt y182) hw.1 h m (fun g v i hi hv mv=>?_) (fun g v i hi=>sz_end hi);exact sz_el (z131 _ _ (wf_el hi hw) hv mv) hi hw.1
theorem z35(a:List Y182)(l:Int)(hw:wf (.sl y182) a)(h:0<=l)(m:l<=9223372036854775807):u35 a l=some (szN (cnt (.sl y182) a) l):=by
 unfold u35;have e:cnt (.sl y182) a=cnt (.sl y182) a+0:=by
  first | rfl | (simp only[cnt_pr,cnt_int,cnt_bool,cnt_str] <;> omega)
 rw[e];refine sz_c (z73 _ _ hw h m) (fun v0 h0 m0=>?_) h;have M0:=Int.le_trans m0 m;exact sz_last h0
theorem z10(a:Y32)(l:Int)(hw:wf y32 a)(h:0<=l)(m:l<=9223372036854775807):u10 a l=some (szN (cnt y32 a) l):=by
 unfold u10;have e:cnt y32 a=cnt (.sl y182) a.1+(cnt y29 a.2.1+(cnt (.sl y120) a.2.2+0)):=by
  first | rfl | (simp only[cnt_pr,cnt_int,cnt_bool,cnt_str] <;> omega)
 rw[e];refine sz_c (z35 _ _ hw.1 h m) (fun v0 h0 m0=>?_) h;have M0:=Int.le_trans m0 m;refine sz_c (z36 _ _ hw.2.1 h0 M0) (fun v1 h1 m1=>?_) h0;have M1:=Int.le_trans m1 M0;refine sz_c (z37 _ _ hw.2.2 h1 M1) (fun v2 h2 m2=>?_) h1;have M2:=Int.le_trans m2 M1;exact sz_last h2
theorem w13(a:List Int)(h:cnt (.sl (.int .i64)) a<=1048576):u13 a=some a:=by
 unfold u13;have hl:a.length<=9223372036854775807:=Nat.le_trans (cnt_len h) (by decide);exact to_row (d:=dflt (.int .i64)) (cnt_len h) (by decide) (fun g i ys hi hy=>to_es hi hl hy) (fun g i ys hi=>to_end hi)
theorem w84(a:Y120)(h:cnt y120 a<=1048576):u84 a=some a:=by
 unfold u84;refine to_c (w13 _ (cF h)) ?_;refine to_c (w13 _ (cF (cS h))) ?_;refine to_c (w13 _ (cF (cS (cS h)))) ?_;refine to_c (w13 _ (cS (cS (cS h)))) ?_;rfl
theorem w41(a:List Y120)(h:cnt (.sl y120) a<=1048576):u41 a=some a:=by
 unfold u41;have hl:a.length<=9223372036854775807:=Nat.le_trans (cnt_len h) (by decide);exact to_row (d:=dflt y120) (cnt_len h) (by decide) (fun g i ys hi hy=>to_el (w84 _ (cnt_el hi h)) hi hl hy) (fun g i ys hi=>to_end hi)
theorem w137(a:Y187)(h:cnt y187 a<=1048576):u137 a=some a:=by
 unfold u137;rfl
theorem w83(a:List Y187)(h:cnt (.sl y187) a<=1048576):u83 a=some a:=by
 unfold u83;have hl:a.length<=9223372036854775807:=Nat.le_trans (cnt_len h) (by decide);rw[lE];exact to_row (d:=dflt y187) (cnt_len h) (by decide) (fun g i ys hi hy=>to_el (w137 _ (cnt_el hi h)) hi hl hy) (fun g i ys hi=>to_end hi)
theorem w82(a:List ByteArray)(h:cnt (.sl .str) a<=1048576):u82 a=some a:=by
 unfold u82;have hl:a.length<=9223372036854775807:=Nat.le_trans (cnt_len h) (by decide);exact to_row (d:=dflt .str) (cnt_len h) (by decide) (fun g i ys hi hy=>to_es hi hl hy) (fun g i ys hi=>to_end hi)
theorem w136(a:Y184)(h:cnt y184 a<=1048576):u136 a=some a:=by
 unfold u136;refine to_c (w13 _ (cS (cS h))) ?_;rfl
theorem w81(a:List Y184)(h:cnt (.sl y184) a<=1048576):u81 a=some a:=by
 unfold u81;have hl:a.length<=9223372036854775807:=Nat.le_trans (cnt_len h) (by decide);rw[lE];exact to_row (d:=dflt y184) (cnt_len h) (by decide) (fun g i ys hi hy=>to_el (w136 _ (cnt_el hi h)) hi hl hy) (fun g i ys hi=>to_end hi)
theorem w40(a:Y29)(h:cnt y29 a<=1048576):u40 a=some a:=by
 unfold u40;refine to_c (w81 _ (cF h)) ?_;refine to_c (w82 _ (cF (cS h))) ?_;refine to_c (w83 _ (cS (cS h))) ?_;rfl
theorem w238(a:Y288)(h:cnt y288 a<=1048576):u238 a=some a:=by
 unfold u238;refine to_c (w13 _ (cF h)) ?_;refine to_c (w13 _ (cF (cS h))) ?_;refine to_c (w13 _ (cS (cS h))) ?_;rfl
theorem w224(a:List Y288)(h:cnt (.sl y288) a<=1048576):u224 a=some a:=by
 unfold u224;have hl:a.length<=9223372036854775807:=Nat.le_trans (cnt_len h) (by decide);exact to_row (d:=dflt y288) (cnt_len h) (by decide) (fun g i ys hi hy=>to_el (w238 _ (cnt_el hi h)) hi hl hy) (fun g i ys hi=>to_end hi)
theorem w205(a:Y255)(h:cnt y255 a<=1048576):u205 a=some a:=by
 unfold u205;refine to_c (w224 _ (cF (cS (cS (cS (cS h)))))) ?_;refine to_c (w224 _ (cS (cS (cS (cS (cS h)))))) ?_;rfl
theorem w176(a:List Y255)(h:cnt (.sl y255) a<=1048576):u176 a=some a:=by
 unfold u176;have hl:a.length<=9223372036854775807:=Nat.le_trans (cnt_len h) (by decide);rw[lE];exact to_row (d:=dflt y255) (cnt_len h) (by decide) (fun g i ys hi hy=>to_el (w205 _ (cnt_el hi h)) hi hl hy) (fun g i ys hi=>to_end hi)
theorem w204(a:Y251)(h:cnt y251 a<=1048576):u204 a=some a:=by
 unfold u204;rfl
theorem w175(a:List Y251)(h:cnt (.sl y251) a<=1048576):u175 a=some a:=by
 unfold u175;have hl:a.length<=9223372036854775807:=Nat.le_trans (cnt_len h) (by decide);rw[lE];exact to_row (d:=dflt y251) (cnt_len h) (by decide) (fun g i ys hi hy=>to_el (w204 _ (cnt_el hi h)) hi hl hy) (fun g i ys hi=>to_end hi)
theorem w135(a:Y182)(h:cnt y182 a<=1048576):u135 a=some a:=by
 unfold u135;refine to_c (w175 _ (cF (cS (cS h)))) ?_;refine to_c (w176 _ (cF (cS (cS (cS h))))) ?_;refine to_c (w13 _ (cF (cS (cS (cS (cS h)))))) ?_;rfl
theorem w80(a:List Y182)(h:cnt (.sl y182) a<=1048576):u80 a=some a:=by
 unfold u80;have hl:a.length<=9223372036854775807:=Nat.le_trans (cnt_len h) (by decide);rw[lE];exact to_row (d:=dflt y182) (cnt_len h) (by decide) (fun g i ys hi hy=>to_el (w135 _ (cnt_el hi h)) hi hl hy) (fun g i ys hi=>to_end hi)
theorem w39(a:List Y182)(h:cnt (.sl y182) a<=1048576):u39 a=some a:=by
 unfold u39;refine to_c (w80 _ h) ?_;rfl
theorem w12(a:Y32)(h:cnt y32 a<=1048576):u12 a=some a:=by
 unfold u12;refine to_c (w39 _ (cF h)) ?_;refine to_c (w40 _ (cF (cS h))) ?_;refine to_c (w41 _ (cS (cS h))) ?_;rfl
theorem e15(a:List Int)(h:cnt (.sl (.int .i64)) a<=1048576):u15 a a=some true:=by
 unfold u15;have hl:a.length<=9223372036854775807:=Nat.le_trans (cnt_len h) (by decide);exact eq_row hl (fun g i hi=>eq_es (by simp) hi hl) (fun g i hi=>if_neg (by simp; omega))
theorem e92(a:Y126)(h:cnt y126 a<=1048576):u92 a a=some true:=by
 unfold u92;refine eq_c (e15 _ (cF h)) ?_;refine eq_c (e15 _ (cF (cS h))) ?_;refine eq_c (e15 _ (cF (cS (cS h)))) ?_;refine eq_c (e15 _ (cS (cS (cS h)))) ?_;rfl
theorem e48(a:List Y126)(h:cnt (.sl y126) a<=1048576):u48 a a=some true:=by
 unfold u48;have hl:a.length<=9223372036854775807:=Nat.le_trans (cnt_len h) (by decide);exact eq_row hl (fun g i hi=>eq_el (e92 _ (cnt_el hi h)) hi hl) (fun g i hi=>if_neg (by simp; omega))
theorem e142(a:Y190)(h:cnt y190 a<=1048576):u142 a a=some true:=by
 unfold u142;refine eq_d rfl ?_
 first | refine eq_i ?_ | refine eq_b ?_
 first | refine eq_i ?_ | refine eq_b ?_
 rfl
theorem e91(a:List Y190)(h:cnt (.sl y190) a<=1048576):u91 a a=some true:=by
 unfold u91;have hl:a.length<=9223372036854775807:=Nat.le_trans (cnt_len h) (by decide);exact eq_row hl (fun g i hi=>eq_el (e142 _ (cnt_el hi h)) hi hl) (fun g i hi=>if_neg (by simp; omega))
theorem e90(a:List ByteArray)(h:cnt (.sl .str) a<=1048576):u90 a a=some true:=by
 unfold u90;have hl:a.length<=9223372036854775807:=Nat.le_trans (cnt_len h) (by decide);exact eq_row hl (fun g i hi=>eq_es (by simp) hi hl) (fun g i hi=>if_neg (by simp; omega))
theorem e141(a:Y150)(h:cnt y150 a<=1048576):u141 a a=some true:=by
 unfold u141;refine eq_d rfl ?_
 first | refine eq_i ?_ | refine eq_b ?_
 refine eq_c (e15 _ (cS (cS h))) ?_;rfl
theorem e89(a:List Y150)(h:cnt (.sl y150) a<=1048576):u89 a a=some true:=by
 unfold u89;have hl:a.length<=9223372036854775807:=Nat.le_trans (cnt_len h) (by decide);exact eq_row hl (fun g i hi=>eq_el (e141 _ (cnt_el hi h)) hi hl) (fun g i hi=>if_neg (by simp; omega))
theorem e47(a:Y43)(h:cnt y43 a<=1048576):u47 a a=some true:=by
 unfold u47;refine eq_c (e89 _ (cF h)) ?_;refine eq_c (e90 _ (cF (cS h))) ?_;refine eq_c (e91 _ (cS (cS h))) ?_;rfl
theorem e239(a:Y261)(h:cnt y261 a<=1048576):u239 a a=some true:=by
 unfold u239;refine eq_c (e15 _ (cF h)) ?_;refine eq_c (e15 _ (cF (cS h))) ?_;refine eq_c (e15 _ (cS (cS h))) ?_;rfl
theorem e225(a:List Y261)(h:cnt (.sl y261) a<=1048576):u225 a a=some true:=by
 unfold u225;have hl:a.length<=9223372036854775807:=Nat.le_trans (cnt_len h) (by decide);exact eq_row hl (fun g i hi=>eq_el (e239 _ (cnt_el hi h)) hi hl) (fun g i hi=>if_neg (by simp; omega))
theorem e207(a:Y153)(h:cnt y153 a<=1048576):u207 a a=some true:=by
 unfold u207
 first | refine eq_i ?_ | refine eq_b ?_
 first | refine eq_i ?_ | refine eq_b ?_
 first | refine eq_i ?_ | refine eq_b ?_
 first | refine eq_i ?_ | refine eq_b ?_
 refine eq_c (e225 _ (cF (cS (cS (cS (cS h)))))) ?_;refine eq_c (e225 _ (cS (cS (cS (cS (cS h)))))) ?_;rfl
theorem e178(a:List Y153)(h:cnt (.sl y153) a<=1048576):u178 a a=some true:=by
 unfold u178;have hl:a.length<=9223372036854775807:=Nat.le_trans (cnt_len h) (by decide);exact eq_row hl (fun g i hi=>eq_el (e207 _ (cnt_el hi h)) hi hl) (fun g i hi=>if_neg (by simp; omega))
theorem e206(a:Y222)(h:cnt y222 a<=1048576):u206 a a=some true:=by
 unfold u206;refine eq_d rfl ?_
 first | refine eq_i ?_ | refine eq_b ?_
 first | refine eq_i ?_ | refine eq_b ?_
 refine eq_b' ?_;rfl
theorem e177(a:List Y222)(h:cnt (.sl y222) a<=1048576):u177 a a=some true:=by
 unfold u177;have hl:a.length<=9223372036854775807:=Nat.le_trans (cnt_len h) (by decide);exact eq_row hl (fun g i hi=>eq_el (e206 _ (cnt_el hi h)) hi hl) (fun g i hi=>if_neg (by simp; omega))
theorem e140(a:Y148)(h:cnt y148 a<=1048576):u140 a a=some true:=by
 unfold u140;refine eq_d rfl ?_
 first | refine eq_i ?_ | refine eq_b ?_
 refine eq_c (e177 _ (cF (cS (cS h)))) ?_;refine eq_c (e178 _ (cF (cS (cS (cS h))))) ?_;refine eq_c (e15 _ (cF (cS (cS (cS (cS h)))))) ?_
 first | refine eq_i ?_ | refine eq_b ?_
 first | refine eq_i ?_ | refine eq_b ?_
 rfl
theorem e88(a:List Y148)(h:cnt (.sl y148) a<=1048576):u88 a a=some true:=by
 unfold u88;have hl:a.length<=9223372036854775807:=Nat.le_trans (cnt_len h) (by decide);exact eq_row hl (fun g i hi=>eq_el (e140 _ (cnt_el hi h)) hi hl) (fun g i hi=>if_neg (by simp; omega))
theorem e46(a:List Y148)(h:cnt (.sl y148) a<=1048576):u46 a a=some true:=by
 unfold u46;refine eq_c (e88 _ h) ?_;rfl
theorem e16(a:Y46)(h:cnt y46 a<=1048576):u16 a a=some true:=by
 unfold u16;refine eq_c (e46 _ (cF h)) ?_;refine eq_c (e47 _ (cF (cS h))) ?_;refine eq_c (e48 _ (cS (cS h))) ?_;rfl
end Go.Proofs.YthobjlocnkienaaGreatDoor
end

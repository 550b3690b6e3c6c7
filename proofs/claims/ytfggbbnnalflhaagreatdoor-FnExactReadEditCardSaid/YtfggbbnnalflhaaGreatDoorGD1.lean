/- Laws of sizes, copies and comparisons: printed by program. -/
import Derived.Test.YtfggbbnnalflhaaGreatDoorFD1b
import Derived.Test.YtfggbbnnalflhaaGreatDoorXF
section
namespace Go.Proofs.YtfggbbnnalflhaaGreatDoor
open Go Go.Proofs Go.Proofs.Xv Go.Proofs.Xl Go.Proofs.Xd
theorem z114(a:List Int)(l:Int)(hw:wf (.sl (.int .i64)) a)(h:0<=l)(m:l<=9223372036854775807):u114 a l=some (szN (cnt (.sl (.int .i64)) a) l):=by
 unfold u114;have e:cnt (.sl (.int .i64)) a=a.length+0:=cnt_ints;rw[e];exact sz_s hw.1 h m fun H=>sz_last H
theorem z54(a:Y94)(l:Int)(hw:wf y94 a)(h:0<=l)(m:l<=9223372036854775807):u54 a l=some (szN (cnt y94 a) l):=by
 unfold u54;have e:cnt y94 a=cnt (.sl (.int .i64)) a.1+(cnt (.sl (.int .i64)) a.2.1+(cnt (.sl (.int .i64)) a.2.2.1+(cnt (.sl (.int .i64)) a.2.2.2+0))):=by
  first | rfl | (simp only[cnt_pr,cnt_int,cnt_bool,cnt_str] <;> omega)
 rw[e];refine sz_c (z114 _ _ hw.1 h m) (fun v0 h0 m0=>?_) h;have M0:=Int.le_trans m0 m;refine sz_c (z114 _ _ hw.2.1 h0 M0) (fun v1 h1 m1=>?_) h0;have M1:=Int.le_trans m1 M0;refine sz_c (z114 _ _ hw.2.2.1 h1 M1) (fun v2 h2 m2=>?_) h1;have M2:=Int.le_trans m2 M1;refine sz_c (z114 _ _ hw.2.2.2 h2 M2) (fun v3 h3 m3=>?_) h2;have M3:=Int.le_trans m3 M2;exact sz_last h3
theorem z21(a:List Y94)(l:Int)(hw:wf (.sl y94) a)(h:0<=l)(m:l<=9223372036854775807):u21 a l=some (szN (cnt (.sl y94) a) l):=by
 unfold u21;rw[cnt_sl];refine sz_row (d:=dflt y94) (c:=cnt y94) hw.1 h m (fun g v i hi hv mv=>?_) (fun g v i hi=>sz_end hi);exact sz_el (z54 _ _ (wf_el hi hw) hv mv) hi hw.1
theorem z113(a:Y164)(l:Int)(hw:wf y164 a)(h:0<=l)(m:l<=9223372036854775807):u113 a l=some (szN (cnt y164 a) l):=by
 unfold u113;have e:cnt y164 a=a.1.size+0:=by
  first | rfl | (simp only[cnt_pr,cnt_int,cnt_bool,cnt_str] <;> omega)
 rw[e];refine sz_s hw.1 h m (fun h0=>?_);have M0:(l-(a.1.size:Int))<=9223372036854775807:=by omega
 exact sz_last h0
theorem z53(a:List Y164)(l:Int)(hw:wf (.sl y164) a)(h:0<=l)(m:l<=9223372036854775807):u53 a l=some (szN (cnt (.sl y164) a) l):=by
 unfold u53;rw[cnt_sl];refine sz_row (d:=dflt y164) (c:=cnt y164) hw.1 h m (fun g v i hi hv mv=>?_) (fun g v i hi=>sz_end hi);exact sz_el (z113 _ _ (wf_el hi hw) hv mv) hi hw.1
theorem z52(a:List ByteArray)(l:Int)(hw:wf (.sl .str) a)(h:0<=l)(m:l<=9223372036854775807):u52 a l=some (szN (cnt (.sl .str) a) l):=by
 unfold u52;rw[cnt_sl];refine sz_row (d:=dflt .str) (c:=cnt .str) hw.1 h m (fun g v i hi hv mv=>?_) (fun g v i hi=>sz_end hi);have hs:=wf_el (d:=dflt .str) hi hw;rw[cnt_str];exact sz_es hi hw.1 hs hv mv
theorem z112(a:Y161)(l:Int)(hw:wf y161 a)(h:0<=l)(m:l<=9223372036854775807):u112 a l=some (szN (cnt y161 a) l):=by
 unfold u112;have e:cnt y161 a=a.1.size+(cnt (.sl (.int .i64)) a.2.2+0):=by
  first | rfl | (simp only[cnt_pr,cnt_int,cnt_bool,cnt_str] <;> omega)
 rw[e];refine sz_s hw.1 h m (fun h0=>?_);have M0:(l-(a.1.size:Int))<=9223372036854775807:=by omega
 refine sz_c (z114 _ _ hw.2.2 h0 M0) (fun v1 h1 m1=>?_) h0;have M1:=Int.le_trans m1 M0;exact sz_last h1
theorem z51(a:List Y161)(l:Int)(hw:wf (.sl y161) a)(h:0<=l)(m:l<=9223372036854775807):u51 a l=some (szN (cnt (.sl y161) a) l):=by
 unfold u51;rw[cnt_sl];refine sz_row (d:=dflt y161) (c:=cnt y161) hw.1 h m (fun g v i hi hv mv=>?_) (fun g v i hi=>sz_end hi);exact sz_el (z112 _ _ (wf_el hi hw) hv mv) hi hw.1
theorem z20(a:Y29)(l:Int)(hw:wf y29 a)(h:0<=l)(m:l<=9223372036854775807):u20 a l=some (szN (cnt y29 a) l):=by
 unfold u20;have e:cnt y29 a=cnt (.sl y161) a.1+(cnt (.sl .str) a.2.1+(cnt (.sl y164) a.2.2+0)):=by
  first | rfl | (simp only[cnt_pr,cnt_int,cnt_bool,cnt_str] <;> omega)
 rw[e];refine sz_c (z51 _ _ hw.1 h m) (fun v0 h0 m0=>?_) h;have M0:=Int.le_trans m0 m;refine sz_c (z52 _ _ hw.2.1 h0 M0) (fun v1 h1 m1=>?_) h0;have M1:=Int.le_trans m1 M0;refine sz_c (z53 _ _ hw.2.2 h1 M1) (fun v2 h2 m2=>?_) h1;have M2:=Int.le_trans m2 M1;exact sz_last h2
theorem z285(a:Y331)(l:Int)(hw:wf y331 a)(h:0<=l)(m:l<=9223372036854775807):u285 a l=some (szN (cnt y331 a) l):=by
 unfold u285;have e:cnt y331 a=cnt (.sl (.int .i64)) a.1+(cnt (.sl (.int .i64)) a.2.1+(cnt (.sl (.int .i64)) a.2.2+0)):=by
  first | rfl | (simp only[cnt_pr,cnt_int,cnt_bool,cnt_str] <;> omega)
 rw[e];refine sz_c (z114 _ _ hw.1 h m) (fun v0 h0 m0=>?_) h;have M0:=Int.le_trans m0 m;refine sz_c (z114 _ _ hw.2.1 h0 M0) (fun v1 h1 m1=>?_) h0;have M1:=Int.le_trans m1 M0;refine sz_c (z114 _ _ hw.2.2 h1 M1) (fun v2 h2 m2=>?_) h1;have M2:=Int.le_trans m2 M1;exact sz_last h2
theorem z255(a:List Y331)(l:Int)(hw:wf (.sl y331) a)(h:0<=l)(m:l<=9223372036854775807):u255 a l=some (szN (cnt (.sl y331) a) l):=by
 unfold u255;rw[cnt_sl];refine sz_row (d:=dflt y331) (c:=cnt y331) hw.1 h m (fun g v i hi hv mv=>?_) (fun g v i hi=>sz_end hi);exact sz_el (z285 _ _ (wf_el hi hw) hv mv) hi hw.1
theorem z210(a:Y257)(l:Int)(hw:wf y257 a)(h:0<=l)(m:l<=9223372036854775807):u210 a l=some (szN (cnt y257 a) l):=by
 unfold u210;have e:cnt y257 a=cnt (.sl y331) a.2.2.2.2.1+(cnt (.sl y331) a.2.2.2.2.2+0):=by
  first | rfl | (simp only[cnt_pr,cnt_int,cnt_bool,cnt_str] <;> omega)
 rw[e];refine sz_c (z255 _ _ hw.2.2.2.2.1 h m) (fun v0 h0 m0=>?_) h;have M0:=Int.le_trans m0 m;refine sz_c (z255 _ _ hw.2.2.2.2.2 h0 M0) (fun v1 h1 m1=>?_) h0;have M1:=Int.le_trans m1 M0;exact sz_last h1
theorem z171(a:List Y257)(l:Int)(hw:wf (.sl y257) a)(h:0<=l)(m:l<=9223372036854775807):u171 a l=some (szN (cnt (.sl y257) a) l):=by
 unfold u171;rw[cnt_sl];refine sz_row (d:=dflt y257) (c:=cnt y257) hw.1 h m (fun g v i hi hv mv=>?_) (fun g v i hi=>sz_end hi);exact sz_el (z210 _ _ (wf_el hi hw) hv mv) hi hw.1
theorem z209(a:Y253)(l:Int)(hw:wf y253 a)(h:0<=l)(m:l<=9223372036854775807):u209 a l=some (szN (cnt y253 a) l):=by
 unfold u209;have e:cnt y253 a=a.1.size+0:=by
  first | rfl | (simp only[cnt_pr,cnt_int,cnt_bool,cnt_str] <;> omega)
 rw[e];refine sz_s hw.1 h m (fun h0=>?_);have M0:(l-(a.1.size:Int))<=9223372036854775807:=by omega
 exact sz_last h0
theorem z170(a:List Y253)(l:Int)(hw:wf (.sl y253) a)(h:0<=l)(m:l<=9223372036854775807):u170 a l=some (szN (cnt (.sl y253) a) l):=by
 unfold u170;rw[cnt_sl];refine sz_row (d:=dflt y253) (c:=cnt y253) hw.1 h m (fun g v i hi hv mv=>?_) (fun g v i hi=>sz_end hi);exact sz_el (z209 _ _ (wf_el hi hw) hv mv) hi hw.1
theorem z111(a:Y159)(l:Int)(hw:wf y159 a)(h:0<=l)(m:l<=9223372036854775807):u111 a l=some (szN (cnt y159 a) l):=by
 unfold u111;have e:cnt y159 a=a.1.size+(cnt (.sl y253) a.2.2.1+(cnt (.sl y257) a.2.2.2.1+(cnt (.sl (.int .i64)) a.2.2.2.2.1+0))):=by
  first | rfl | (simp only[cnt_pr,cnt_int,cnt_bool,cnt_str] <;> omega)
 rw[e];refine sz_s hw.1 h m (fun h0=>?_);have M0:(l-(a.1.size:Int))<=9223372036854775807:=by omega
 refine sz_c (z170 _ _ hw.2.2.1 h0 M0) (fun v1 h1 m1=>?_) h0;have M1:=Int.le_trans m1 M0;refine sz_c (z171 _ _ hw.2.2.2.1 h1 M1) (fun v2 h2 m2=>?_) h1;have M2:=Int.le_trans m2 M1;refine sz_c (z114 _ _ hw.2.2.2.2.1 h2 M2) (fun v3 h3 m3=>?_) h2;have M3:=Int.le_trans m3 M2;exact sz_last h3
theorem z50(a:List Y159)(l:Int)(hw:wf (.sl y159) a)(h:0<=l)(m:l<=9223372036854775807):u50 a l=some (szN (cnt (.sl y159) a) l):=by
 unfold u50;rw[cnt_sl];refine sz_row (d:=dflt y159) (c:=cnt y159) hw.1 h m (fun g v i hi hv mv=>?_) (fun g v i hi=>sz_end hi);exact sz_el (z111 _ _ (wf_el hi hw) hv mv) hi hw.1
theorem z19(a:List Y159)(l:Int)(hw:wf (.sl y159) a)(h:0<=l)(m:l<=9223372036854775807):u19 a l=some (szN (cnt (.sl y159) a) l):=by
 unfold u19;have e:cnt (.sl y159) a=cnt (.sl y159) a+0:=by
  first | rfl | (simp only[cnt_pr,cnt_int,cnt_bool,cnt_str] <;> omega)
 rw[e];refine sz_c (z50 _ _ hw h m) (fun v0 h0 m0=>?_) h;have M0:=Int.le_trans m0 m;exact sz_last h0
theorem z5(a:Y32)(l:Int)(hw:wf y32 a)(h:0<=l)(m:l<=9223372036854775807):u5 a l=some (szN (cnt y32 a) l):=by
 unfold u5;have e:cnt y32 a=cnt (.sl y159) a.1+(cnt y29 a.2.1+(cnt (.sl y94) a.2.2+0)):=by
  first | rfl | (simp only[cnt_pr,cnt_int,cnt_bool,cnt_str] <;> omega)
 rw[e];refine sz_c (z19 _ _ hw.1 h m) (fun v0 h0 m0=>?_) h;have M0:=Int.le_trans m0 m;refine sz_c (z20 _ _ hw.2.1 h0 M0) (fun v1 h1 m1=>?_) h0;have M1:=Int.le_trans m1 M0;refine sz_c (z21 _ _ hw.2.2 h1 M1) (fun v2 h2 m2=>?_) h1;have M2:=Int.le_trans m2 M1;exact sz_last h2
theorem w123(a:List Int)(h:cnt (.sl (.int .i64)) a<=1048576):u123 a=some a:=by
 unfold u123;have hl:a.length<=9223372036854775807:=Nat.le_trans (cnt_len h) (by decide);exact to_row (d:=dflt (.int .i64)) (cnt_len h) (by decide) (fun g i ys hi hy=>to_es hi hl hy) (fun g i ys hi=>to_end hi)
theorem w73(a:Y94)(h:cnt y94 a<=1048576):u73 a=some a:=by
 unfold u73;refine to_c (w123 _ (cF h)) ?_;refine to_c (w123 _ (cF (cS h))) ?_;refine to_c (w123 _ (cF (cS (cS h)))) ?_;refine to_c (w123 _ (cS (cS (cS h)))) ?_;rfl
theorem w28(a:List Y94)(h:cnt (.sl y94) a<=1048576):u28 a=some a:=by
 unfold u28;have hl:a.length<=9223372036854775807:=Nat.le_trans (cnt_len h) (by decide);exact to_row (d:=dflt y94) (cnt_len h) (by decide) (fun g i ys hi hy=>to_el (w73 _ (cnt_el hi h)) hi hl hy) (fun g i ys hi=>to_end hi)
theorem w122(a:Y164)(h:cnt y164 a<=1048576):u122 a=some a:=by
 unfold u122;rfl
theorem w72(a:List Y164)(h:cnt (.sl y164) a<=1048576):u72 a=some a:=by
 unfold u72;have hl:a.length<=9223372036854775807:=Nat.le_trans (cnt_len h) (by decide);rw[lE];exact to_row (d:=dflt y164) (cnt_len h) (by decide) (fun g i ys hi hy=>to_el (w122 _ (cnt_el hi h)) hi hl hy) (fun g i ys hi=>to_end hi)
theorem w71(a:List ByteArray)(h:cnt (.sl .str) a<=1048576):u71 a=some a:=by
 unfold u71;have hl:a.length<=9223372036854775807:=Nat.le_trans (cnt_len h) (by decide);exact to_row (d:=dflt .str) (cnt_len h) (by decide) (fun g i ys hi hy=>to_es hi hl hy) (fun g i ys hi=>to_end hi)
theorem w121(a:Y161)(h:cnt y161 a<=1048576):u121 a=some a:=by
 unfold u121;refine to_c (w123 _ (cS (cS h))) ?_;rfl
theorem w70(a:List Y161)(h:cnt (.sl y161) a<=1048576):u70 a=some a:=by
 unfold u70;have hl:a.length<=9223372036854775807:=Nat.le_trans (cnt_len h) (by decide);rw[lE];exact to_row (d:=dflt y161) (cnt_len h) (by decide) (fun g i ys hi hy=>to_el (w121 _ (cnt_el hi h)) hi hl hy) (fun g i ys hi=>to_end hi)
theorem w27(a:Y29)(h:cnt y29 a<=1048576):u27 a=some a:=by
 unfold u27;refine to_c (w70 _ (cF h)) ?_;refine to_c (w71 _ (cF (cS h))) ?_;refine to_c (w72 _ (cS (cS h))) ?_;rfl
theorem w287(a:Y331)(h:cnt y331 a<=1048576):u287 a=some a:=by
 unfold u287;refine to_c (w123 _ (cF h)) ?_;refine to_c (w123 _ (cF (cS h))) ?_;refine to_c (w123 _ (cS (cS h))) ?_;rfl
theorem w257(a:List Y331)(h:cnt (.sl y331) a<=1048576):u257 a=some a:=by
 unfold u257;have hl:a.length<=9223372036854775807:=Nat.le_trans (cnt_len h) (by decide);exact to_row (d:=dflt y331) (cnt_len h) (by decide) (fun g i ys hi hy=>to_el (w287 _ (cnt_el hi h)) hi hl hy) (fun g i ys hi=>to_end hi)
theorem w215(a:Y257)(h:cnt y257 a<=1048576):u215 a=some a:=by
 unfold u215;refine to_c (w257 _ (cF (cS (cS (cS (cS h)))))) ?_;refine to_c (w257 _ (cS (cS (cS (cS (cS h)))))) ?_;rfl
theorem w174(a:List Y257)(h:cnt (.sl y257) a<=1048576):u174 a=some a:=by
 unfold u174;have hl:a.length<=9223372036854775807:=Nat.le_trans (cnt_len h) (by decide);rw[lE];exact to_row (d:=dflt y257) (cnt_len h) (by decide) (fun g i ys hi hy=>to_el (w215 _ (cnt_el hi h)) hi hl hy) (fun g i ys hi=>to_end hi)
theorem w214(a:Y253)(h:cnt y253 a<=1048576):u214 a=some a:=by
 unfold u214;rfl
theorem w173(a:List Y253)(h:cnt (.sl y253) a<=1048576):u173 a=some a:=by
 unfold u173;have hl:a.length<=9223372036854775807:=Nat.le_trans (cnt_len h) (by decide);rw[lE];exact to_row (d:=dflt y253) (cnt_len h) (by decide) (fun g i ys hi hy=>to_el (w214 _ (cnt_el hi h)) hi hl hy) (fun g i ys hi=>to_end hi)
theorem w120(a:Y159)(h:cnt y159 a<=1048576):u120 a=some a:=by
 unfold u120;refine to_c (w173 _ (cF (cS (cS h)))) ?_;refine to_c (w174 _ (cF (cS (cS (cS h))))) ?_;refine to_c (w123 _ (cF (cS (cS (cS (cS h)))))) ?_;rfl
theorem w69(a:List Y159)(h:cnt (.sl y159) a<=1048576):u69 a=some a:=by
 unfold u69;have hl:a.length<=9223372036854775807:=Nat.le_trans (cnt_len h) (by decide);rw[lE];exact to_row (d:=dflt y159) (cnt_len h) (by decide) (fun g i ys hi hy=>to_el (w120 _ (cnt_el hi h)) hi hl hy) (fun g i ys hi=>to_end hi)
theorem w26(a:List Y159)(h:cnt (.sl y159) a<=1048576):u26 a=some a:=by
 unfold u26;refine to_c (w69 _ h) ?_;rfl
theorem w7(a:Y32)(h:cnt y32 a<=1048576):u7 a=some a:=by
 unfold u7;refine to_c (w26 _ (cF h)) ?_;refine to_c (w27 _ (cF (cS h))) ?_;refine to_c (w28 _ (cS (cS h))) ?_;rfl
theorem e90(a:List Int)(h:cnt (.sl (.int .i64)) a<=1048576):u90 a a=some true:=by
 unfold u90;have hl:a.length<=9223372036854775807:=Nat.le_trans (cnt_len h) (by decide);exact eq_row hl (fun g i hi=>eq_es (by simp) hi hl) (fun g i hi=>if_neg (by simp; omega))
theorem e34(a:Y36)(h:cnt y36 a<=1048576):u34 a a=some true:=by
 unfold u34;refine eq_c (e90 _ (cF h)) ?_;refine eq_c (e90 _ (cF (cS h))) ?_;refine eq_c (e90 _ (cF (cS (cS h)))) ?_;refine eq_c (e90 _ (cS (cS (cS h)))) ?_;rfl
theorem e9(a:Y38)(h:cnt y38 a<=1048576):u9 a a=some true:=by
 unfold u9
 first | refine eq_i ?_ | refine eq_b ?_
 first | refine eq_i ?_ | refine eq_b ?_
 first | refine eq_i ?_ | refine eq_b ?_
 first | refine eq_i ?_ | refine eq_b ?_
 first | refine eq_i ?_ | refine eq_b ?_
 refine eq_d rfl ?_;refine eq_c (e34 _ (cS (cS (cS (cS (cS (cS h))))))) ?_;rfl
theorem e37(a:List Y36)(h:cnt (.sl y36) a<=1048576):u37 a a=some true:=by
 unfold u37;have hl:a.length<=9223372036854775807:=Nat.le_trans (cnt_len h) (by decide);exact eq_row hl (fun g i hi=>eq_el (e34 _ (cnt_el hi h)) hi hl) (fun g i hi=>if_neg (by simp; omega))
theorem e157(a:Y166)(h:cnt y166 a<=1048576):u157 a a=some true:=by
 unfold u157;refine eq_d rfl ?_
 first | refine eq_i ?_ | refine eq_b ?_
 first | refine eq_i ?_ | refine eq_b ?_
 rfl
theorem e94(a:List Y166)(h:cnt (.sl y166) a<=1048576):u94 a a=some true:=by
 unfold u94;have hl:a.length<=9223372036854775807:=Nat.le_trans (cnt_len h) (by decide);exact eq_row hl (fun g i hi=>eq_el (e157 _ (cnt_el hi h)) hi hl) (fun g i hi=>if_neg (by simp; omega))
theorem e93(a:List ByteArray)(h:cnt (.sl .str) a<=1048576):u93 a a=some true:=by
 unfold u93;have hl:a.length<=9223372036854775807:=Nat.le_trans (cnt_len h) (by decide);exact eq_row hl (fun g i hi=>eq_es (by simp) hi hl) (fun g i hi=>if_neg (by simp; omega))
theorem e156(a:Y152)(h:cnt y152 a<=1048576):u156 a a=some true:=by
 unfold u156;refine eq_d rfl ?_
 first | refine eq_i ?_ | refine eq_b ?_
 refine eq_c (e90 _ (cS (cS h))) ?_;rfl
theorem e92(a:List Y152)(h:cnt (.sl y152) a<=1048576):u92 a a=some true:=by
 unfold u92;have hl:a.length<=9223372036854775807:=Nat.le_trans (cnt_len h) (by decide);exact eq_row hl (fun g i hi=>eq_el (e156 _ (cnt_el hi h)) hi hl) (fun g i hi=>if_neg (by simp; omega))
theorem e36(a:Y47)(h:cnt y47 a<=1048576):u36 a a=some true:=by
 unfold u36;refine eq_c (e92 _ (cF h)) ?_;refine eq_c (e93 _ (cF (cS h))) ?_;refine eq_c (e94 _ (cS (cS h))) ?_;rfl
theorem e299(a:Y291)(h:cnt y291 a<=1048576):u299 a a=some true:=by
 unfold u299;refine eq_c (e90 _ (cF h)) ?_;refine eq_c (e90 _ (cF (cS h))) ?_;refine eq_c (e90 _ (cS (cS h))) ?_;rfl
theorem e281(a:List Y291)(h:cnt (.sl y291) a<=1048576):u281 a a=some true:=by
 unfold u281;have hl:a.length<=9223372036854775807:=Nat.le_trans (cnt_len h) (by decide);exact eq_row hl (fun g i hi=>eq_el (e299 _ (cnt_el hi h)) hi hl) (fun g i hi=>if_neg (by simp; omega))
theorem e246(a:Y243)(h:cnt y243 a<=1048576):u246 a a=some true:=by
 unfold u246
 first | refine eq_i ?_ | refine eq_b ?_
 first | refine eq_i ?_ | refine eq_b ?_
 first | refine eq_i ?_ | refine eq_b ?_
 first | refine eq_i ?_ | refine eq_b ?_
 refine eq_c (e281 _ (cF (cS (cS (cS (cS h)))))) ?_;refine eq_c (e281 _ (cS (cS (cS (cS (cS h)))))) ?_;rfl
theorem e200(a:List Y243)(h:cnt (.sl y243) a<=1048576):u200 a a=some true:=by
 unfold u200;have hl:a.length<=9223372036854775807:=Nat.le_trans (cnt_len h) (by decide);exact eq_row hl (fun g i hi=>eq_el (e246 _ (cnt_el hi h)) hi hl) (fun g i hi=>if_neg (by simp; omega))
theorem e245(a:Y170)(h:cnt y170 a<=1048576):u245 a a=some true:=by
 unfold u245;refine eq_d rfl ?_
 first | refine eq_i ?_ | refine eq_b ?_
 first | refine eq_i ?_ | refine eq_b ?_
 refine eq_b' ?_;rfl
theorem e199(a:List Y170)(h:cnt (.sl y170) a<=1048576):u199 a a=some true:=by
 unfold u199;have hl:a.length<=9223372036854775807:=Nat.le_trans (cnt_len h) (by decide);exact eq_row hl (fun g i hi=>eq_el (e245 _ (cnt_el hi h)) hi hl) (fun g i hi=>if_neg (by simp; omega))
theorem e155(a:Y115)(h:cnt y115 a<=1048576):u155 a a=some true:=by
 unfold u155;refine eq_d rfl ?_
 first | refine eq_i ?_ | refine eq_b ?_
 refine eq_c (e199 _ (cF (cS (cS h)))) ?_;refine eq_c (e200 _ (cF (cS (cS (cS h))))) ?_;refine eq_c (e90 _ (cF (cS (cS (cS (cS h)))))) ?_
 first | refine eq_i ?_ | refine eq_b ?_
 first | refine eq_i ?_ | refine eq_b ?_
 rfl
theorem e91(a:List Y115)(h:cnt (.sl y115) a<=1048576):u91 a a=some true:=by
 unfold u91;have hl:a.length<=9223372036854775807:=Nat.le_trans (cnt_len h) (by decide);exact eq_row hl (fun g i hi=>eq_el (e155 _ (cnt_el hi h)) hi hl) (fun g i hi=>if_neg (by simp; omega))
theorem e35(a:List Y115)(h:cnt (.sl y115) a<=1048576):u35 a a=some true:=by
 unfold u35;refine eq_c (e91 _ h) ?_;rfl
theorem e10(a:Y50)(h:cnt y50 a<=1048576):u10 a a=some true:=by
 unfold u10;refine eq_c (e35 _ (cF h)) ?_;refine eq_c (e36 _ (cF (cS h))) ?_;refine eq_c (e37 _ (cS (cS h))) ?_;rfl
end Go.Proofs.YtfggbbnnalflhaaGreatDoor
end

/- Laws of sizes, copies and comparisons: printed by program. -/
import Derived.Test.YtekfdfcnjlfgiaaGreatDoorFA4b
import Derived.Test.YtekfdfcnjlfgiaaGreatDoorXF
section
namespace Go.Proofs.YtekfdfcnjlfgiaaGreatDoor
open Go Go.Proofs Go.Proofs.Xv Go.Proofs.Xl Go.Proofs.Xd
theorem e70(a:List Int)(h:cnt (.sl (.int .i64)) a<=1048576):u70 a a=some true:=by
 unfold u70;have hl:a.length<=9223372036854775807:=Nat.le_trans (cnt_len h) (by decide);exact eq_row hl (fun g i hi=>eq_es (by simp) hi hl) (fun g i hi=>if_neg (by simp; omega))
theorem e38(a:Y55)(h:cnt y55 a<=1048576):u38 a a=some true:=by
 unfold u38;refine eq_c (e70 _ (cF h)) ?_;refine eq_c (e70 _ (cF (cS h))) ?_;refine eq_c (e70 _ (cF (cS (cS h)))) ?_;refine eq_c (e70 _ (cS (cS (cS h)))) ?_;rfl
theorem e27(a:List Y55)(h:cnt (.sl y55) a<=1048576):u27 a a=some true:=by
 unfold u27;have hl:a.length<=9223372036854775807:=Nat.le_trans (cnt_len h) (by decide);exact eq_row hl (fun g i hi=>eq_el (e38 _ (cnt_el hi h)) hi hl) (fun g i hi=>if_neg (by simp; omega))
theorem e97(a:Y114)(h:cnt y114 a<=1048576):u97 a a=some true:=by
 unfold u97;refine eq_d rfl ?_
 first | refine eq_i ?_ | refine eq_b ?_
 first | refine eq_i ?_ | refine eq_b ?_
 rfl
theorem e59(a:List Y114)(h:cnt (.sl y114) a<=1048576):u59 a a=some true:=by
 unfold u59;have hl:a.length<=9223372036854775807:=Nat.le_trans (cnt_len h) (by decide);exact eq_row hl (fun g i hi=>eq_el (e97 _ (cnt_el hi h)) hi hl) (fun g i hi=>if_neg (by simp; omega))
theorem e58(a:List ByteArray)(h:cnt (.sl .str) a<=1048576):u58 a a=some true:=by
 unfold u58;have hl:a.length<=9223372036854775807:=Nat.le_trans (cnt_len h) (by decide);exact eq_row hl (fun g i hi=>eq_es (by simp) hi hl) (fun g i hi=>if_neg (by simp; omega))
theorem e96(a:Y112)(h:cnt y112 a<=1048576):u96 a a=some true:=by
 unfold u96;refine eq_d rfl ?_
 first | refine eq_i ?_ | refine eq_b ?_
 refine eq_c (e70 _ (cS (cS h))) ?_;rfl
theorem e57(a:List Y112)(h:cnt (.sl y112) a<=1048576):u57 a a=some true:=by
 unfold u57;have hl:a.length<=9223372036854775807:=Nat.le_trans (cnt_len h) (by decide);exact eq_row hl (fun g i hi=>eq_el (e96 _ (cnt_el hi h)) hi hl) (fun g i hi=>if_neg (by simp; omega))
theorem e26(a:Y41)(h:cnt y41 a<=1048576):u26 a a=some true:=by
 unfold u26;refine eq_c (e57 _ (cF h)) ?_;refine eq_c (e58 _ (cF (cS h))) ?_;refine eq_c (e59 _ (cS (cS h))) ?_;rfl
theorem e200(a:Y247)(h:cnt y247 a<=1048576):u200 a a=some true:=by
 unfold u200;refine eq_c (e70 _ (cF h)) ?_;refine eq_c (e70 _ (cF (cS h))) ?_;refine eq_c (e70 _ (cS (cS h))) ?_;rfl
theorem e176(a:List Y247)(h:cnt (.sl y247) a<=1048576):u176 a a=some true:=by
 unfold u176;have hl:a.length<=9223372036854775807:=Nat.le_trans (cnt_len h) (by decide);exact eq_row hl (fun g i hi=>eq_el (e200 _ (cnt_el hi h)) hi hl) (fun g i hi=>if_neg (by simp; omega))
theorem e152(a:Y191)(h:cnt y191 a<=1048576):u152 a a=some true:=by
 unfold u152
 first | refine eq_i ?_ | refine eq_b ?_
 first | refine eq_i ?_ | refine eq_b ?_
 first | refine eq_i ?_ | refine eq_b ?_
 first | refine eq_i ?_ | refine eq_b ?_
 refine eq_c (e176 _ (cF (cS (cS (cS (cS h)))))) ?_;refine eq_c (e176 _ (cS (cS (cS (cS (cS h)))))) ?_;rfl
theorem e124(a:List Y191)(h:cnt (.sl y191) a<=1048576):u124 a a=some true:=by
 unfold u124;have hl:a.length<=9223372036854775807:=Nat.le_trans (cnt_len h) (by decide);exact eq_row hl (fun g i hi=>eq_el (e152 _ (cnt_el hi h)) hi hl) (fun g i hi=>if_neg (by simp; omega))
theorem e151(a:Y116)(h:cnt y116 a<=1048576):u151 a a=some true:=by
 unfold u151;refine eq_d rfl ?_
 first | refine eq_i ?_ | refine eq_b ?_
 first | refine eq_i ?_ | refine eq_b ?_
 refine eq_b' ?_;rfl
theorem e123(a:List Y116)(h:cnt (.sl y116) a<=1048576):u123 a a=some true:=by
 unfold u123;have hl:a.length<=9223372036854775807:=Nat.le_trans (cnt_len h) (by decide);exact eq_row hl (fun g i hi=>eq_el (e151 _ (cnt_el hi h)) hi hl) (fun g i hi=>if_neg (by simp; omega))
theorem e95(a:Y82)(h:cnt y82 a<=1048576):u95 a a=some true:=by
 unfold u95;refine eq_d rfl ?_
 first | refine eq_i ?_ | refine eq_b ?_
 refine eq_c (e123 _ (cF (cS (cS h)))) ?_;refine eq_c (e124 _ (cF (cS (cS (cS h))))) ?_;refine eq_c (e70 _ (cF (cS (cS (cS (cS h)))))) ?_
 first | refine eq_i ?_ | refine eq_b ?_
 first | refine eq_i ?_ | refine eq_b ?_
 rfl
theorem e56(a:List Y82)(h:cnt (.sl y82) a<=1048576):u56 a a=some true:=by
 unfold u56;have hl:a.length<=9223372036854775807:=Nat.le_trans (cnt_len h) (by decide);exact eq_row hl (fun g i hi=>eq_el (e95 _ (cnt_el hi h)) hi hl) (fun g i hi=>if_neg (by simp; omega))
theorem e25(a:List Y82)(h:cnt (.sl y82) a<=1048576):u25 a a=some true:=by
 unfold u25;refine eq_c (e56 _ h) ?_;rfl
theorem e9(a:Y44)(h:cnt y44 a<=1048576):u9 a a=some true:=by
 unfold u9;refine eq_c (e25 _ (cF h)) ?_;refine eq_c (e26 _ (cF (cS h))) ?_;refine eq_c (e27 _ (cS (cS h))) ?_;rfl
theorem w65(a:List Int)(h:cnt (.sl (.int .i64)) a<=1048576):u65 a=some a:=by
 unfold u65;have hl:a.length<=9223372036854775807:=Nat.le_trans (cnt_len h) (by decide);exact to_row (d:=dflt (.int .i64)) (cnt_len h) (by decide) (fun g i ys hi hy=>to_es hi hl hy) (fun g i ys hi=>to_end hi)
theorem w35(a:Y50)(h:cnt y50 a<=1048576):u35 a=some a:=by
 unfold u35;refine to_c (w65 _ (cF h)) ?_;refine to_c (w65 _ (cF (cS h))) ?_;refine to_c (w65 _ (cF (cS (cS h)))) ?_;refine to_c (w65 _ (cS (cS (cS h)))) ?_;rfl
theorem w22(a:List Y50)(h:cnt (.sl y50) a<=1048576):u22 a=some a:=by
 unfold u22;have hl:a.length<=9223372036854775807:=Nat.le_trans (cnt_len h) (by decide);exact to_row (d:=dflt y50) (cnt_len h) (by decide) (fun g i ys hi hy=>to_el (w35 _ (cnt_el hi h)) hi hl hy) (fun g i ys hi=>to_end hi)
theorem w81(a:Y132)(h:cnt y132 a<=1048576):u81 a=some a:=by
 unfold u81;rfl
theorem w50(a:List Y132)(h:cnt (.sl y132) a<=1048576):u50 a=some a:=by
 unfold u50;have hl:a.length<=9223372036854775807:=Nat.le_trans (cnt_len h) (by decide);rw[lE];exact to_row (d:=dflt y132) (cnt_len h) (by decide) (fun g i ys hi hy=>to_el (w81 _ (cnt_el hi h)) hi hl hy) (fun g i ys hi=>to_end hi)
theorem w49(a:List ByteArray)(h:cnt (.sl .str) a<=1048576):u49 a=some a:=by
 unfold u49;have hl:a.length<=9223372036854775807:=Nat.le_trans (cnt_len h) (by decide);exact to_row (d:=dflt .str) (cnt_len h) (by decide) (fun g i ys hi hy=>to_es hi hl hy) (fun g i ys hi=>to_end hi)
theorem w80(a:Y130)(h:cnt y130 a<=1048576):u80 a=some a:=by
 unfold u80;refine to_c (w65 _ (cS (cS h))) ?_;rfl
theorem w48(a:List Y130)(h:cnt (.sl y130) a<=1048576):u48 a=some a:=by
 unfold u48;have hl:a.length<=9223372036854775807:=Nat.le_trans (cnt_len h) (by decide);rw[lE];exact to_row (d:=dflt y130) (cnt_len h) (by decide) (fun g i ys hi hy=>to_el (w80 _ (cnt_el hi h)) hi hl hy) (fun g i ys hi=>to_end hi)
theorem w21(a:Y29)(h:cnt y29 a<=1048576):u21 a=some a:=by
 unfold u21;refine to_c (w48 _ (cF h)) ?_;refine to_c (w49 _ (cF (cS h))) ?_;refine to_c (w50 _ (cS (cS h))) ?_;rfl
theorem w193(a:Y242)(h:cnt y242 a<=1048576):u193 a=some a:=by
 unfold u193;refine to_c (w65 _ (cF h)) ?_;refine to_c (w65 _ (cF (cS h))) ?_;refine to_c (w65 _ (cS (cS h))) ?_;rfl
theorem w167(a:List Y242)(h:cnt (.sl y242) a<=1048576):u167 a=some a:=by
 unfold u167;have hl:a.length<=9223372036854775807:=Nat.le_trans (cnt_len h) (by decide);exact to_row (d:=dflt y242) (cnt_len h) (by decide) (fun g i ys hi hy=>to_el (w193 _ (cnt_el hi h)) hi hl hy) (fun g i ys hi=>to_end hi)
theorem w143(a:Y186)(h:cnt y186 a<=1048576):u143 a=some a:=by
 unfold u143;refine to_c (w167 _ (cF (cS (cS (cS (cS h)))))) ?_;refine to_c (w167 _ (cS (cS (cS (cS (cS h)))))) ?_;rfl
theorem w111(a:List Y186)(h:cnt (.sl y186) a<=1048576):u111 a=some a:=by
 unfold u111;have hl:a.length<=9223372036854775807:=Nat.le_trans (cnt_len h) (by decide);rw[lE];exact to_row (d:=dflt y186) (cnt_len h) (by decide) (fun g i ys hi hy=>to_el (w143 _ (cnt_el hi h)) hi hl hy) (fun g i ys hi=>to_end hi)
theorem w142(a:Y182)(h:cnt y182 a<=1048576):u142 a=some a:=by
 unfold u142;rfl
theorem w110(a:List Y182)(h:cnt (.sl y182) a<=1048576):u110 a=some a:=by
 unfold u110;have hl:a.length<=9223372036854775807:=Nat.le_trans (cnt_len h) (by decide);rw[lE];exact to_row (d:=dflt y182) (cnt_len h) (by decide) (fun g i ys hi hy=>to_el (w142 _ (cnt_el hi h)) hi hl hy) (fun g i ys hi=>to_end hi)
theorem w79(a:Y128)(h:cnt y128 a<=1048576):u79 a=some a:=by
 unfold u79;refine to_c (w110 _ (cF (cS (cS h)))) ?_;refine to_c (w111 _ (cF (cS (cS (cS h))))) ?_;refine to_c (w65 _ (cF (cS (cS (cS (cS h)))))) ?_;rfl
theorem w47(a:List Y128)(h:cnt (.sl y128) a<=1048576):u47 a=some a:=by
 unfold u47;have hl:a.length<=9223372036854775807:=Nat.le_trans (cnt_len h) (by decide);rw[lE];exact to_row (d:=dflt y128) (cnt_len h) (by decide) (fun g i ys hi hy=>to_el (w79 _ (cnt_el hi h)) hi hl hy) (fun g i ys hi=>to_end hi)
theorem w20(a:List Y128)(h:cnt (.sl y128) a<=1048576):u20 a=some a:=by
 unfold u20;refine to_c (w47 _ h) ?_;rfl
theorem w7(a:Y32)(h:cnt y32 a<=1048576):u7 a=some a:=by
 unfold u7;refine to_c (w20 _ (cF h)) ?_;refine to_c (w21 _ (cF (cS h))) ?_;refine to_c (w22 _ (cS (cS h))) ?_;rfl
theorem z60(a:List Int)(l:Int)(hw:wf (.sl (.int .i64)) a)(h:0<=l)(m:l<=9223372036854775807):u60 a l=some (szN (cnt (.sl (.int .i64)) a) l):=by
 unfold u60;have e:cnt (.sl (.int .i64)) a=a.length+0:=cnt_ints;rw[e];exact sz_s hw.1 h m fun H=>sz_last H
theorem z28(a:Y50)(l:Int)(hw:wf y50 a)(h:0<=l)(m:l<=9223372036854775807):u28 a l=some (szN (cnt y50 a) l):=by
 unfold u28;have e:cnt y50 a=cnt (.sl (.int .i64)) a.1+(cnt (.sl (.int .i64)) a.2.1+(cnt (.sl (.int .i64)) a.2.2.1+(cnt (.sl (.int .i64)) a.2.2.2+0))):=by
  first | rfl | (simp only[cnt_pr,cnt_int,cnt_bool,cnt_str] <;> omega)
 rw[e];refine sz_c (z60 _ _ hw.1 h m) (fun v0 h0 m0=>?_) h;have M0:=Int.le_trans m0 m;refine sz_c (z60 _ _ hw.2.1 h0 M0) (fun v1 h1 m1=>?_) h0;have M1:=Int.le_trans m1 M0;refine sz_c (z60 _ _ hw.2.2.1 h1 M1) (fun v2 h2 m2=>?_) h1;have M2:=Int.le_trans m2 M1;refine sz_c (z60 _ _ hw.2.2.2 h2 M2) (fun v3 h3 m3=>?_) h2;have M3:=Int.le_trans m3 M2;exact sz_last h3
theorem z17(a:List Y50)(l:Int)(hw:wf (.sl y50) a)(h:0<=l)(m:l<=9223372036854775807):u17 a l=some (szN (cnt (.sl y50) a) l):=by
 unfold u17;rw[cnt_sl];refine sz_row (d:=dflt y50) (c:=cnt y50) hw.1 h m (fun g v i hi hv mv=>?_) (fun g v i hi=>sz_end hi);exact sz_el (z28 _ _ (wf_el hi hw) hv mv) hi hw.1
theorem z73(a:Y132)(l:Int)(hw:wf y132 a)(h:0<=l)(m:l<=9223372036854775807):u73 a l=some (szN (cnt y132 a) l):=by
 unfold u73;have e:cnt y132 a=a.1.size+0:=by
  first | rfl | (simp only[cnt_pr,cnt_int,cnt_bool,cnt_str] <;> omega)
 rw[e];refine sz_s hw.1 h m (fun h0=>?_);have M0:(l-(a.1.size:Int))<=9223372036854775807:=by omega
 exact sz_last h0
theorem z42(a:List Y132)(l:Int)(hw:wf (.sl y132) a)(h:0<=l)(m:l<=9223372036854775807):u42 a l=some (szN (cnt (.sl y132) a) l):=by
 unfold u42;rw[cnt_sl];refine sz_row (d:=dflt y132) (c:=cnt y132) hw.1 h m (fun g v i hi hv mv=>?_) (fun g v i hi=>sz_end hi);exact sz_el (z73 _ _ (wf_el hi hw) hv mv) hi hw.1
theorem z41(a:List ByteArray)(l:Int)(hw:wf (.sl .str) a)(h:0<=l)(m:l<=9223372036854775807):u41 a l=some (szN (cnt (.sl .str) a) l):=by
 unfold u41;rw[cnt_sl];refine sz_row (d:=dflt .str) (c:=cnt .str) hw.1 h m (fun g v i hi hv mv=>?_) (fun g v i hi=>sz_end hi);have hs:=wf_el (d:=dflt .str) hi hw;rw[cnt_str];exact sz_es hi hw.1 hs hv mv
theorem z72(a:Y130)(l:Int)(hw:wf y130 a)(h:0<=l)(m:l<=9223372036854775807):u72 a l=some (szN (cnt y130 a) l):=by
 unfold u72;have e:cnt y130 a=a.1.size+(cnt (.sl (.int .i64)) a.2.2+0):=by
  first | rfl | (simp only[cnt_pr,cnt_int,cnt_bool,cnt_str] <;> omega)
 rw[e];refine sz_s hw.1 h m (fun h0=>?_);have M0:(l-(a.1.size:Int))<=9223372036854775807:=by omega
 refine sz_c (z60 _ _ hw.2.2 h0 M0) (fun v1 h1 m1=>?_) h0;have M1:=Int.le_trans m1 M0;exact sz_last h1
theorem z40(a:List Y130)(l:Int)(hw:wf (.sl y130) a)(h:0<=l)(m:l<=9223372036854775807):u40 a l=some (szN (cnt (.sl y130) a) l):=by
 unfold u40;rw[cnt_sl];refine sz_row (d:=dflt y130) (c:=cnt y130) hw.1 h m (fun g v i hi hv mv=>?_) (fun g v i hi=>sz_end hi);exact sz_el (z72 _ _ (wf_el hi hw) hv mv) hi hw.1
theorem z16(a:Y29)(l:Int)(hw:wf y29 a)(h:0<=l)(m:l<=9223372036854775807):u16 a l=some (szN (cnt y29 a) l):=by
 unfold u16;have e:cnt y29 a=cnt (.sl y130) a.1+(cnt (.sl .str) a.2.1+(cnt (.sl y132) a.2.2+0)):=by
  first | rfl | (simp only[cnt_pr,cnt_int,cnt_bool,cnt_str] <;> omega)
 rw[e];refine sz_c (z40 _ _ hw.1 h m) (fun v0 h0 m0=>?_) h;have M0:=Int.le_trans m0 m;refine sz_c (z41 _ _ hw.2.1 h0 M0) (fun v1 h1 m1=>?_) h0;have M1:=Int.le_trans m1 M0;refine sz_c (z42 _ _ hw.2.2 h1 M1) (fun v2 h2 m2=>?_) h1;have M2:=Int.le_trans m2 M1;exact sz_last h2
theorem z191(a:Y242)(l:Int)(hw:wf y242 a)(h:0<=l)(m:l<=9223372036854775807):u191 a l=some (szN (cnt y242 a) l):=by
 unfold u191;have e:cnt y242 a=cnt (.sl (.int .i64)) a.1+(cnt (.sl (.int .i64)) a.2.1+(cnt (.sl (.int .i64)) a.2.2+0)):=by
  first | rfl | (simp only[cnt_pr,cnt_int,cnt_bool,cnt_str] <;> omega)
 rw[e];refine sz_c (z60 _ _ hw.1 h m) (fun v0 h0 m0=>?_) h;have M0:=Int.le_trans m0 m;refine sz_c (z60 _ _ hw.2.1 h0 M0) (fun v1 h1 m1=>?_) h0;have M1:=Int.le_trans m1 M0;refine sz_c (z60 _ _ hw.2.2 h1 M1) (fun v2 h2 m2=>?_) h1;have M2:=Int.le_trans m2 M1;exact sz_last h2
theorem z165(a:List Y242)(l:Int)(hw:wf (.sl y242) a)(h:0<=l)(m:l<=9223372036854775807):u165 a l=some (szN (cnt (.sl y242) a) l):=by
 unfold u165;rw[cnt_sl];refine sz_row (d:=dflt y242) (c:=cnt y242) hw.1 h m (fun g v i hi hv mv=>?_) (fun g v i hi=>sz_end hi);exact sz_el (z191 _ _ (wf_el hi hw) hv mv) hi hw.1
theorem z138(a:Y186)(l:Int)(hw:wf y186 a)(h:0<=l)(m:l<=9223372036854775807):u138 a l=some (szN (cnt y186 a) l):=by
 unfold u138;have e:cnt y186 a=cnt (.sl y242) a.2.2.2.2.1+(cnt (.sl y242) a.2.2.2.2.2+0):=by
  first | rfl | (simp only[cnt_pr,cnt_int,cnt_bool,cnt_str] <;> omega)
 rw[e];refine sz_c (z165 _ _ hw.2.2.2.2.1 h m) (fun v0 h0 m0=>?_) h;have M0:=Int.le_trans m0 m;refine sz_c (z165 _ _ hw.2.2.2.2.2 h0 M0) (fun v1 h1 m1=>?_) h0;have M1:=Int.le_trans m1 M0;exact sz_last h1
theorem z108(a:List Y186)(l:Int)(hw:wf (.sl y186) a)(h:0<=l)(m:l<=9223372036854775807):u108 a l=some (szN (cnt (.sl y186) a) l):=by
 unfold u108;rw[cnt_sl];refine sz_row (d:=dflt y186) (c:=cnt y186) hw.1 h m (fun g v i hi hv mv=>?_) (fun g v i hi=>sz_end hi);exact sz_el (z138 _ _ (wf_el hi hw) hv mv) hi hw.1
theorem z137(a:Y182)(l:Int)(hw:wf y182 a)(h:0<=l)(m:l<=9223372036854775807):u137 a l=some (szN (cnt y182 a) l):=by
 unfold u137;have e:cnt y182 a=a.1.size+0:=by
  first | rfl | (simp only[cnt_pr,cnt_int,cnt_bool,cnt_str] <;> omega)
 rw[e];refine sz_s hw.1 h m (fun h0=>?_);have M0:(l-(a.1.size:Int))<=9223372036854775807:=by omega
 exact sz_last h0
theorem z107(a:List Y182)(l:Int)(hw:wf (.sl y182) a)(h:0<=l)(m:l<=9223372036854775807):u107 a l=some (szN (cnt (.sl y182) a) l):=by
 unfold u107;rw[cnt_sl];refine sz_row (d:=dflt y182) (c:=cnt y182) hw.1 h m (fun g v i hi hv mv=>?_) (fun g v i hi=>sz_end hi);exact sz_el (z137 _ _ (wf_el hi hw) hv mv) hi hw.1
theorem z71(a:Y128)(l:Int)(hw:wf y128 a)(h:0<=l)(m:l<=9223372036854775807):u71 a l=some (szN (cnt y128 a) l):=by
 unfold u71;have e:cnt y128 a=a.1.size+(cnt (.sl y182) a.2.2.1+(cnt (.sl y186) a.2.2.2.1+(cnt (.sl (.int .i64)) a.2.2.2.2.1+0))):=by
  first | rfl | (simp only[cnt_pr,cnt_int,cnt_bool,cnt_str] <;> omega)
 rw[e];refine sz_s hw.1 h m (fun h0=>?_);have M0:(l-(a.1.size:Int))<=9223372036854775807:=by omega
 refine sz_c (z107 _ _ hw.2.2.1 h0 M0) (fun v1 h1 m1=>?_) h0;have M1:=Int.le_trans m1 M0;refine sz_c (z108 _ _ hw.2.2.2.1 h1 M1) (fun v2 h2 m2=>?_) h1;have M2:=Int.le_trans m2 M1;refine sz_c (z60 _ _ hw.2.2.2.2.1 h2 M2) (fun v3 h3 m3=>?_) h2;have M3:=Int.le_trans m3 M2;exact sz_last h3
theorem z39(a:List Y128)(l:Int)(hw:wf (.sl y128) a)(h:0<=l)(m:l<=9223372036854775807):u39 a l=some (szN (cnt (.sl y128) a) l):=by
 unfold u39;rw[cnt_sl];refine sz_row (d:=dflt y128) (c:=cnt y128) hw.1 h m (fun g v i hi hv mv=>?_) (fun g v i hi=>sz_end hi);exact sz_el (z71 _ _ (wf_el hi hw) hv mv) hi hw.1
theorem z15(a:List Y128)(l:Int)(hw:wf (.sl y128) a)(h:0<=l)(m:l<=9223372036854775807):u15 a l=some (szN (cnt (.sl y128) a) l):=by
 unfold u15;have e:cnt (.sl y128) a=cnt (.sl y128) a+0:=by
  first | rfl | (simp only[cnt_pr,cnt_int,cnt_bool,cnt_str] <;> omega)
 rw[e];refine sz_c (z39 _ _ hw h m) (fun v0 h0 m0=>?_) h;have M0:=Int.le_trans m0 m;exact sz_last h0
theorem z5(a:Y32)(l:Int)(hw:wf y32 a)(h:0<=l)(m:l<=9223372036854775807):u5 a l=some (szN (cnt y32 a) l):=by
 unfold u5;have e:cnt y32 a=cnt (.sl y128) a.1+(cnt y29 a.2.1+(cnt (.sl y50) a.2.2+0)):=by
  first | rfl | (simp only[cnt_pr,cnt_int,cnt_bool,cnt_str] <;> omega)
 rw[e];refine sz_c (z15 _ _ hw.1 h m) (fun v0 h0 m0=>?_) h;have M0:=Int.le_trans m0 m;refine sz_c (z16 _ _ hw.2.1 h0 M0) (fun v1 h1 m1=>?_) h0;have M1:=Int.le_trans m1 M0;refine sz_c (z17 _ _ hw.2.2 h1 M1) (fun v2 h2 m2=>?_) h1;have M2:=Int.le_trans m2 M1;exact sz_last h2
theorem e14(a:Y57)(h:cnt y57 a<=1048576):u14 a a=some true:=by
 unfold u14
 first | refine eq_i ?_ | refine eq_b ?_
 first | refine eq_i ?_ | refine eq_b ?_
 first | refine eq_i ?_ | refine eq_b ?_
 first | refine eq_i ?_ | refine eq_b ?_
 first | refine eq_i ?_ | refine eq_b ?_
 refine eq_d rfl ?_;refine eq_c (e38 _ (cS (cS (cS (cS (cS (cS h))))))) ?_;rfl
theorem w12(a:Y52)(h:cnt y52 a<=1048576):u12 a=some a:=by
 unfold u12;refine to_c (w35 _ (cS (cS (cS (cS (cS (cS h))))))) ?_;rfl
theorem z10(a:Y52)(l:Int)(hw:wf y52 a)(h:0<=l)(m:l<=9223372036854775807):u10 a l=some (szN (cnt y52 a) l):=by
 unfold u10;have e:cnt y52 a=a.2.2.2.2.2.1.size+(cnt y50 a.2.2.2.2.2.2+0):=by
  first | rfl | (simp only[cnt_pr,cnt_int,cnt_bool,cnt_str] <;> omega)
 rw[e];refine sz_s hw.2.2.2.2.2.1 h m (fun h0=>?_);have M0:(l-(a.2.2.2.2.2.1.size:Int))<=9223372036854775807:=by omega
 refine sz_c (z28 _ _ hw.2.2.2.2.2.2 h0 M0) (fun v1 h1 m1=>?_) h0;have M1:=Int.le_trans m1 M0;exact sz_last h1
end Go.Proofs.YtekfdfcnjlfgiaaGreatDoor
end

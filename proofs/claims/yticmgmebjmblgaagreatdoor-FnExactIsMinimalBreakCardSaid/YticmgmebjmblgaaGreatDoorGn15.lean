/- Sizes, copies and comparisons of data: printed by program. -/
import Derived.Test.YticmgmebjmblgaaGreatDoorXF
import Derived.Test.YticmgmebjmblgaaGreatDoorFn15c
namespace Go.Proofs.YticmgmebjmblgaaGreatDoor
open Go Go.Proofs Go.Proofs.Xv Go.Proofs.Xl Go.Proofs.Xd
theorem e25 (a:List Int) (h:cnt (.sl (.int .i64)) a≤1048576):u25 a a=some true:=by
 unfold u25
 have hl:a.length≤9223372036854775807:=Nat.le_trans (cnt_len h) (by decide)
 exact eq_row hl (fun g i hi=>eq_es (by simp) hi hl) (fun g i hi=>if_neg (by simp; omega))
theorem e107 (a:Y137) (h:cnt y137 a≤1048576):u107 a a=some true:=by
 unfold u107
 refine eq_c (e25 _ (cnt_fst h)) ?_
 refine eq_c (e25 _ (cnt_fst (cnt_snd h))) ?_
 refine eq_c (e25 _ (cnt_fst (cnt_snd (cnt_snd h)))) ?_
 refine eq_c (e25 _ (cnt_snd (cnt_snd (cnt_snd h)))) ?_
 rfl
theorem e51 (a:List Y137) (h:cnt (.sl y137) a≤1048576):u51 a a=some true:=by
 unfold u51
 have hl:a.length≤9223372036854775807:=Nat.le_trans (cnt_len h) (by decide)
 exact eq_row hl (fun g i hi=>eq_el (e107 _ (cnt_el hi h)) hi hl) (fun g i hi=>if_neg (by simp; omega))
theorem e157 (a:Y199) (h:cnt y199 a≤1048576):u157 a a=some true:=by
 unfold u157
 refine eq_d rfl ?_
 first | refine eq_i ?_ | refine eq_b ?_
 first | refine eq_i ?_ | refine eq_b ?_
 rfl
theorem e106 (a:List Y199) (h:cnt (.sl y199) a≤1048576):u106 a a=some true:=by
 unfold u106
 have hl:a.length≤9223372036854775807:=Nat.le_trans (cnt_len h) (by decide)
 exact eq_row hl (fun g i hi=>eq_el (e157 _ (cnt_el hi h)) hi hl) (fun g i hi=>if_neg (by simp; omega))
theorem e105 (a:List ByteArray) (h:cnt (.sl .str) a≤1048576):u105 a a=some true:=by
 unfold u105
 have hl:a.length≤9223372036854775807:=Nat.le_trans (cnt_len h) (by decide)
 exact eq_row hl (fun g i hi=>eq_es (by simp) hi hl) (fun g i hi=>if_neg (by simp; omega))
theorem e156 (a:Y147) (h:cnt y147 a≤1048576):u156 a a=some true:=by
 unfold u156
 refine eq_d rfl ?_
 first | refine eq_i ?_ | refine eq_b ?_
 refine eq_c (e25 _ (cnt_snd (cnt_snd h))) ?_
 rfl
theorem e104 (a:List Y147) (h:cnt (.sl y147) a≤1048576):u104 a a=some true:=by
 unfold u104
 have hl:a.length≤9223372036854775807:=Nat.le_trans (cnt_len h) (by decide)
 exact eq_row hl (fun g i hi=>eq_el (e156 _ (cnt_el hi h)) hi hl) (fun g i hi=>if_neg (by simp; omega))
theorem e50 (a:Y42) (h:cnt y42 a≤1048576):u50 a a=some true:=by
 unfold u50
 refine eq_c (e104 _ (cnt_fst h)) ?_
 refine eq_c (e105 _ (cnt_fst (cnt_snd h))) ?_
 refine eq_c (e106 _ (cnt_snd (cnt_snd h))) ?_
 rfl
theorem e241 (a:Y106) (h:cnt y106 a≤1048576):u241 a a=some true:=by
 unfold u241
 refine eq_c (e25 _ (cnt_fst h)) ?_
 refine eq_c (e25 _ (cnt_fst (cnt_snd h))) ?_
 refine eq_c (e25 _ (cnt_snd (cnt_snd h))) ?_
 rfl
theorem e228 (a:List Y106) (h:cnt (.sl y106) a≤1048576):u228 a a=some true:=by
 unfold u228
 have hl:a.length≤9223372036854775807:=Nat.le_trans (cnt_len h) (by decide)
 exact eq_row hl (fun g i hi=>eq_el (e241 _ (cnt_el hi h)) hi hl) (fun g i hi=>if_neg (by simp; omega))
theorem e211 (a:Y102) (h:cnt y102 a≤1048576):u211 a a=some true:=by
 unfold u211
 first | refine eq_i ?_ | refine eq_b ?_
 first | refine eq_i ?_ | refine eq_b ?_
 first | refine eq_i ?_ | refine eq_b ?_
 first | refine eq_i ?_ | refine eq_b ?_
 refine eq_c (e228 _ (cnt_fst (cnt_snd (cnt_snd (cnt_snd (cnt_snd h)))))) ?_
 refine eq_c (e228 _ (cnt_snd (cnt_snd (cnt_snd (cnt_snd (cnt_snd h)))))) ?_
 rfl
theorem e185 (a:List Y102) (h:cnt (.sl y102) a≤1048576):u185 a a=some true:=by
 unfold u185
 have hl:a.length≤9223372036854775807:=Nat.le_trans (cnt_len h) (by decide)
 exact eq_row hl (fun g i hi=>eq_el (e211 _ (cnt_el hi h)) hi hl) (fun g i hi=>if_neg (by simp; omega))
theorem e210 (a:Y241) (h:cnt y241 a≤1048576):u210 a a=some true:=by
 unfold u210
 refine eq_d rfl ?_
 first | refine eq_i ?_ | refine eq_b ?_
 first | refine eq_i ?_ | refine eq_b ?_
 refine eq_b' ?_
 rfl
theorem e184 (a:List Y241) (h:cnt (.sl y241) a≤1048576):u184 a a=some true:=by
 unfold u184
 have hl:a.length≤9223372036854775807:=Nat.le_trans (cnt_len h) (by decide)
 exact eq_row hl (fun g i hi=>eq_el (e210 _ (cnt_el hi h)) hi hl) (fun g i hi=>if_neg (by simp; omega))
theorem e155 (a:Y145) (h:cnt y145 a≤1048576):u155 a a=some true:=by
 unfold u155
 refine eq_d rfl ?_
 first | refine eq_i ?_ | refine eq_b ?_
 refine eq_c (e184 _ (cnt_fst (cnt_snd (cnt_snd h)))) ?_
 refine eq_c (e185 _ (cnt_fst (cnt_snd (cnt_snd (cnt_snd h))))) ?_
 refine eq_c (e25 _ (cnt_fst (cnt_snd (cnt_snd (cnt_snd (cnt_snd h)))))) ?_
 first | refine eq_i ?_ | refine eq_b ?_
 first | refine eq_i ?_ | refine eq_b ?_
 rfl
theorem e103 (a:List Y145) (h:cnt (.sl y145) a≤1048576):u103 a a=some true:=by
 unfold u103
 have hl:a.length≤9223372036854775807:=Nat.le_trans (cnt_len h) (by decide)
 exact eq_row hl (fun g i hi=>eq_el (e155 _ (cnt_el hi h)) hi hl) (fun g i hi=>if_neg (by simp; omega))
theorem e49 (a:List Y145) (h:cnt (.sl y145) a≤1048576):u49 a a=some true:=by
 unfold u49
 refine eq_c (e103 _ h) ?_
 rfl
theorem e14 (a:Y45) (h:cnt y45 a≤1048576):u14 a a=some true:=by
 unfold u14
 refine eq_c (e49 _ (cnt_fst h)) ?_
 refine eq_c (e50 _ (cnt_fst (cnt_snd h))) ?_
 refine eq_c (e51 _ (cnt_snd (cnt_snd h))) ?_
 rfl
theorem w23 (a:List Int) (h:cnt (.sl (.int .i64)) a≤1048576):u23 a=some a:=by
 unfold u23
 have hl:a.length≤9223372036854775807:=Nat.le_trans (cnt_len h) (by decide)
 exact to_row (d:=dflt (.int .i64)) (cnt_len h) (by decide) (fun g i ys hi hy=>to_es hi hl hy) (fun g i ys hi=>to_end hi)
theorem w90 (a:Y134) (h:cnt y134 a≤1048576):u90 a=some a:=by
 unfold u90
 refine to_c (w23 _ (cnt_fst h)) ?_
 refine to_c (w23 _ (cnt_fst (cnt_snd h))) ?_
 refine to_c (w23 _ (cnt_fst (cnt_snd (cnt_snd h)))) ?_
 refine to_c (w23 _ (cnt_snd (cnt_snd (cnt_snd h)))) ?_
 rfl
theorem w42 (a:List Y134) (h:cnt (.sl y134) a≤1048576):u42 a=some a:=by
 unfold u42
 have hl:a.length≤9223372036854775807:=Nat.le_trans (cnt_len h) (by decide)
 exact to_row (d:=dflt y134) (cnt_len h) (by decide) (fun g i ys hi hy=>to_el (w90 _ (cnt_el hi h)) hi hl hy) (fun g i ys hi=>to_end hi)
theorem w139 (a:Y196) (h:cnt y196 a≤1048576):u139 a=some a:=by
 unfold u139
 rfl
theorem w89 (a:List Y196) (h:cnt (.sl y196) a≤1048576):u89 a=some a:=by
 unfold u89
 have hl:a.length≤9223372036854775807:=Nat.le_trans (cnt_len h) (by decide)
 rw [lt_eq]
 exact to_row (d:=dflt y196) (cnt_len h) (by decide) (fun g i ys hi hy=>to_el (w139 _ (cnt_el hi h)) hi hl hy) (fun g i ys hi=>to_end hi)
theorem w88 (a:List ByteArray) (h:cnt (.sl .str) a≤1048576):u88 a=some a:=by
 unfold u88
 have hl:a.length≤9223372036854775807:=Nat.le_trans (cnt_len h) (by decide)
 exact to_row (d:=dflt .str) (cnt_len h) (by decide) (fun g i ys hi hy=>to_es hi hl hy) (fun g i ys hi=>to_end hi)
theorem w138 (a:Y193) (h:cnt y193 a≤1048576):u138 a=some a:=by
 unfold u138
 refine to_c (w23 _ (cnt_snd (cnt_snd h))) ?_
 rfl
theorem w87 (a:List Y193) (h:cnt (.sl y193) a≤1048576):u87 a=some a:=by
 unfold u87
 have hl:a.length≤9223372036854775807:=Nat.le_trans (cnt_len h) (by decide)
 rw [lt_eq]
 exact to_row (d:=dflt y193) (cnt_len h) (by decide) (fun g i ys hi hy=>to_el (w138 _ (cnt_el hi h)) hi hl hy) (fun g i ys hi=>to_end hi)
theorem w41 (a:Y29) (h:cnt y29 a≤1048576):u41 a=some a:=by
 unfold u41
 refine to_c (w87 _ (cnt_fst h)) ?_
 refine to_c (w88 _ (cnt_fst (cnt_snd h))) ?_
 refine to_c (w89 _ (cnt_snd (cnt_snd h))) ?_
 rfl
theorem w234 (a:Y285) (h:cnt y285 a≤1048576):u234 a=some a:=by
 unfold u234
 refine to_c (w23 _ (cnt_fst h)) ?_
 refine to_c (w23 _ (cnt_fst (cnt_snd h))) ?_
 refine to_c (w23 _ (cnt_snd (cnt_snd h))) ?_
 rfl
theorem w219 (a:List Y285) (h:cnt (.sl y285) a≤1048576):u219 a=some a:=by
 unfold u219
 have hl:a.length≤9223372036854775807:=Nat.le_trans (cnt_len h) (by decide)
 exact to_row (d:=dflt y285) (cnt_len h) (by decide) (fun g i ys hi hy=>to_el (w234 _ (cnt_el hi h)) hi hl hy) (fun g i ys hi=>to_end hi)
theorem w202 (a:Y259) (h:cnt y259 a≤1048576):u202 a=some a:=by
 unfold u202
 refine to_c (w219 _ (cnt_fst (cnt_snd (cnt_snd (cnt_snd (cnt_snd h)))))) ?_
 refine to_c (w219 _ (cnt_snd (cnt_snd (cnt_snd (cnt_snd (cnt_snd h)))))) ?_
 rfl
theorem w174 (a:List Y259) (h:cnt (.sl y259) a≤1048576):u174 a=some a:=by
 unfold u174
 have hl:a.length≤9223372036854775807:=Nat.le_trans (cnt_len h) (by decide)
 rw [lt_eq]
 exact to_row (d:=dflt y259) (cnt_len h) (by decide) (fun g i ys hi hy=>to_el (w202 _ (cnt_el hi h)) hi hl hy) (fun g i ys hi=>to_end hi)
theorem w201 (a:Y255) (h:cnt y255 a≤1048576):u201 a=some a:=by
 unfold u201
 rfl
theorem w173 (a:List Y255) (h:cnt (.sl y255) a≤1048576):u173 a=some a:=by
 unfold u173
 have hl:a.length≤9223372036854775807:=Nat.le_trans (cnt_len h) (by decide)
 rw [lt_eq]
 exact to_row (d:=dflt y255) (cnt_len h) (by decide) (fun g i ys hi hy=>to_el (w201 _ (cnt_el hi h)) hi hl hy) (fun g i ys hi=>to_end hi)
theorem w137 (a:Y191) (h:cnt y191 a≤1048576):u137 a=some a:=by
 unfold u137
 refine to_c (w173 _ (cnt_fst (cnt_snd (cnt_snd h)))) ?_
 refine to_c (w174 _ (cnt_fst (cnt_snd (cnt_snd (cnt_snd h))))) ?_
 refine to_c (w23 _ (cnt_fst (cnt_snd (cnt_snd (cnt_snd (cnt_snd h)))))) ?_
 rfl
theorem w86 (a:List Y191) (h:cnt (.sl y191) a≤1048576):u86 a=some a:=by
 unfold u86
 have hl:a.length≤9223372036854775807:=Nat.le_trans (cnt_len h) (by decide)
 rw [lt_eq]
 exact to_row (d:=dflt y191) (cnt_len h) (by decide) (fun g i ys hi hy=>to_el (w137 _ (cnt_el hi h)) hi hl hy) (fun g i ys hi=>to_end hi)
theorem w40 (a:List Y191) (h:cnt (.sl y191) a≤1048576):u40 a=some a:=by
 unfold u40
 refine to_c (w86 _ h) ?_
 rfl
theorem w12 (a:Y32) (h:cnt y32 a≤1048576):u12 a=some a:=by
 unfold u12
 refine to_c (w40 _ (cnt_fst h)) ?_
 refine to_c (w41 _ (cnt_fst (cnt_snd h))) ?_
 refine to_c (w42 _ (cnt_snd (cnt_snd h))) ?_
 rfl
theorem z130 (a:List Int) (l:Int) (hw:wf (.sl (.int .i64)) a) (h:0≤l) (m:l≤9223372036854775807):u130 a l=some (szN (cnt (.sl (.int .i64)) a) l):=by
 unfold u130
 have e:cnt (.sl (.int .i64)) a=a.length+0:=cnt_ints
 rw [e]
 exact sz_s hw.1 h m fun H=>sz_last H
theorem z75 (a:Y134) (l:Int) (hw:wf y134 a) (h:0≤l) (m:l≤9223372036854775807):u75 a l=some (szN (cnt y134 a) l):=by
 unfold u75
 have e:cnt y134 a=cnt (.sl (.int .i64)) a.1+(cnt (.sl (.int .i64)) a.2.1+(cnt (.sl (.int .i64)) a.2.2.1+(cnt (.sl (.int .i64)) a.2.2.2+0))):=by
  first | rfl | (simp only [cnt_pr,cnt_int,cnt_bool,cnt_str] <;> omega)
 rw [e]
 refine sz_c (z130 _ _ hw.1 h m) (fun v0 h0 m0=>?_) h
 have M0:=Int.le_trans m0 m
 refine sz_c (z130 _ _ hw.2.1 h0 M0) (fun v1 h1 m1=>?_) h0
 have M1:=Int.le_trans m1 M0
 refine sz_c (z130 _ _ hw.2.2.1 h1 M1) (fun v2 h2 m2=>?_) h1
 have M2:=Int.le_trans m2 M1
 refine sz_c (z130 _ _ hw.2.2.2 h2 M2) (fun v3 h3 m3=>?_) h2
 have M3:=Int.le_trans m3 M2
 exact sz_last h3
theorem z35 (a:List Y134) (l:Int) (hw:wf (.sl y134) a) (h:0≤l) (m:l≤9223372036854775807):u35 a l=some (szN (cnt (.sl y134) a) l):=by
 unfold u35
 rw [cnt_sl]
 refine sz_row (d:=dflt y134) (c:=cnt y134) hw.1 h m (fun g v i hi hv mv=>?_) (fun g v i hi=>sz_end hi)
 exact sz_el (z75 _ _ (wf_el hi hw) hv mv) hi hw.1
theorem z129 (a:Y196) (l:Int) (hw:wf y196 a) (h:0≤l) (m:l≤9223372036854775807):u129 a l=some (szN (cnt y196 a) l):=by
 unfold u129
 have e:cnt y196 a=a.1.size+0:=by
  first | rfl | (simp only [cnt_pr,cnt_int,cnt_bool,cnt_str] <;> omega)
 rw [e]
 refine sz_s hw.1 h m (fun h0=>?_)
 have M0:(l - (a.1.size:Int))≤9223372036854775807:=by omega
 exact sz_last h0
theorem z74 (a:List Y196) (l:Int) (hw:wf (.sl y196) a) (h:0≤l) (m:l≤9223372036854775807):u74 a l=some (szN (cnt (.sl y196) a) l):=by
 unfold u74
 rw [cnt_sl]
 refine sz_row (d:=dflt y196) (c:=cnt y196) hw.1 h m (fun g v i hi hv mv=>?_) (fun g v i hi=>sz_end hi)
 exact sz_el (z129 _ _ (wf_el hi hw) hv mv) hi hw.1
theorem z73 (a:List ByteArray) (l:Int) (hw:wf (.sl .str) a) (h:0≤l) (m:l≤9223372036854775807):u73 a l=some (szN (cnt (.sl .str) a) l):=by
 unfold u73
 rw [cnt_sl]
 refine sz_row (d:=dflt .str) (c:=cnt .str) hw.1 h m (fun g v i hi hv mv=>?_) (fun g v i hi=>sz_end hi)
 have hs:=wf_el (d:=dflt .str) hi hw
 rw [cnt_str]
 exact sz_es hi hw.1 hs hv mv
theorem z128 (a:Y193) (l:Int) (hw:wf y193 a) (h:0≤l) (m:l≤9223372036854775807):u128 a l=some (szN (cnt y193 a) l):=by
 unfold u128
 have e:cnt y193 a=a.1.size+(cnt (.sl (.int .i64)) a.2.2+0):=by
  first | rfl | (simp only [cnt_pr,cnt_int,cnt_bool,cnt_str] <;> omega)
 rw [e]
 refine sz_s hw.1 h m (fun h0=>?_)
 have M0:(l - (a.1.size:Int))≤9223372036854775807:=by omega
 refine sz_c (z130 _ _ hw.2.2 h0 M0) (fun v1 h1 m1=>?_) h0
 have M1:=Int.le_trans m1 M0
 exact sz_last h1
theorem z72 (a:List Y193) (l:Int) (hw:wf (.sl y193) a) (h:0≤l) (m:l≤9223372036854775807):u72 a l=some (szN (cnt (.sl y193) a) l):=by
 unfold u72
 rw [cnt_sl]
 refine sz_row (d:=dflt y193) (c:=cnt y193) hw.1 h m (fun g v i hi hv mv=>?_) (fun g v i hi=>sz_end hi)
 exact sz_el (z128 _ _ (wf_el hi hw) hv mv) hi hw.1
theorem z34 (a:Y29) (l:Int) (hw:wf y29 a) (h:0≤l) (m:l≤9223372036854775807):u34 a l=some (szN (cnt y29 a) l):=by
 unfold u34
 have e:cnt y29 a=cnt (.sl y193) a.1+(cnt (.sl .str) a.2.1+(cnt (.sl y196) a.2.2+0)):=by
  first | rfl | (simp only [cnt_pr,cnt_int,cnt_bool,cnt_str] <;> omega)
 rw [e]
 refine sz_c (z72 _ _ hw.1 h m) (fun v0 h0 m0=>?_) h
 have M0:=Int.le_trans m0 m
 refine sz_c (z73 _ _ hw.2.1 h0 M0) (fun v1 h1 m1=>?_) h0
 have M1:=Int.le_trans m1 M0
 refine sz_c (z74 _ _ hw.2.2 h1 M1) (fun v2 h2 m2=>?_) h1
 have M2:=Int.le_trans m2 M1
 exact sz_last h2
theorem z232 (a:Y285) (l:Int) (hw:wf y285 a) (h:0≤l) (m:l≤9223372036854775807):u232 a l=some (szN (cnt y285 a) l):=by
 unfold u232
 have e:cnt y285 a=cnt (.sl (.int .i64)) a.1+(cnt (.sl (.int .i64)) a.2.1+(cnt (.sl (.int .i64)) a.2.2+0)):=by
  first | rfl | (simp only [cnt_pr,cnt_int,cnt_bool,cnt_str] <;> omega)
 rw [e]
 refine sz_c (z130 _ _ hw.1 h m) (fun v0 h0 m0=>?_) h
 have M0:=Int.le_trans m0 m
 refine sz_c (z130 _ _ hw.2.1 h0 M0) (fun v1 h1 m1=>?_) h0
 have M1:=Int.le_trans m1 M0
 refine sz_c (z130 _ _ hw.2.2 h1 M1) (fun v2 h2 m2=>?_) h1
 have M2:=Int.le_trans m2 M1
 exact sz_last h2
theorem z217 (a:List Y285) (l:Int) (hw:wf (.sl y285) a) (h:0≤l) (m:l≤9223372036854775807):u217 a l=some (szN (cnt (.sl y285) a) l):=by
 unfold u217
 rw [cnt_sl]
 refine sz_row (d:=dflt y285) (c:=cnt y285) hw.1 h m (fun g v i hi hv mv=>?_) (fun g v i hi=>sz_end hi)
 exact sz_el (z232 _ _ (wf_el hi hw) hv mv) hi hw.1
theorem z197 (a:Y259) (l:Int) (hw:wf y259 a) (h:0≤l) (m:l≤9223372036854775807):u197 a l=some (szN (cnt y259 a) l):=by
 unfold u197
 have e:cnt y259 a=cnt (.sl y285) a.2.2.2.2.1+(cnt (.sl y285) a.2.2.2.2.2+0):=by
  first | rfl | (simp only [cnt_pr,cnt_int,cnt_bool,cnt_str] <;> omega)
 rw [e]
 refine sz_c (z217 _ _ hw.2.2.2.2.1 h m) (fun v0 h0 m0=>?_) h
 have M0:=Int.le_trans m0 m
 refine sz_c (z217 _ _ hw.2.2.2.2.2 h0 M0) (fun v1 h1 m1=>?_) h0
 have M1:=Int.le_trans m1 M0
 exact sz_last h1
theorem z171 (a:List Y259) (l:Int) (hw:wf (.sl y259) a) (h:0≤l) (m:l≤9223372036854775807):u171 a l=some (szN (cnt (.sl y259) a) l):=by
 unfold u171
 rw [cnt_sl]
 refine sz_row (d:=dflt y259) (c:=cnt y259) hw.1 h m (fun g v i hi hv mv=>?_) (fun g v i hi=>sz_end hi)
 exact sz_el (z197 _ _ (wf_el hi hw) hv mv) hi hw.1
theorem z196 (a:Y255) (l:Int) (hw:wf y255 a) (h:0≤l) (m:l≤9223372036854775807):u196 a l=some (szN (cnt y255 a) l):=by
 unfold u196
 have e:cnt y255 a=a.1.size+0:=by
  first | rfl | (simp only [cnt_pr,cnt_int,cnt_bool,cnt_str] <;> omega)
 rw [e]
 refine sz_s hw.1 h m (fun h0=>?_)
 have M0:(l - (a.1.size:Int))≤9223372036854775807:=by omega
 exact sz_last h0
theorem z170 (a:List Y255) (l:Int) (hw:wf (.sl y255) a) (h:0≤l) (m:l≤9223372036854775807):u170 a l=some (szN (cnt (.sl y255) a) l):=by
 unfold u170
 rw [cnt_sl]
 refine sz_row (d:=dflt y255) (c:=cnt y255) hw.1 h m (fun g v i hi hv mv=>?_) (fun g v i hi=>sz_end hi)
 exact sz_el (z196 _ _ (wf_el hi hw) hv mv) hi hw.1
theorem z127 (a:Y191) (l:Int) (hw:wf y191 a) (h:0≤l) (m:l≤9223372036854775807):u127 a l=some (szN (cnt y191 a) l):=by
 unfold u127
 have e:cnt y191 a=a.1.size+(cnt (.sl y255) a.2.2.1+(cnt (.sl y259) a.2.2.2.1+(cnt (.sl (.int .i64)) a.2.2.2.2.1+0))):=by
  first | rfl | (simp only [cnt_pr,cnt_int,cnt_bool,cnt_str] <;> omega)
 rw [e]
 refine sz_s hw.1 h m (fun h0=>?_)
 have M0:(l - (a.1.size:Int))≤9223372036854775807:=by omega
 refine sz_c (z170 _ _ hw.2.2.1 h0 M0) (fun v1 h1 m1=>?_) h0
 have M1:=Int.le_trans m1 M0
 refine sz_c (z171 _ _ hw.2.2.2.1 h1 M1) (fun v2 h2 m2=>?_) h1
 have M2:=Int.le_trans m2 M1
 refine sz_c (z130 _ _ hw.2.2.2.2.1 h2 M2) (fun v3 h3 m3=>?_) h2
 have M3:=Int.le_trans m3 M2
 exact sz_last h3
theorem z71 (a:List Y191) (l:Int) (hw:wf (.sl y191) a) (h:0≤l) (m:l≤9223372036854775807):u71 a l=some (szN (cnt (.sl y191) a) l):=by
 unfold u71
 rw [cnt_sl]
 refine sz_row (d:=dflt y191) (c:=cnt y191) hw.1 h m (fun g v i hi hv mv=>?_) (fun g v i hi=>sz_end hi)
 exact sz_el (z127 _ _ (wf_el hi hw) hv mv) hi hw.1
theorem z33 (a:List Y191) (l:Int) (hw:wf (.sl y191) a) (h:0≤l) (m:l≤9223372036854775807):u33 a l=some (szN (cnt (.sl y191) a) l):=by
 unfold u33
 have e:cnt (.sl y191) a=cnt (.sl y191) a+0:=by
  first | rfl | (simp only [cnt_pr,cnt_int,cnt_bool,cnt_str] <;> omega)
 rw [e]
 refine sz_c (z71 _ _ hw h m) (fun v0 h0 m0=>?_) h
 have M0:=Int.le_trans m0 m
 exact sz_last h0
theorem z10 (a:Y32) (l:Int) (hw:wf y32 a) (h:0≤l) (m:l≤9223372036854775807):u10 a l=some (szN (cnt y32 a) l):=by
 unfold u10
 have e:cnt y32 a=cnt (.sl y191) a.1+(cnt y29 a.2.1+(cnt (.sl y134) a.2.2+0)):=by
  first | rfl | (simp only [cnt_pr,cnt_int,cnt_bool,cnt_str] <;> omega)
 rw [e]
 refine sz_c (z33 _ _ hw.1 h m) (fun v0 h0 m0=>?_) h
 have M0:=Int.le_trans m0 m
 refine sz_c (z34 _ _ hw.2.1 h0 M0) (fun v1 h1 m1=>?_) h0
 have M1:=Int.le_trans m1 M0
 refine sz_c (z35 _ _ hw.2.2 h1 M1) (fun v2 h2 m2=>?_) h1
 have M2:=Int.le_trans m2 M1
 exact sz_last h2
end Go.Proofs.YticmgmebjmblgaaGreatDoor

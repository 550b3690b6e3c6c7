/- Laws of sizes, copies, comparisons: printed by program. -/
import Derived.Test.YtgmpfbpemmohnaaGreatDoorXF
import Derived.Test.YtgmpfbpemmohnaaGreatDoorFn24c
namespace Go.Proofs.YtgmpfbpemmohnaaGreatDoor
open Go Go.Proofs Go.Proofs.Xv Go.Proofs.Xl Go.Proofs.Xd
theorem cnt_flat {e:Ty} {a:List (den e)} (h:∀ x,cnt e x=0):cnt (.sl e) a=a.length+0:=by
 have:a.map (cnt e)=a.map (fun _=>0):=List.map_congr_left (fun x _=>h x)
 show a.length+(a.map (cnt e)).sum=_
 rw [this]
 congr 1
 induction a with
 | nil=>rfl
 | cons x r ih=>simp only [List.map_cons,List.sum_cons,Nat.zero_add]; exact ih (List.map_congr_left (fun x _=>h x))
theorem z115 (a:List Int) (l:Int) (hw:wf (.sl (.int .i64)) a) (h:0≤l) (m:l≤9223372036854775807):u115 a l=some (szN (cnt (.sl (.int .i64)) a) l):=by
 unfold u115
 have e:cnt (.sl (.int .i64)) a=a.length+0:=cnt_ints
 rw [e]
 exact sz_s hw.1 h m fun H=>sz_last H
theorem z68 (a:Y111) (l:Int) (hw:wf y111 a) (h:0≤l) (m:l≤9223372036854775807):u68 a l=some (szN (cnt y111 a) l):=by
 unfold u68
 have e:cnt y111 a=cnt (.sl (.int .i64)) a.1+(cnt (.sl (.int .i64)) a.2.1+(cnt (.sl (.int .i64)) a.2.2.1+(cnt (.sl (.int .i64)) a.2.2.2+0))):=by
  first | rfl | (simp only [cnt_pr,cnt_int,cnt_bool,cnt_str] <;> omega)
 rw [e]
 refine sz_c (z115 _ _ hw.1 h m) (fun v0 h0 m0=>?_) h
 have M0:=Int.le_trans m0 m
 refine sz_c (z115 _ _ hw.2.1 h0 M0) (fun v1 h1 m1=>?_) h0
 have M1:=Int.le_trans m1 M0
 refine sz_c (z115 _ _ hw.2.2.1 h1 M1) (fun v2 h2 m2=>?_) h1
 have M2:=Int.le_trans m2 M1
 refine sz_c (z115 _ _ hw.2.2.2 h2 M2) (fun v3 h3 m3=>?_) h2
 have M3:=Int.le_trans m3 M2
 exact sz_last h3
theorem z31 (a:List Y111) (l:Int) (hw:wf (.sl y111) a) (h:0≤l) (m:l≤9223372036854775807):u31 a l=some (szN (cnt (.sl y111) a) l):=by
 unfold u31
 rw [cnt_sl]
 refine sz_row (d:=dflt y111) (c:=cnt y111) hw.1 h m (fun g v i hi hv mv=>?_) (fun g v i hi=>sz_end hi)
 exact sz_el (z68 _ _ (wf_el hi hw) hv mv) hi hw.1
theorem z114 (a:Y169) (l:Int) (hw:wf y169 a) (h:0≤l) (m:l≤9223372036854775807):u114 a l=some (szN (cnt y169 a) l):=by
 unfold u114
 have e:cnt y169 a=a.1.size+0:=by
  first | rfl | (simp only [cnt_pr,cnt_int,cnt_bool,cnt_str] <;> omega)
 rw [e]
 refine sz_s hw.1 h m (fun h0=>?_)
 have M0:(l - (a.1.size:Int))≤9223372036854775807:=by omega
 exact sz_last h0
theorem z67 (a:List Y169) (l:Int) (hw:wf (.sl y169) a) (h:0≤l) (m:l≤9223372036854775807):u67 a l=some (szN (cnt (.sl y169) a) l):=by
 unfold u67
 rw [cnt_sl]
 refine sz_row (d:=dflt y169) (c:=cnt y169) hw.1 h m (fun g v i hi hv mv=>?_) (fun g v i hi=>sz_end hi)
 exact sz_el (z114 _ _ (wf_el hi hw) hv mv) hi hw.1
theorem z66 (a:List ByteArray) (l:Int) (hw:wf (.sl .str) a) (h:0≤l) (m:l≤9223372036854775807):u66 a l=some (szN (cnt (.sl .str) a) l):=by
 unfold u66
 rw [cnt_sl]
 refine sz_row (d:=dflt .str) (c:=cnt .str) hw.1 h m (fun g v i hi hv mv=>?_) (fun g v i hi=>sz_end hi)
 have hs:=wf_el (d:=dflt .str) hi hw
 rw [cnt_str]
 exact sz_es hi hw.1 hs hv mv
theorem z113 (a:Y166) (l:Int) (hw:wf y166 a) (h:0≤l) (m:l≤9223372036854775807):u113 a l=some (szN (cnt y166 a) l):=by
 unfold u113
 have e:cnt y166 a=a.1.size+(cnt (.sl (.int .i64)) a.2.2+0):=by
  first | rfl | (simp only [cnt_pr,cnt_int,cnt_bool,cnt_str] <;> omega)
 rw [e]
 refine sz_s hw.1 h m (fun h0=>?_)
 have M0:(l - (a.1.size:Int))≤9223372036854775807:=by omega
 refine sz_c (z115 _ _ hw.2.2 h0 M0) (fun v1 h1 m1=>?_) h0
 have M1:=Int.le_trans m1 M0
 exact sz_last h1
theorem z65 (a:List Y166) (l:Int) (hw:wf (.sl y166) a) (h:0≤l) (m:l≤9223372036854775807):u65 a l=some (szN (cnt (.sl y166) a) l):=by
 unfold u65
 rw [cnt_sl]
 refine sz_row (d:=dflt y166) (c:=cnt y166) hw.1 h m (fun g v i hi hv mv=>?_) (fun g v i hi=>sz_end hi)
 exact sz_el (z113 _ _ (wf_el hi hw) hv mv) hi hw.1
theorem z30 (a:Y29) (l:Int) (hw:wf y29 a) (h:0≤l) (m:l≤9223372036854775807):u30 a l=some (szN (cnt y29 a) l):=by
 unfold u30
 have e:cnt y29 a=cnt (.sl y166) a.1+(cnt (.sl .str) a.2.1+(cnt (.sl y169) a.2.2+0)):=by
  first | rfl | (simp only [cnt_pr,cnt_int,cnt_bool,cnt_str] <;> omega)
 rw [e]
 refine sz_c (z65 _ _ hw.1 h m) (fun v0 h0 m0=>?_) h
 have M0:=Int.le_trans m0 m
 refine sz_c (z66 _ _ hw.2.1 h0 M0) (fun v1 h1 m1=>?_) h0
 have M1:=Int.le_trans m1 M0
 refine sz_c (z67 _ _ hw.2.2 h1 M1) (fun v2 h2 m2=>?_) h1
 have M2:=Int.le_trans m2 M1
 exact sz_last h2
theorem z191 (a:Y243) (l:Int) (hw:wf y243 a) (h:0≤l) (m:l≤9223372036854775807):u191 a l=some (szN (cnt y243 a) l):=by
 unfold u191
 have e:cnt y243 a=cnt (.sl (.int .i64)) a.1+(cnt (.sl (.int .i64)) a.2.1+(cnt (.sl (.int .i64)) a.2.2+0)):=by
  first | rfl | (simp only [cnt_pr,cnt_int,cnt_bool,cnt_str] <;> omega)
 rw [e]
 refine sz_c (z115 _ _ hw.1 h m) (fun v0 h0 m0=>?_) h
 have M0:=Int.le_trans m0 m
 refine sz_c (z115 _ _ hw.2.1 h0 M0) (fun v1 h1 m1=>?_) h0
 have M1:=Int.le_trans m1 M0
 refine sz_c (z115 _ _ hw.2.2 h1 M1) (fun v2 h2 m2=>?_) h1
 have M2:=Int.le_trans m2 M1
 exact sz_last h2
theorem z178 (a:List Y243) (l:Int) (hw:wf (.sl y243) a) (h:0≤l) (m:l≤9223372036854775807):u178 a l=some (szN (cnt (.sl y243) a) l):=by
 unfold u178
 rw [cnt_sl]
 refine sz_row (d:=dflt y243) (c:=cnt y243) hw.1 h m (fun g v i hi hv mv=>?_) (fun g v i hi=>sz_end hi)
 exact sz_el (z191 _ _ (wf_el hi hw) hv mv) hi hw.1
theorem z164 (a:Y217) (l:Int) (hw:wf y217 a) (h:0≤l) (m:l≤9223372036854775807):u164 a l=some (szN (cnt y217 a) l):=by
 unfold u164
 have e:cnt y217 a=cnt (.sl y243) a.2.2.2.2.1+(cnt (.sl y243) a.2.2.2.2.2+0):=by
  first | rfl | (simp only [cnt_pr,cnt_int,cnt_bool,cnt_str] <;> omega)
 rw [e]
 refine sz_c (z178 _ _ hw.2.2.2.2.1 h m) (fun v0 h0 m0=>?_) h
 have M0:=Int.le_trans m0 m
 refine sz_c (z178 _ _ hw.2.2.2.2.2 h0 M0) (fun v1 h1 m1=>?_) h0
 have M1:=Int.le_trans m1 M0
 exact sz_last h1
theorem z146 (a:List Y217) (l:Int) (hw:wf (.sl y217) a) (h:0≤l) (m:l≤9223372036854775807):u146 a l=some (szN (cnt (.sl y217) a) l):=by
 unfold u146
 rw [cnt_sl]
 refine sz_row (d:=dflt y217) (c:=cnt y217) hw.1 h m (fun g v i hi hv mv=>?_) (fun g v i hi=>sz_end hi)
 exact sz_el (z164 _ _ (wf_el hi hw) hv mv) hi hw.1
theorem z163 (a:Y213) (l:Int) (hw:wf y213 a) (h:0≤l) (m:l≤9223372036854775807):u163 a l=some (szN (cnt y213 a) l):=by
 unfold u163
 have e:cnt y213 a=a.1.size+0:=by
  first | rfl | (simp only [cnt_pr,cnt_int,cnt_bool,cnt_str] <;> omega)
 rw [e]
 refine sz_s hw.1 h m (fun h0=>?_)
 have M0:(l - (a.1.size:Int))≤9223372036854775807:=by omega
 exact sz_last h0
theorem z145 (a:List Y213) (l:Int) (hw:wf (.sl y213) a) (h:0≤l) (m:l≤9223372036854775807):u145 a l=some (szN (cnt (.sl y213) a) l):=by
 unfold u145
 rw [cnt_sl]
 refine sz_row (d:=dflt y213) (c:=cnt y213) hw.1 h m (fun g v i hi hv mv=>?_) (fun g v i hi=>sz_end hi)
 exact sz_el (z163 _ _ (wf_el hi hw) hv mv) hi hw.1
theorem z112 (a:Y164) (l:Int) (hw:wf y164 a) (h:0≤l) (m:l≤9223372036854775807):u112 a l=some (szN (cnt y164 a) l):=by
 unfold u112
 have e:cnt y164 a=a.1.size+(cnt (.sl y213) a.2.2.1+(cnt (.sl y217) a.2.2.2.1+(cnt (.sl (.int .i64)) a.2.2.2.2.1+0))):=by
  first | rfl | (simp only [cnt_pr,cnt_int,cnt_bool,cnt_str] <;> omega)
 rw [e]
 refine sz_s hw.1 h m (fun h0=>?_)
 have M0:(l - (a.1.size:Int))≤9223372036854775807:=by omega
 refine sz_c (z145 _ _ hw.2.2.1 h0 M0) (fun v1 h1 m1=>?_) h0
 have M1:=Int.le_trans m1 M0
 refine sz_c (z146 _ _ hw.2.2.2.1 h1 M1) (fun v2 h2 m2=>?_) h1
 have M2:=Int.le_trans m2 M1
 refine sz_c (z115 _ _ hw.2.2.2.2.1 h2 M2) (fun v3 h3 m3=>?_) h2
 have M3:=Int.le_trans m3 M2
 exact sz_last h3
theorem z64 (a:List Y164) (l:Int) (hw:wf (.sl y164) a) (h:0≤l) (m:l≤9223372036854775807):u64 a l=some (szN (cnt (.sl y164) a) l):=by
 unfold u64
 rw [cnt_sl]
 refine sz_row (d:=dflt y164) (c:=cnt y164) hw.1 h m (fun g v i hi hv mv=>?_) (fun g v i hi=>sz_end hi)
 exact sz_el (z112 _ _ (wf_el hi hw) hv mv) hi hw.1
theorem z29 (a:List Y164) (l:Int) (hw:wf (.sl y164) a) (h:0≤l) (m:l≤9223372036854775807):u29 a l=some (szN (cnt (.sl y164) a) l):=by
 unfold u29
 have e:cnt (.sl y164) a=cnt (.sl y164) a+0:=by
  first | rfl | (simp only [cnt_pr,cnt_int,cnt_bool,cnt_str] <;> omega)
 rw [e]
 refine sz_c (z64 _ _ hw h m) (fun v0 h0 m0=>?_) h
 have M0:=Int.le_trans m0 m
 exact sz_last h0
theorem z8 (a:Y32) (l:Int) (hw:wf y32 a) (h:0≤l) (m:l≤9223372036854775807):u8 a l=some (szN (cnt y32 a) l):=by
 unfold u8
 have e:cnt y32 a=cnt (.sl y164) a.1+(cnt y29 a.2.1+(cnt (.sl y111) a.2.2+0)):=by
  first | rfl | (simp only [cnt_pr,cnt_int,cnt_bool,cnt_str] <;> omega)
 rw [e]
 refine sz_c (z29 _ _ hw.1 h m) (fun v0 h0 m0=>?_) h
 have M0:=Int.le_trans m0 m
 refine sz_c (z30 _ _ hw.2.1 h0 M0) (fun v1 h1 m1=>?_) h0
 have M1:=Int.le_trans m1 M0
 refine sz_c (z31 _ _ hw.2.2 h1 M1) (fun v2 h2 m2=>?_) h1
 have M2:=Int.le_trans m2 M1
 exact sz_last h2
theorem w23 (a:List Int) (h:cnt (.sl (.int .i64)) a≤1048576):u23 a=some a:=by
 unfold u23
 have hl:a.length≤9223372036854775807:=Nat.le_trans (cnt_len h) (by decide)
 exact to_row (d:=dflt (.int .i64)) (cnt_len h) (by decide) (fun g i ys hi hy=>to_es hi hl hy) (fun g i ys hi=>to_end hi)
theorem w76 (a:Y111) (h:cnt y111 a≤1048576):u76 a=some a:=by
 unfold u76
 refine to_c (w23 _ (cnt_fst h)) ?_
 refine to_c (w23 _ (cnt_fst (cnt_snd h))) ?_
 refine to_c (w23 _ (cnt_fst (cnt_snd (cnt_snd h)))) ?_
 refine to_c (w23 _ (cnt_snd (cnt_snd (cnt_snd h)))) ?_
 rfl
theorem w37 (a:List Y111) (h:cnt (.sl y111) a≤1048576):u37 a=some a:=by
 unfold u37
 have hl:a.length≤9223372036854775807:=Nat.le_trans (cnt_len h) (by decide)
 exact to_row (d:=dflt y111) (cnt_len h) (by decide) (fun g i ys hi hy=>to_el (w76 _ (cnt_el hi h)) hi hl hy) (fun g i ys hi=>to_end hi)
theorem w119 (a:Y169) (h:cnt y169 a≤1048576):u119 a=some a:=by
 unfold u119
 rfl
theorem w75 (a:List Y169) (h:cnt (.sl y169) a≤1048576):u75 a=some a:=by
 unfold u75
 have hl:a.length≤9223372036854775807:=Nat.le_trans (cnt_len h) (by decide)
 rw [lt_eq]
 exact to_row (d:=dflt y169) (cnt_len h) (by decide) (fun g i ys hi hy=>to_el (w119 _ (cnt_el hi h)) hi hl hy) (fun g i ys hi=>to_end hi)
theorem w74 (a:List ByteArray) (h:cnt (.sl .str) a≤1048576):u74 a=some a:=by
 unfold u74
 have hl:a.length≤9223372036854775807:=Nat.le_trans (cnt_len h) (by decide)
 exact to_row (d:=dflt .str) (cnt_len h) (by decide) (fun g i ys hi hy=>to_es hi hl hy) (fun g i ys hi=>to_end hi)
theorem w118 (a:Y166) (h:cnt y166 a≤1048576):u118 a=some a:=by
 unfold u118
 refine to_c (w23 _ (cnt_snd (cnt_snd h))) ?_
 rfl
theorem w73 (a:List Y166) (h:cnt (.sl y166) a≤1048576):u73 a=some a:=by
 unfold u73
 have hl:a.length≤9223372036854775807:=Nat.le_trans (cnt_len h) (by decide)
 rw [lt_eq]
 exact to_row (d:=dflt y166) (cnt_len h) (by decide) (fun g i ys hi hy=>to_el (w118 _ (cnt_el hi h)) hi hl hy) (fun g i ys hi=>to_end hi)
theorem w36 (a:Y29) (h:cnt y29 a≤1048576):u36 a=some a:=by
 unfold u36
 refine to_c (w73 _ (cnt_fst h)) ?_
 refine to_c (w74 _ (cnt_fst (cnt_snd h))) ?_
 refine to_c (w75 _ (cnt_snd (cnt_snd h))) ?_
 rfl
theorem w192 (a:Y243) (h:cnt y243 a≤1048576):u192 a=some a:=by
 unfold u192
 refine to_c (w23 _ (cnt_fst h)) ?_
 refine to_c (w23 _ (cnt_fst (cnt_snd h))) ?_
 refine to_c (w23 _ (cnt_snd (cnt_snd h))) ?_
 rfl
theorem w179 (a:List Y243) (h:cnt (.sl y243) a≤1048576):u179 a=some a:=by
 unfold u179
 have hl:a.length≤9223372036854775807:=Nat.le_trans (cnt_len h) (by decide)
 exact to_row (d:=dflt y243) (cnt_len h) (by decide) (fun g i ys hi hy=>to_el (w192 _ (cnt_el hi h)) hi hl hy) (fun g i ys hi=>to_end hi)
theorem w166 (a:Y217) (h:cnt y217 a≤1048576):u166 a=some a:=by
 unfold u166
 refine to_c (w179 _ (cnt_fst (cnt_snd (cnt_snd (cnt_snd (cnt_snd h)))))) ?_
 refine to_c (w179 _ (cnt_snd (cnt_snd (cnt_snd (cnt_snd (cnt_snd h)))))) ?_
 rfl
theorem w150 (a:List Y217) (h:cnt (.sl y217) a≤1048576):u150 a=some a:=by
 unfold u150
 have hl:a.length≤9223372036854775807:=Nat.le_trans (cnt_len h) (by decide)
 rw [lt_eq]
 exact to_row (d:=dflt y217) (cnt_len h) (by decide) (fun g i ys hi hy=>to_el (w166 _ (cnt_el hi h)) hi hl hy) (fun g i ys hi=>to_end hi)
theorem w165 (a:Y213) (h:cnt y213 a≤1048576):u165 a=some a:=by
 unfold u165
 rfl
theorem w149 (a:List Y213) (h:cnt (.sl y213) a≤1048576):u149 a=some a:=by
 unfold u149
 have hl:a.length≤9223372036854775807:=Nat.le_trans (cnt_len h) (by decide)
 rw [lt_eq]
 exact to_row (d:=dflt y213) (cnt_len h) (by decide) (fun g i ys hi hy=>to_el (w165 _ (cnt_el hi h)) hi hl hy) (fun g i ys hi=>to_end hi)
theorem w117 (a:Y164) (h:cnt y164 a≤1048576):u117 a=some a:=by
 unfold u117
 refine to_c (w149 _ (cnt_fst (cnt_snd (cnt_snd h)))) ?_
 refine to_c (w150 _ (cnt_fst (cnt_snd (cnt_snd (cnt_snd h))))) ?_
 refine to_c (w23 _ (cnt_fst (cnt_snd (cnt_snd (cnt_snd (cnt_snd h)))))) ?_
 rfl
theorem w72 (a:List Y164) (h:cnt (.sl y164) a≤1048576):u72 a=some a:=by
 unfold u72
 have hl:a.length≤9223372036854775807:=Nat.le_trans (cnt_len h) (by decide)
 rw [lt_eq]
 exact to_row (d:=dflt y164) (cnt_len h) (by decide) (fun g i ys hi hy=>to_el (w117 _ (cnt_el hi h)) hi hl hy) (fun g i ys hi=>to_end hi)
theorem w35 (a:List Y164) (h:cnt (.sl y164) a≤1048576):u35 a=some a:=by
 unfold u35
 refine to_c (w72 _ h) ?_
 rfl
theorem w10 (a:Y32) (h:cnt y32 a≤1048576):u10 a=some a:=by
 unfold u10
 refine to_c (w35 _ (cnt_fst h)) ?_
 refine to_c (w36 _ (cnt_fst (cnt_snd h))) ?_
 refine to_c (w37 _ (cnt_snd (cnt_snd h))) ?_
 rfl
theorem e12 (a:List Int) (h:cnt (.sl (.int .i64)) a≤1048576):u12 a a=some true:=by
 unfold u12
 have hl:a.length≤9223372036854775807:=Nat.le_trans (cnt_len h) (by decide)
 exact eq_row hl (fun g i hi=>eq_es (by simp) hi hl) (fun g i hi=>if_neg (by simp; omega))
theorem e83 (a:Y114) (h:cnt y114 a≤1048576):u83 a a=some true:=by
 unfold u83
 refine eq_c (e12 _ (cnt_fst h)) ?_
 refine eq_c (e12 _ (cnt_fst (cnt_snd h))) ?_
 refine eq_c (e12 _ (cnt_fst (cnt_snd (cnt_snd h)))) ?_
 refine eq_c (e12 _ (cnt_snd (cnt_snd (cnt_snd h)))) ?_
 rfl
theorem e44 (a:List Y114) (h:cnt (.sl y114) a≤1048576):u44 a a=some true:=by
 unfold u44
 have hl:a.length≤9223372036854775807:=Nat.le_trans (cnt_len h) (by decide)
 exact eq_row hl (fun g i hi=>eq_el (e83 _ (cnt_el hi h)) hi hl) (fun g i hi=>if_neg (by simp; omega))
theorem e124 (a:Y172) (h:cnt y172 a≤1048576):u124 a a=some true:=by
 unfold u124
 refine eq_d rfl ?_
 first | refine eq_i ?_ | refine eq_b ?_
 first | refine eq_i ?_ | refine eq_b ?_
 rfl
theorem e82 (a:List Y172) (h:cnt (.sl y172) a≤1048576):u82 a a=some true:=by
 unfold u82
 have hl:a.length≤9223372036854775807:=Nat.le_trans (cnt_len h) (by decide)
 exact eq_row hl (fun g i hi=>eq_el (e124 _ (cnt_el hi h)) hi hl) (fun g i hi=>if_neg (by simp; omega))
theorem e81 (a:List ByteArray) (h:cnt (.sl .str) a≤1048576):u81 a a=some true:=by
 unfold u81
 have hl:a.length≤9223372036854775807:=Nat.le_trans (cnt_len h) (by decide)
 exact eq_row hl (fun g i hi=>eq_es (by simp) hi hl) (fun g i hi=>if_neg (by simp; omega))
theorem e123 (a:Y136) (h:cnt y136 a≤1048576):u123 a a=some true:=by
 unfold u123
 refine eq_d rfl ?_
 first | refine eq_i ?_ | refine eq_b ?_
 refine eq_c (e12 _ (cnt_snd (cnt_snd h))) ?_
 rfl
theorem e80 (a:List Y136) (h:cnt (.sl y136) a≤1048576):u80 a a=some true:=by
 unfold u80
 have hl:a.length≤9223372036854775807:=Nat.le_trans (cnt_len h) (by decide)
 exact eq_row hl (fun g i hi=>eq_el (e123 _ (cnt_el hi h)) hi hl) (fun g i hi=>if_neg (by simp; omega))
theorem e43 (a:Y43) (h:cnt y43 a≤1048576):u43 a a=some true:=by
 unfold u43
 refine eq_c (e80 _ (cnt_fst h)) ?_
 refine eq_c (e81 _ (cnt_fst (cnt_snd h))) ?_
 refine eq_c (e82 _ (cnt_snd (cnt_snd h))) ?_
 rfl
theorem e193 (a:Y223) (h:cnt y223 a≤1048576):u193 a a=some true:=by
 unfold u193
 refine eq_c (e12 _ (cnt_fst h)) ?_
 refine eq_c (e12 _ (cnt_fst (cnt_snd h))) ?_
 refine eq_c (e12 _ (cnt_snd (cnt_snd h))) ?_
 rfl
theorem e180 (a:List Y223) (h:cnt (.sl y223) a≤1048576):u180 a a=some true:=by
 unfold u180
 have hl:a.length≤9223372036854775807:=Nat.le_trans (cnt_len h) (by decide)
 exact eq_row hl (fun g i hi=>eq_el (e193 _ (cnt_el hi h)) hi hl) (fun g i hi=>if_neg (by simp; omega))
theorem e168 (a:Y139) (h:cnt y139 a≤1048576):u168 a a=some true:=by
 unfold u168
 first | refine eq_i ?_ | refine eq_b ?_
 first | refine eq_i ?_ | refine eq_b ?_
 first | refine eq_i ?_ | refine eq_b ?_
 first | refine eq_i ?_ | refine eq_b ?_
 refine eq_c (e180 _ (cnt_fst (cnt_snd (cnt_snd (cnt_snd (cnt_snd h)))))) ?_
 refine eq_c (e180 _ (cnt_snd (cnt_snd (cnt_snd (cnt_snd (cnt_snd h)))))) ?_
 rfl
theorem e152 (a:List Y139) (h:cnt (.sl y139) a≤1048576):u152 a a=some true:=by
 unfold u152
 have hl:a.length≤9223372036854775807:=Nat.le_trans (cnt_len h) (by decide)
 exact eq_row hl (fun g i hi=>eq_el (e168 _ (cnt_el hi h)) hi hl) (fun g i hi=>if_neg (by simp; omega))
theorem e167 (a:Y205) (h:cnt y205 a≤1048576):u167 a a=some true:=by
 unfold u167
 refine eq_d rfl ?_
 first | refine eq_i ?_ | refine eq_b ?_
 first | refine eq_i ?_ | refine eq_b ?_
 refine eq_b' ?_
 rfl
theorem e151 (a:List Y205) (h:cnt (.sl y205) a≤1048576):u151 a a=some true:=by
 unfold u151
 have hl:a.length≤9223372036854775807:=Nat.le_trans (cnt_len h) (by decide)
 exact eq_row hl (fun g i hi=>eq_el (e167 _ (cnt_el hi h)) hi hl) (fun g i hi=>if_neg (by simp; omega))
theorem e122 (a:Y134) (h:cnt y134 a≤1048576):u122 a a=some true:=by
 unfold u122
 refine eq_d rfl ?_
 first | refine eq_i ?_ | refine eq_b ?_
 refine eq_c (e151 _ (cnt_fst (cnt_snd (cnt_snd h)))) ?_
 refine eq_c (e152 _ (cnt_fst (cnt_snd (cnt_snd (cnt_snd h))))) ?_
 refine eq_c (e12 _ (cnt_fst (cnt_snd (cnt_snd (cnt_snd (cnt_snd h)))))) ?_
 first | refine eq_i ?_ | refine eq_b ?_
 first | refine eq_i ?_ | refine eq_b ?_
 rfl
theorem e79 (a:List Y134) (h:cnt (.sl y134) a≤1048576):u79 a a=some true:=by
 unfold u79
 have hl:a.length≤9223372036854775807:=Nat.le_trans (cnt_len h) (by decide)
 exact eq_row hl (fun g i hi=>eq_el (e122 _ (cnt_el hi h)) hi hl) (fun g i hi=>if_neg (by simp; omega))
theorem e42 (a:List Y134) (h:cnt (.sl y134) a≤1048576):u42 a a=some true:=by
 unfold u42
 refine eq_c (e79 _ h) ?_
 rfl
theorem e13 (a:Y46) (h:cnt y46 a≤1048576):u13 a a=some true:=by
 unfold u13
 refine eq_c (e42 _ (cnt_fst h)) ?_
 refine eq_c (e43 _ (cnt_fst (cnt_snd h))) ?_
 refine eq_c (e44 _ (cnt_snd (cnt_snd h))) ?_
 rfl
theorem e52 (a:Y91) (h:cnt y91 a≤1048576):u52 a a=some true:=by
 unfold u52
 first | refine eq_i ?_ | refine eq_b ?_
 first | refine eq_i ?_ | refine eq_b ?_
 first | refine eq_i ?_ | refine eq_b ?_
 first | refine eq_i ?_ | refine eq_b ?_
 rfl
theorem e19 (a:List Y91) (h:cnt (.sl y91) a≤1048576):u19 a a=some true:=by
 unfold u19
 have hl:a.length≤9223372036854775807:=Nat.le_trans (cnt_len h) (by decide)
 exact eq_row hl (fun g i hi=>eq_el (e52 _ (cnt_el hi h)) hi hl) (fun g i hi=>if_neg (by simp; omega))
end Go.Proofs.YtgmpfbpemmohnaaGreatDoor

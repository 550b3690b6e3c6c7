/- Sizes, copies, comparisons of the data of the statements. -/
import Derived.Test.YtkmmjamclcdjkaaGreatDoorXF
import Derived.Test.YtkmmjamclcdjkaaGreatDoorFn8c
namespace Go.Proofs.YtkmmjamclcdjkaaGreatDoor
open Go Go.Proofs Go.Proofs.Xv Go.Proofs.Xl Go.Proofs.Xd
theorem e16 (a : List Int) (h : cnt (.sl (.int .i64)) a ≤ 1048576) : u16 a a = some true := by
 unfold u16
 have hl : a.length ≤ 9223372036854775807 := Nat.le_trans (cnt_len h) (by decide)
 exact eq_row hl (fun g i hi => eq_es (by simp) hi hl) (fun g i hi => if_neg (by simp; omega))
theorem e39 (a : Y52) (h : cnt y52 a ≤ 1048576) : u39 a a = some true := by
 unfold u39
 refine eq_c (e16 _ (cnt_fst h)) ?_
 refine eq_c (e16 _ (cnt_fst (cnt_snd h))) ?_
 refine eq_c (e16 _ (cnt_fst (cnt_snd (cnt_snd h)))) ?_
 refine eq_c (e16 _ (cnt_snd (cnt_snd (cnt_snd h)))) ?_
 rfl
theorem e13 (a : Y54) (h : cnt y54 a ≤ 1048576) : u13 a a = some true := by
 unfold u13
 first | refine eq_i ?_ | refine eq_b ?_
 first | refine eq_i ?_ | refine eq_b ?_
 first | refine eq_i ?_ | refine eq_b ?_
 first | refine eq_i ?_ | refine eq_b ?_
 first | refine eq_i ?_ | refine eq_b ?_
 refine eq_d rfl ?_
 refine eq_c (e39 _ (cnt_snd (cnt_snd (cnt_snd (cnt_snd (cnt_snd (cnt_snd h))))))) ?_
 rfl
theorem w72 (a : List Int) (h : cnt (.sl (.int .i64)) a ≤ 1048576) : u72 a = some a := by
 unfold u72
 have hl : a.length ≤ 9223372036854775807 := Nat.le_trans (cnt_len h) (by decide)
 exact to_row (d := dflt (.int .i64)) (cnt_len h) (by decide) (fun g i ys hi hy => to_es hi hl hy) (fun g i ys hi => to_end hi)
theorem w33 (a : Y35) (h : cnt y35 a ≤ 1048576) : u33 a = some a := by
 unfold u33
 refine to_c (w72 _ (cnt_fst h)) ?_
 refine to_c (w72 _ (cnt_fst (cnt_snd h))) ?_
 refine to_c (w72 _ (cnt_fst (cnt_snd (cnt_snd h)))) ?_
 refine to_c (w72 _ (cnt_snd (cnt_snd (cnt_snd h)))) ?_
 rfl
theorem w10 (a : Y37) (h : cnt y37 a ≤ 1048576) : u10 a = some a := by
 unfold u10
 refine to_c (w33 _ (cnt_snd (cnt_snd (cnt_snd (cnt_snd (cnt_snd (cnt_snd h))))))) ?_
 rfl
theorem e38 (a : List Y52) (h : cnt (.sl y52) a ≤ 1048576) : u38 a a = some true := by
 unfold u38
 have hl : a.length ≤ 9223372036854775807 := Nat.le_trans (cnt_len h) (by decide)
 exact eq_row hl (fun g i hi => eq_el (e39 _ (cnt_el hi h)) hi hl) (fun g i hi => if_neg (by simp; omega))
theorem e126 (a : Y144) (h : cnt y144 a ≤ 1048576) : u126 a a = some true := by
 unfold u126
 refine eq_d rfl ?_
 first | refine eq_i ?_ | refine eq_b ?_
 first | refine eq_i ?_ | refine eq_b ?_
 rfl
theorem e81 (a : List Y144) (h : cnt (.sl y144) a ≤ 1048576) : u81 a a = some true := by
 unfold u81
 have hl : a.length ≤ 9223372036854775807 := Nat.le_trans (cnt_len h) (by decide)
 exact eq_row hl (fun g i hi => eq_el (e126 _ (cnt_el hi h)) hi hl) (fun g i hi => if_neg (by simp; omega))
theorem e80 (a : List ByteArray) (h : cnt (.sl .str) a ≤ 1048576) : u80 a a = some true := by
 unfold u80
 have hl : a.length ≤ 9223372036854775807 := Nat.le_trans (cnt_len h) (by decide)
 exact eq_row hl (fun g i hi => eq_es (by simp) hi hl) (fun g i hi => if_neg (by simp; omega))
theorem e125 (a : Y109) (h : cnt y109 a ≤ 1048576) : u125 a a = some true := by
 unfold u125
 refine eq_d rfl ?_
 first | refine eq_i ?_ | refine eq_b ?_
 refine eq_c (e16 _ (cnt_snd (cnt_snd h))) ?_
 rfl
theorem e79 (a : List Y109) (h : cnt (.sl y109) a ≤ 1048576) : u79 a a = some true := by
 unfold u79
 have hl : a.length ≤ 9223372036854775807 := Nat.le_trans (cnt_len h) (by decide)
 exact eq_row hl (fun g i hi => eq_el (e125 _ (cnt_el hi h)) hi hl) (fun g i hi => if_neg (by simp; omega))
theorem e37 (a : Y47) (h : cnt y47 a ≤ 1048576) : u37 a a = some true := by
 unfold u37
 refine eq_c (e79 _ (cnt_fst h)) ?_
 refine eq_c (e80 _ (cnt_fst (cnt_snd h))) ?_
 refine eq_c (e81 _ (cnt_snd (cnt_snd h))) ?_
 rfl
theorem e226 (a : Y232) (h : cnt y232 a ≤ 1048576) : u226 a a = some true := by
 unfold u226
 refine eq_c (e16 _ (cnt_fst h)) ?_
 refine eq_c (e16 _ (cnt_fst (cnt_snd h))) ?_
 refine eq_c (e16 _ (cnt_snd (cnt_snd h))) ?_
 rfl
theorem e210 (a : List Y232) (h : cnt (.sl y232) a ≤ 1048576) : u210 a a = some true := by
 unfold u210
 have hl : a.length ≤ 9223372036854775807 := Nat.le_trans (cnt_len h) (by decide)
 exact eq_row hl (fun g i hi => eq_el (e226 _ (cnt_el hi h)) hi hl) (fun g i hi => if_neg (by simp; omega))
theorem e192 (a : Y195) (h : cnt y195 a ≤ 1048576) : u192 a a = some true := by
 unfold u192
 first | refine eq_i ?_ | refine eq_b ?_
 first | refine eq_i ?_ | refine eq_b ?_
 first | refine eq_i ?_ | refine eq_b ?_
 first | refine eq_i ?_ | refine eq_b ?_
 refine eq_c (e210 _ (cnt_fst (cnt_snd (cnt_snd (cnt_snd (cnt_snd h)))))) ?_
 refine eq_c (e210 _ (cnt_snd (cnt_snd (cnt_snd (cnt_snd (cnt_snd h)))))) ?_
 rfl
theorem e158 (a : List Y195) (h : cnt (.sl y195) a ≤ 1048576) : u158 a a = some true := by
 unfold u158
 have hl : a.length ≤ 9223372036854775807 := Nat.le_trans (cnt_len h) (by decide)
 exact eq_row hl (fun g i hi => eq_el (e192 _ (cnt_el hi h)) hi hl) (fun g i hi => if_neg (by simp; omega))
theorem e191 (a : Y147) (h : cnt y147 a ≤ 1048576) : u191 a a = some true := by
 unfold u191
 refine eq_d rfl ?_
 first | refine eq_i ?_ | refine eq_b ?_
 first | refine eq_i ?_ | refine eq_b ?_
 refine eq_b' ?_
 rfl
theorem e157 (a : List Y147) (h : cnt (.sl y147) a ≤ 1048576) : u157 a a = some true := by
 unfold u157
 have hl : a.length ≤ 9223372036854775807 := Nat.le_trans (cnt_len h) (by decide)
 exact eq_row hl (fun g i hi => eq_el (e191 _ (cnt_el hi h)) hi hl) (fun g i hi => if_neg (by simp; omega))
theorem e124 (a : Y107) (h : cnt y107 a ≤ 1048576) : u124 a a = some true := by
 unfold u124
 refine eq_d rfl ?_
 first | refine eq_i ?_ | refine eq_b ?_
 refine eq_c (e157 _ (cnt_fst (cnt_snd (cnt_snd h)))) ?_
 refine eq_c (e158 _ (cnt_fst (cnt_snd (cnt_snd (cnt_snd h))))) ?_
 refine eq_c (e16 _ (cnt_fst (cnt_snd (cnt_snd (cnt_snd (cnt_snd h)))))) ?_
 first | refine eq_i ?_ | refine eq_b ?_
 first | refine eq_i ?_ | refine eq_b ?_
 rfl
theorem e78 (a : List Y107) (h : cnt (.sl y107) a ≤ 1048576) : u78 a a = some true := by
 unfold u78
 have hl : a.length ≤ 9223372036854775807 := Nat.le_trans (cnt_len h) (by decide)
 exact eq_row hl (fun g i hi => eq_el (e124 _ (cnt_el hi h)) hi hl) (fun g i hi => if_neg (by simp; omega))
theorem e36 (a : List Y107) (h : cnt (.sl y107) a ≤ 1048576) : u36 a a = some true := by
 unfold u36
 refine eq_c (e78 _ h) ?_
 rfl
theorem e12 (a : Y50) (h : cnt y50 a ≤ 1048576) : u12 a a = some true := by
 unfold u12
 refine eq_c (e36 _ (cnt_fst h)) ?_
 refine eq_c (e37 _ (cnt_fst (cnt_snd h))) ?_
 refine eq_c (e38 _ (cnt_snd (cnt_snd h))) ?_
 rfl
theorem w32 (a : List Y35) (h : cnt (.sl y35) a ≤ 1048576) : u32 a = some a := by
 unfold u32
 have hl : a.length ≤ 9223372036854775807 := Nat.le_trans (cnt_len h) (by decide)
 exact to_row (d := dflt y35) (cnt_len h) (by decide) (fun g i ys hi hy => to_el (w33 _ (cnt_el hi h)) hi hl hy) (fun g i ys hi => to_end hi)
theorem w104 (a : Y142) (h : cnt y142 a ≤ 1048576) : u104 a = some a := by
 unfold u104
 rfl
theorem w71 (a : List Y142) (h : cnt (.sl y142) a ≤ 1048576) : u71 a = some a := by
 unfold u71
 have hl : a.length ≤ 9223372036854775807 := Nat.le_trans (cnt_len h) (by decide)
 rw [lt_eq]
 exact to_row (d := dflt y142) (cnt_len h) (by decide) (fun g i ys hi hy => to_el (w104 _ (cnt_el hi h)) hi hl hy) (fun g i ys hi => to_end hi)
theorem w70 (a : List ByteArray) (h : cnt (.sl .str) a ≤ 1048576) : u70 a = some a := by
 unfold u70
 have hl : a.length ≤ 9223372036854775807 := Nat.le_trans (cnt_len h) (by decide)
 exact to_row (d := dflt .str) (cnt_len h) (by decide) (fun g i ys hi hy => to_es hi hl hy) (fun g i ys hi => to_end hi)
theorem w103 (a : Y139) (h : cnt y139 a ≤ 1048576) : u103 a = some a := by
 unfold u103
 refine to_c (w72 _ (cnt_snd (cnt_snd h))) ?_
 rfl
theorem w69 (a : List Y139) (h : cnt (.sl y139) a ≤ 1048576) : u69 a = some a := by
 unfold u69
 have hl : a.length ≤ 9223372036854775807 := Nat.le_trans (cnt_len h) (by decide)
 rw [lt_eq]
 exact to_row (d := dflt y139) (cnt_len h) (by decide) (fun g i ys hi hy => to_el (w103 _ (cnt_el hi h)) hi hl hy) (fun g i ys hi => to_end hi)
theorem w31 (a : Y29) (h : cnt y29 a ≤ 1048576) : u31 a = some a := by
 unfold u31
 refine to_c (w69 _ (cnt_fst h)) ?_
 refine to_c (w70 _ (cnt_fst (cnt_snd h))) ?_
 refine to_c (w71 _ (cnt_snd (cnt_snd h))) ?_
 rfl
theorem w216 (a : Y251) (h : cnt y251 a ≤ 1048576) : u216 a = some a := by
 unfold u216
 refine to_c (w72 _ (cnt_fst h)) ?_
 refine to_c (w72 _ (cnt_fst (cnt_snd h))) ?_
 refine to_c (w72 _ (cnt_snd (cnt_snd h))) ?_
 rfl
theorem w198 (a : List Y251) (h : cnt (.sl y251) a ≤ 1048576) : u198 a = some a := by
 unfold u198
 have hl : a.length ≤ 9223372036854775807 := Nat.le_trans (cnt_len h) (by decide)
 exact to_row (d := dflt y251) (cnt_len h) (by decide) (fun g i ys hi hy => to_el (w216 _ (cnt_el hi h)) hi hl hy) (fun g i ys hi => to_end hi)
theorem w176 (a : Y212) (h : cnt y212 a ≤ 1048576) : u176 a = some a := by
 unfold u176
 refine to_c (w198 _ (cnt_fst (cnt_snd (cnt_snd (cnt_snd (cnt_snd h)))))) ?_
 refine to_c (w198 _ (cnt_snd (cnt_snd (cnt_snd (cnt_snd (cnt_snd h)))))) ?_
 rfl
theorem w142 (a : List Y212) (h : cnt (.sl y212) a ≤ 1048576) : u142 a = some a := by
 unfold u142
 have hl : a.length ≤ 9223372036854775807 := Nat.le_trans (cnt_len h) (by decide)
 rw [lt_eq]
 exact to_row (d := dflt y212) (cnt_len h) (by decide) (fun g i ys hi hy => to_el (w176 _ (cnt_el hi h)) hi hl hy) (fun g i ys hi => to_end hi)
theorem w175 (a : Y208) (h : cnt y208 a ≤ 1048576) : u175 a = some a := by
 unfold u175
 rfl
theorem w141 (a : List Y208) (h : cnt (.sl y208) a ≤ 1048576) : u141 a = some a := by
 unfold u141
 have hl : a.length ≤ 9223372036854775807 := Nat.le_trans (cnt_len h) (by decide)
 rw [lt_eq]
 exact to_row (d := dflt y208) (cnt_len h) (by decide) (fun g i ys hi hy => to_el (w175 _ (cnt_el hi h)) hi hl hy) (fun g i ys hi => to_end hi)
theorem w102 (a : Y137) (h : cnt y137 a ≤ 1048576) : u102 a = some a := by
 unfold u102
 refine to_c (w141 _ (cnt_fst (cnt_snd (cnt_snd h)))) ?_
 refine to_c (w142 _ (cnt_fst (cnt_snd (cnt_snd (cnt_snd h))))) ?_
 refine to_c (w72 _ (cnt_fst (cnt_snd (cnt_snd (cnt_snd (cnt_snd h)))))) ?_
 rfl
theorem w68 (a : List Y137) (h : cnt (.sl y137) a ≤ 1048576) : u68 a = some a := by
 unfold u68
 have hl : a.length ≤ 9223372036854775807 := Nat.le_trans (cnt_len h) (by decide)
 rw [lt_eq]
 exact to_row (d := dflt y137) (cnt_len h) (by decide) (fun g i ys hi hy => to_el (w102 _ (cnt_el hi h)) hi hl hy) (fun g i ys hi => to_end hi)
theorem w30 (a : List Y137) (h : cnt (.sl y137) a ≤ 1048576) : u30 a = some a := by
 unfold u30
 refine to_c (w68 _ h) ?_
 rfl
theorem w9 (a : Y32) (h : cnt y32 a ≤ 1048576) : u9 a = some a := by
 unfold u9
 refine to_c (w30 _ (cnt_fst h)) ?_
 refine to_c (w31 _ (cnt_fst (cnt_snd h))) ?_
 refine to_c (w32 _ (cnt_snd (cnt_snd h))) ?_
 rfl
theorem z56 (a : List Int) (l : Int) (hw : wf (.sl (.int .i64)) a) (h : 0 ≤ l) (m : l ≤ 9223372036854775807) : u56 a l = some (szN (cnt (.sl (.int .i64)) a) l) := by
 unfold u56
 have e : cnt (.sl (.int .i64)) a = a.length + 0 := cnt_ints
 rw [e]
 exact sz_s hw.1 h m fun H => sz_last H
theorem z25 (a : Y35) (l : Int) (hw : wf y35 a) (h : 0 ≤ l) (m : l ≤ 9223372036854775807) : u25 a l = some (szN (cnt y35 a) l) := by
 unfold u25
 have e : cnt y35 a = cnt (.sl (.int .i64)) a.1 + (cnt (.sl (.int .i64)) a.2.1 + (cnt (.sl (.int .i64)) a.2.2.1 + (cnt (.sl (.int .i64)) a.2.2.2 + 0))) := by
  first | rfl | (simp only [cnt_pr, cnt_int, cnt_bool, cnt_str] <;> omega)
 rw [e]
 refine sz_c (z56 _ _ hw.1 h m) (fun v0 h0 m0 => ?_) h
 have M0 := Int.le_trans m0 m
 refine sz_c (z56 _ _ hw.2.1 h0 M0) (fun v1 h1 m1 => ?_) h0
 have M1 := Int.le_trans m1 M0
 refine sz_c (z56 _ _ hw.2.2.1 h1 M1) (fun v2 h2 m2 => ?_) h1
 have M2 := Int.le_trans m2 M1
 refine sz_c (z56 _ _ hw.2.2.2 h2 M2) (fun v3 h3 m3 => ?_) h2
 have M3 := Int.le_trans m3 M2
 exact sz_last h3
theorem z7 (a : Y37) (l : Int) (hw : wf y37 a) (h : 0 ≤ l) (m : l ≤ 9223372036854775807) : u7 a l = some (szN (cnt y37 a) l) := by
 unfold u7
 have e : cnt y37 a = a.2.2.2.2.2.1.size + (cnt y35 a.2.2.2.2.2.2 + 0) := by
  first | rfl | (simp only [cnt_pr, cnt_int, cnt_bool, cnt_str] <;> omega)
 rw [e]
 refine sz_s hw.2.2.2.2.2.1 h m (fun h0 => ?_)
 have M0 : (l - (a.2.2.2.2.2.1.size : Int)) ≤ 9223372036854775807 := by omega
 refine sz_c (z25 _ _ hw.2.2.2.2.2.2 h0 M0) (fun v1 h1 m1 => ?_) h0
 have M1 := Int.le_trans m1 M0
 exact sz_last h1
theorem z24 (a : List Y35) (l : Int) (hw : wf (.sl y35) a) (h : 0 ≤ l) (m : l ≤ 9223372036854775807) : u24 a l = some (szN (cnt (.sl y35) a) l) := by
 unfold u24
 rw [cnt_sl]
 refine sz_row (d := dflt y35) (c := cnt y35) hw.1 h m (fun g v i hi hv mv => ?_) (fun g v i hi => sz_end hi)
 exact sz_el (z25 _ _ (wf_el hi hw) hv mv) hi hw.1
theorem z96 (a : Y142) (l : Int) (hw : wf y142 a) (h : 0 ≤ l) (m : l ≤ 9223372036854775807) : u96 a l = some (szN (cnt y142 a) l) := by
 unfold u96
 have e : cnt y142 a = a.1.size + 0 := by
  first | rfl | (simp only [cnt_pr, cnt_int, cnt_bool, cnt_str] <;> omega)
 rw [e]
 refine sz_s hw.1 h m (fun h0 => ?_)
 have M0 : (l - (a.1.size : Int)) ≤ 9223372036854775807 := by omega
 exact sz_last h0
theorem z55 (a : List Y142) (l : Int) (hw : wf (.sl y142) a) (h : 0 ≤ l) (m : l ≤ 9223372036854775807) : u55 a l = some (szN (cnt (.sl y142) a) l) := by
 unfold u55
 rw [cnt_sl]
 refine sz_row (d := dflt y142) (c := cnt y142) hw.1 h m (fun g v i hi hv mv => ?_) (fun g v i hi => sz_end hi)
 exact sz_el (z96 _ _ (wf_el hi hw) hv mv) hi hw.1
theorem z54 (a : List ByteArray) (l : Int) (hw : wf (.sl .str) a) (h : 0 ≤ l) (m : l ≤ 9223372036854775807) : u54 a l = some (szN (cnt (.sl .str) a) l) := by
 unfold u54
 rw [cnt_sl]
 refine sz_row (d := dflt .str) (c := cnt .str) hw.1 h m (fun g v i hi hv mv => ?_) (fun g v i hi => sz_end hi)
 have hs := wf_el (d := dflt .str) hi hw
 rw [cnt_str]
 exact sz_es hi hw.1 hs hv mv
theorem z95 (a : Y139) (l : Int) (hw : wf y139 a) (h : 0 ≤ l) (m : l ≤ 9223372036854775807) : u95 a l = some (szN (cnt y139 a) l) := by
 unfold u95
 have e : cnt y139 a = a.1.size + (cnt (.sl (.int .i64)) a.2.2 + 0) := by
  first | rfl | (simp only [cnt_pr, cnt_int, cnt_bool, cnt_str] <;> omega)
 rw [e]
 refine sz_s hw.1 h m (fun h0 => ?_)
 have M0 : (l - (a.1.size : Int)) ≤ 9223372036854775807 := by omega
 refine sz_c (z56 _ _ hw.2.2 h0 M0) (fun v1 h1 m1 => ?_) h0
 have M1 := Int.le_trans m1 M0
 exact sz_last h1
theorem z53 (a : List Y139) (l : Int) (hw : wf (.sl y139) a) (h : 0 ≤ l) (m : l ≤ 9223372036854775807) : u53 a l = some (szN (cnt (.sl y139) a) l) := by
 unfold u53
 rw [cnt_sl]
 refine sz_row (d := dflt y139) (c := cnt y139) hw.1 h m (fun g v i hi hv mv => ?_) (fun g v i hi => sz_end hi)
 exact sz_el (z95 _ _ (wf_el hi hw) hv mv) hi hw.1
theorem z23 (a : Y29) (l : Int) (hw : wf y29 a) (h : 0 ≤ l) (m : l ≤ 9223372036854775807) : u23 a l = some (szN (cnt y29 a) l) := by
 unfold u23
 have e : cnt y29 a = cnt (.sl y139) a.1 + (cnt (.sl .str) a.2.1 + (cnt (.sl y142) a.2.2 + 0)) := by
  first | rfl | (simp only [cnt_pr, cnt_int, cnt_bool, cnt_str] <;> omega)
 rw [e]
 refine sz_c (z53 _ _ hw.1 h m) (fun v0 h0 m0 => ?_) h
 have M0 := Int.le_trans m0 m
 refine sz_c (z54 _ _ hw.2.1 h0 M0) (fun v1 h1 m1 => ?_) h0
 have M1 := Int.le_trans m1 M0
 refine sz_c (z55 _ _ hw.2.2 h1 M1) (fun v2 h2 m2 => ?_) h1
 have M2 := Int.le_trans m2 M1
 exact sz_last h2
theorem z214 (a : Y251) (l : Int) (hw : wf y251 a) (h : 0 ≤ l) (m : l ≤ 9223372036854775807) : u214 a l = some (szN (cnt y251 a) l) := by
 unfold u214
 have e : cnt y251 a = cnt (.sl (.int .i64)) a.1 + (cnt (.sl (.int .i64)) a.2.1 + (cnt (.sl (.int .i64)) a.2.2 + 0)) := by
  first | rfl | (simp only [cnt_pr, cnt_int, cnt_bool, cnt_str] <;> omega)
 rw [e]
 refine sz_c (z56 _ _ hw.1 h m) (fun v0 h0 m0 => ?_) h
 have M0 := Int.le_trans m0 m
 refine sz_c (z56 _ _ hw.2.1 h0 M0) (fun v1 h1 m1 => ?_) h0
 have M1 := Int.le_trans m1 M0
 refine sz_c (z56 _ _ hw.2.2 h1 M1) (fun v2 h2 m2 => ?_) h1
 have M2 := Int.le_trans m2 M1
 exact sz_last h2
theorem z196 (a : List Y251) (l : Int) (hw : wf (.sl y251) a) (h : 0 ≤ l) (m : l ≤ 9223372036854775807) : u196 a l = some (szN (cnt (.sl y251) a) l) := by
 unfold u196
 rw [cnt_sl]
 refine sz_row (d := dflt y251) (c := cnt y251) hw.1 h m (fun g v i hi hv mv => ?_) (fun g v i hi => sz_end hi)
 exact sz_el (z214 _ _ (wf_el hi hw) hv mv) hi hw.1
theorem z171 (a : Y212) (l : Int) (hw : wf y212 a) (h : 0 ≤ l) (m : l ≤ 9223372036854775807) : u171 a l = some (szN (cnt y212 a) l) := by
 unfold u171
 have e : cnt y212 a = cnt (.sl y251) a.2.2.2.2.1 + (cnt (.sl y251) a.2.2.2.2.2 + 0) := by
  first | rfl | (simp only [cnt_pr, cnt_int, cnt_bool, cnt_str] <;> omega)
 rw [e]
 refine sz_c (z196 _ _ hw.2.2.2.2.1 h m) (fun v0 h0 m0 => ?_) h
 have M0 := Int.le_trans m0 m
 refine sz_c (z196 _ _ hw.2.2.2.2.2 h0 M0) (fun v1 h1 m1 => ?_) h0
 have M1 := Int.le_trans m1 M0
 exact sz_last h1
theorem z139 (a : List Y212) (l : Int) (hw : wf (.sl y212) a) (h : 0 ≤ l) (m : l ≤ 9223372036854775807) : u139 a l = some (szN (cnt (.sl y212) a) l) := by
 unfold u139
 rw [cnt_sl]
 refine sz_row (d := dflt y212) (c := cnt y212) hw.1 h m (fun g v i hi hv mv => ?_) (fun g v i hi => sz_end hi)
 exact sz_el (z171 _ _ (wf_el hi hw) hv mv) hi hw.1
theorem z170 (a : Y208) (l : Int) (hw : wf y208 a) (h : 0 ≤ l) (m : l ≤ 9223372036854775807) : u170 a l = some (szN (cnt y208 a) l) := by
 unfold u170
 have e : cnt y208 a = a.1.size + 0 := by
  first | rfl | (simp only [cnt_pr, cnt_int, cnt_bool, cnt_str] <;> omega)
 rw [e]
 refine sz_s hw.1 h m (fun h0 => ?_)
 have M0 : (l - (a.1.size : Int)) ≤ 9223372036854775807 := by omega
 exact sz_last h0
theorem z138 (a : List Y208) (l : Int) (hw : wf (.sl y208) a) (h : 0 ≤ l) (m : l ≤ 9223372036854775807) : u138 a l = some (szN (cnt (.sl y208) a) l) := by
 unfold u138
 rw [cnt_sl]
 refine sz_row (d := dflt y208) (c := cnt y208) hw.1 h m (fun g v i hi hv mv => ?_) (fun g v i hi => sz_end hi)
 exact sz_el (z170 _ _ (wf_el hi hw) hv mv) hi hw.1
theorem z94 (a : Y137) (l : Int) (hw : wf y137 a) (h : 0 ≤ l) (m : l ≤ 9223372036854775807) : u94 a l = some (szN (cnt y137 a) l) := by
 unfold u94
 have e : cnt y137 a = a.1.size + (cnt (.sl y208) a.2.2.1 + (cnt (.sl y212) a.2.2.2.1 + (cnt (.sl (.int .i64)) a.2.2.2.2.1 + 0))) := by
  first | rfl | (simp only [cnt_pr, cnt_int, cnt_bool, cnt_str] <;> omega)
 rw [e]
 refine sz_s hw.1 h m (fun h0 => ?_)
 have M0 : (l - (a.1.size : Int)) ≤ 9223372036854775807 := by omega
 refine sz_c (z138 _ _ hw.2.2.1 h0 M0) (fun v1 h1 m1 => ?_) h0
 have M1 := Int.le_trans m1 M0
 refine sz_c (z139 _ _ hw.2.2.2.1 h1 M1) (fun v2 h2 m2 => ?_) h1
 have M2 := Int.le_trans m2 M1
 refine sz_c (z56 _ _ hw.2.2.2.2.1 h2 M2) (fun v3 h3 m3 => ?_) h2
 have M3 := Int.le_trans m3 M2
 exact sz_last h3
theorem z52 (a : List Y137) (l : Int) (hw : wf (.sl y137) a) (h : 0 ≤ l) (m : l ≤ 9223372036854775807) : u52 a l = some (szN (cnt (.sl y137) a) l) := by
 unfold u52
 rw [cnt_sl]
 refine sz_row (d := dflt y137) (c := cnt y137) hw.1 h m (fun g v i hi hv mv => ?_) (fun g v i hi => sz_end hi)
 exact sz_el (z94 _ _ (wf_el hi hw) hv mv) hi hw.1
theorem z22 (a : List Y137) (l : Int) (hw : wf (.sl y137) a) (h : 0 ≤ l) (m : l ≤ 9223372036854775807) : u22 a l = some (szN (cnt (.sl y137) a) l) := by
 unfold u22
 have e : cnt (.sl y137) a = cnt (.sl y137) a + 0 := by
  first | rfl | (simp only [cnt_pr, cnt_int, cnt_bool, cnt_str] <;> omega)
 rw [e]
 refine sz_c (z52 _ _ hw h m) (fun v0 h0 m0 => ?_) h
 have M0 := Int.le_trans m0 m
 exact sz_last h0
theorem z6 (a : Y32) (l : Int) (hw : wf y32 a) (h : 0 ≤ l) (m : l ≤ 9223372036854775807) : u6 a l = some (szN (cnt y32 a) l) := by
 unfold u6
 have e : cnt y32 a = cnt (.sl y137) a.1 + (cnt y29 a.2.1 + (cnt (.sl y35) a.2.2 + 0)) := by
  first | rfl | (simp only [cnt_pr, cnt_int, cnt_bool, cnt_str] <;> omega)
 rw [e]
 refine sz_c (z22 _ _ hw.1 h m) (fun v0 h0 m0 => ?_) h
 have M0 := Int.le_trans m0 m
 refine sz_c (z23 _ _ hw.2.1 h0 M0) (fun v1 h1 m1 => ?_) h0
 have M1 := Int.le_trans m1 M0
 refine sz_c (z24 _ _ hw.2.2 h1 M1) (fun v2 h2 m2 => ?_) h1
 have M2 := Int.le_trans m2 M1
 exact sz_last h2
end Go.Proofs.YtkmmjamclcdjkaaGreatDoor

/- Sizes, copies, comparisons of the data of the statements. -/
import Derived.Test.YtippccamjlfafaaGreatDoorXF
import Derived.Test.YtippccamjlfafaaGreatDoorFn7c
namespace Go.Proofs.YtippccamjlfafaaGreatDoor
open Go Go.Proofs Go.Proofs.Xv Go.Proofs.Xl Go.Proofs.Xd
theorem cnt_flat {e : Ty} {a : List (den e)} (h : ∀ x, cnt e x = 0) : cnt (.sl e) a = a.length + 0 := by
 have : a.map (cnt e) = a.map (fun _ => 0) := List.map_congr_left (fun x _ => h x)
 show a.length + (a.map (cnt e)).sum = _
 rw [this]
 congr 1
 induction a with
 | nil => rfl
 | cons x r ih => simp only [List.map_cons, List.sum_cons, Nat.zero_add]; exact ih (List.map_congr_left (fun x _ => h x))
theorem e106 (a : Y105) (h : cnt y105 a ≤ 1048576) : u106 a a = some true := by
 unfold u106
 first | refine eq_i ?_ | refine eq_b ?_
 first | refine eq_i ?_ | refine eq_b ?_
 rfl
theorem e63 (a : List Y105) (h : cnt (.sl y105) a ≤ 1048576) : u63 a a = some true := by
 unfold u63
 have hl : a.length ≤ 9223372036854775807 := Nat.le_trans (cnt_len h) (by decide)
 exact eq_row hl (fun g i hi => eq_el (e106 _ (cnt_el hi h)) hi hl) (fun g i hi => if_neg (by simp; omega))
theorem e62 (a : List Bool) (h : cnt (.sl .bool) a ≤ 1048576) : u62 a a = some true := by
 unfold u62
 have hl : a.length ≤ 9223372036854775807 := Nat.le_trans (cnt_len h) (by decide)
 exact eq_row hl (fun g i hi => eq_es (by simp) hi hl) (fun g i hi => if_neg (by simp; omega))
theorem e26 (a : Y68) (h : cnt y68 a ≤ 1048576) : u26 a a = some true := by
 unfold u26
 refine eq_c (e62 _ (cnt_fst h)) ?_
 refine eq_c (e63 _ (cnt_fst (cnt_snd h))) ?_
 refine eq_c (e63 _ (cnt_snd (cnt_snd h))) ?_
 rfl
theorem w103 (a : Y109) (h : cnt y109 a ≤ 1048576) : u103 a = some a := by
 unfold u103
 rfl
theorem w60 (a : List Y109) (h : cnt (.sl y109) a ≤ 1048576) : u60 a = some a := by
 unfold u60
 have hl : a.length ≤ 9223372036854775807 := Nat.le_trans (cnt_len h) (by decide)
 rw [lt_eq]
 exact to_row (d := dflt y109) (cnt_len h) (by decide) (fun g i ys hi hy => to_el (w103 _ (cnt_el hi h)) hi hl hy) (fun g i ys hi => to_end hi)
theorem w59 (a : List Bool) (h : cnt (.sl .bool) a ≤ 1048576) : u59 a = some a := by
 unfold u59
 have hl : a.length ≤ 9223372036854775807 := Nat.le_trans (cnt_len h) (by decide)
 exact to_row (d := dflt .bool) (cnt_len h) (by decide) (fun g i ys hi hy => to_es hi hl hy) (fun g i ys hi => to_end hi)
theorem w24 (a : Y63) (h : cnt y63 a ≤ 1048576) : u24 a = some a := by
 unfold u24
 refine to_c (w59 _ (cnt_fst h)) ?_
 refine to_c (w60 _ (cnt_fst (cnt_snd h))) ?_
 refine to_c (w60 _ (cnt_snd (cnt_snd h))) ?_
 rfl
theorem e131 (a : List Int) (h : cnt (.sl (.int .i64)) a ≤ 1048576) : u131 a a = some true := by
 unfold u131
 have hl : a.length ≤ 9223372036854775807 := Nat.le_trans (cnt_len h) (by decide)
 exact eq_row hl (fun g i hi => eq_es (by simp) hi hl) (fun g i hi => if_neg (by simp; omega))
theorem e84 (a : Y131) (h : cnt y131 a ≤ 1048576) : u84 a a = some true := by
 unfold u84
 refine eq_c (e131 _ (cnt_fst h)) ?_
 refine eq_c (e131 _ (cnt_fst (cnt_snd h))) ?_
 refine eq_c (e131 _ (cnt_fst (cnt_snd (cnt_snd h)))) ?_
 refine eq_c (e131 _ (cnt_snd (cnt_snd (cnt_snd h)))) ?_
 rfl
theorem e40 (a : List Y131) (h : cnt (.sl y131) a ≤ 1048576) : u40 a a = some true := by
 unfold u40
 have hl : a.length ≤ 9223372036854775807 := Nat.le_trans (cnt_len h) (by decide)
 exact eq_row hl (fun g i hi => eq_el (e84 _ (cnt_el hi h)) hi hl) (fun g i hi => if_neg (by simp; omega))
theorem e130 (a : Y143) (h : cnt y143 a ≤ 1048576) : u130 a a = some true := by
 unfold u130
 refine eq_d rfl ?_
 first | refine eq_i ?_ | refine eq_b ?_
 first | refine eq_i ?_ | refine eq_b ?_
 rfl
theorem e83 (a : List Y143) (h : cnt (.sl y143) a ≤ 1048576) : u83 a a = some true := by
 unfold u83
 have hl : a.length ≤ 9223372036854775807 := Nat.le_trans (cnt_len h) (by decide)
 exact eq_row hl (fun g i hi => eq_el (e130 _ (cnt_el hi h)) hi hl) (fun g i hi => if_neg (by simp; omega))
theorem e82 (a : List ByteArray) (h : cnt (.sl .str) a ≤ 1048576) : u82 a a = some true := by
 unfold u82
 have hl : a.length ≤ 9223372036854775807 := Nat.le_trans (cnt_len h) (by decide)
 exact eq_row hl (fun g i hi => eq_es (by simp) hi hl) (fun g i hi => if_neg (by simp; omega))
theorem e129 (a : Y141) (h : cnt y141 a ≤ 1048576) : u129 a a = some true := by
 unfold u129
 refine eq_d rfl ?_
 first | refine eq_i ?_ | refine eq_b ?_
 refine eq_c (e131 _ (cnt_snd (cnt_snd h))) ?_
 rfl
theorem e81 (a : List Y141) (h : cnt (.sl y141) a ≤ 1048576) : u81 a a = some true := by
 unfold u81
 have hl : a.length ≤ 9223372036854775807 := Nat.le_trans (cnt_len h) (by decide)
 exact eq_row hl (fun g i hi => eq_el (e129 _ (cnt_el hi h)) hi hl) (fun g i hi => if_neg (by simp; omega))
theorem e39 (a : Y41) (h : cnt y41 a ≤ 1048576) : u39 a a = some true := by
 unfold u39
 refine eq_c (e81 _ (cnt_fst h)) ?_
 refine eq_c (e82 _ (cnt_fst (cnt_snd h))) ?_
 refine eq_c (e83 _ (cnt_snd (cnt_snd h))) ?_
 rfl
theorem e202 (a : Y96) (h : cnt y96 a ≤ 1048576) : u202 a a = some true := by
 unfold u202
 refine eq_c (e131 _ (cnt_fst h)) ?_
 refine eq_c (e131 _ (cnt_fst (cnt_snd h))) ?_
 refine eq_c (e131 _ (cnt_snd (cnt_snd h))) ?_
 rfl
theorem e185 (a : List Y96) (h : cnt (.sl y96) a ≤ 1048576) : u185 a a = some true := by
 unfold u185
 have hl : a.length ≤ 9223372036854775807 := Nat.le_trans (cnt_len h) (by decide)
 exact eq_row hl (fun g i hi => eq_el (e202 _ (cnt_el hi h)) hi hl) (fun g i hi => if_neg (by simp; omega))
theorem e171 (a : Y89) (h : cnt y89 a ≤ 1048576) : u171 a a = some true := by
 unfold u171
 first | refine eq_i ?_ | refine eq_b ?_
 first | refine eq_i ?_ | refine eq_b ?_
 first | refine eq_i ?_ | refine eq_b ?_
 first | refine eq_i ?_ | refine eq_b ?_
 refine eq_c (e185 _ (cnt_fst (cnt_snd (cnt_snd (cnt_snd (cnt_snd h)))))) ?_
 refine eq_c (e185 _ (cnt_snd (cnt_snd (cnt_snd (cnt_snd (cnt_snd h)))))) ?_
 rfl
theorem e154 (a : List Y89) (h : cnt (.sl y89) a ≤ 1048576) : u154 a a = some true := by
 unfold u154
 have hl : a.length ≤ 9223372036854775807 := Nat.le_trans (cnt_len h) (by decide)
 exact eq_row hl (fun g i hi => eq_el (e171 _ (cnt_el hi h)) hi hl) (fun g i hi => if_neg (by simp; omega))
theorem e170 (a : Y212) (h : cnt y212 a ≤ 1048576) : u170 a a = some true := by
 unfold u170
 refine eq_d rfl ?_
 first | refine eq_i ?_ | refine eq_b ?_
 first | refine eq_i ?_ | refine eq_b ?_
 refine eq_b' ?_
 rfl
theorem e153 (a : List Y212) (h : cnt (.sl y212) a ≤ 1048576) : u153 a a = some true := by
 unfold u153
 have hl : a.length ≤ 9223372036854775807 := Nat.le_trans (cnt_len h) (by decide)
 exact eq_row hl (fun g i hi => eq_el (e170 _ (cnt_el hi h)) hi hl) (fun g i hi => if_neg (by simp; omega))
theorem e128 (a : Y152) (h : cnt y152 a ≤ 1048576) : u128 a a = some true := by
 unfold u128
 refine eq_d rfl ?_
 first | refine eq_i ?_ | refine eq_b ?_
 refine eq_c (e153 _ (cnt_fst (cnt_snd (cnt_snd h)))) ?_
 refine eq_c (e154 _ (cnt_fst (cnt_snd (cnt_snd (cnt_snd h))))) ?_
 refine eq_c (e131 _ (cnt_fst (cnt_snd (cnt_snd (cnt_snd (cnt_snd h)))))) ?_
 first | refine eq_i ?_ | refine eq_b ?_
 first | refine eq_i ?_ | refine eq_b ?_
 rfl
theorem e80 (a : List Y152) (h : cnt (.sl y152) a ≤ 1048576) : u80 a a = some true := by
 unfold u80
 have hl : a.length ≤ 9223372036854775807 := Nat.le_trans (cnt_len h) (by decide)
 exact eq_row hl (fun g i hi => eq_el (e128 _ (cnt_el hi h)) hi hl) (fun g i hi => if_neg (by simp; omega))
theorem e38 (a : List Y152) (h : cnt (.sl y152) a ≤ 1048576) : u38 a a = some true := by
 unfold u38
 refine eq_c (e80 _ h) ?_
 rfl
theorem e12 (a : Y44) (h : cnt y44 a ≤ 1048576) : u12 a a = some true := by
 unfold u12
 refine eq_c (e38 _ (cnt_fst h)) ?_
 refine eq_c (e39 _ (cnt_fst (cnt_snd h))) ?_
 refine eq_c (e40 _ (cnt_snd (cnt_snd h))) ?_
 rfl
theorem w119 (a : List Int) (h : cnt (.sl (.int .i64)) a ≤ 1048576) : u119 a = some a := by
 unfold u119
 have hl : a.length ≤ 9223372036854775807 := Nat.le_trans (cnt_len h) (by decide)
 exact to_row (d := dflt (.int .i64)) (cnt_len h) (by decide) (fun g i ys hi hy => to_es hi hl hy) (fun g i ys hi => to_end hi)
theorem w77 (a : Y128) (h : cnt y128 a ≤ 1048576) : u77 a = some a := by
 unfold u77
 refine to_c (w119 _ (cnt_fst h)) ?_
 refine to_c (w119 _ (cnt_fst (cnt_snd h))) ?_
 refine to_c (w119 _ (cnt_fst (cnt_snd (cnt_snd h)))) ?_
 refine to_c (w119 _ (cnt_snd (cnt_snd (cnt_snd h)))) ?_
 rfl
theorem w34 (a : List Y128) (h : cnt (.sl y128) a ≤ 1048576) : u34 a = some a := by
 unfold u34
 have hl : a.length ≤ 9223372036854775807 := Nat.le_trans (cnt_len h) (by decide)
 exact to_row (d := dflt y128) (cnt_len h) (by decide) (fun g i ys hi hy => to_el (w77 _ (cnt_el hi h)) hi hl hy) (fun g i ys hi => to_end hi)
theorem w118 (a : Y191) (h : cnt y191 a ≤ 1048576) : u118 a = some a := by
 unfold u118
 rfl
theorem w76 (a : List Y191) (h : cnt (.sl y191) a ≤ 1048576) : u76 a = some a := by
 unfold u76
 have hl : a.length ≤ 9223372036854775807 := Nat.le_trans (cnt_len h) (by decide)
 rw [lt_eq]
 exact to_row (d := dflt y191) (cnt_len h) (by decide) (fun g i ys hi hy => to_el (w118 _ (cnt_el hi h)) hi hl hy) (fun g i ys hi => to_end hi)
theorem w75 (a : List ByteArray) (h : cnt (.sl .str) a ≤ 1048576) : u75 a = some a := by
 unfold u75
 have hl : a.length ≤ 9223372036854775807 := Nat.le_trans (cnt_len h) (by decide)
 exact to_row (d := dflt .str) (cnt_len h) (by decide) (fun g i ys hi hy => to_es hi hl hy) (fun g i ys hi => to_end hi)
theorem w117 (a : Y189) (h : cnt y189 a ≤ 1048576) : u117 a = some a := by
 unfold u117
 refine to_c (w119 _ (cnt_snd (cnt_snd h))) ?_
 rfl
theorem w74 (a : List Y189) (h : cnt (.sl y189) a ≤ 1048576) : u74 a = some a := by
 unfold u74
 have hl : a.length ≤ 9223372036854775807 := Nat.le_trans (cnt_len h) (by decide)
 rw [lt_eq]
 exact to_row (d := dflt y189) (cnt_len h) (by decide) (fun g i ys hi hy => to_el (w117 _ (cnt_el hi h)) hi hl hy) (fun g i ys hi => to_end hi)
theorem w33 (a : Y29) (h : cnt y29 a ≤ 1048576) : u33 a = some a := by
 unfold u33
 refine to_c (w74 _ (cnt_fst h)) ?_
 refine to_c (w75 _ (cnt_fst (cnt_snd h))) ?_
 refine to_c (w76 _ (cnt_snd (cnt_snd h))) ?_
 rfl
theorem w188 (a : Y258) (h : cnt y258 a ≤ 1048576) : u188 a = some a := by
 unfold u188
 refine to_c (w119 _ (cnt_fst h)) ?_
 refine to_c (w119 _ (cnt_fst (cnt_snd h))) ?_
 refine to_c (w119 _ (cnt_snd (cnt_snd h))) ?_
 rfl
theorem w175 (a : List Y258) (h : cnt (.sl y258) a ≤ 1048576) : u175 a = some a := by
 unfold u175
 have hl : a.length ≤ 9223372036854775807 := Nat.le_trans (cnt_len h) (by decide)
 exact to_row (d := dflt y258) (cnt_len h) (by decide) (fun g i ys hi hy => to_el (w188 _ (cnt_el hi h)) hi hl hy) (fun g i ys hi => to_end hi)
theorem w163 (a : Y236) (h : cnt y236 a ≤ 1048576) : u163 a = some a := by
 unfold u163
 refine to_c (w175 _ (cnt_fst (cnt_snd (cnt_snd (cnt_snd (cnt_snd h)))))) ?_
 refine to_c (w175 _ (cnt_snd (cnt_snd (cnt_snd (cnt_snd (cnt_snd h)))))) ?_
 rfl
theorem w144 (a : List Y236) (h : cnt (.sl y236) a ≤ 1048576) : u144 a = some a := by
 unfold u144
 have hl : a.length ≤ 9223372036854775807 := Nat.le_trans (cnt_len h) (by decide)
 rw [lt_eq]
 exact to_row (d := dflt y236) (cnt_len h) (by decide) (fun g i ys hi hy => to_el (w163 _ (cnt_el hi h)) hi hl hy) (fun g i ys hi => to_end hi)
theorem w162 (a : Y232) (h : cnt y232 a ≤ 1048576) : u162 a = some a := by
 unfold u162
 rfl
theorem w143 (a : List Y232) (h : cnt (.sl y232) a ≤ 1048576) : u143 a = some a := by
 unfold u143
 have hl : a.length ≤ 9223372036854775807 := Nat.le_trans (cnt_len h) (by decide)
 rw [lt_eq]
 exact to_row (d := dflt y232) (cnt_len h) (by decide) (fun g i ys hi hy => to_el (w162 _ (cnt_el hi h)) hi hl hy) (fun g i ys hi => to_end hi)
theorem w116 (a : Y187) (h : cnt y187 a ≤ 1048576) : u116 a = some a := by
 unfold u116
 refine to_c (w143 _ (cnt_fst (cnt_snd (cnt_snd h)))) ?_
 refine to_c (w144 _ (cnt_fst (cnt_snd (cnt_snd (cnt_snd h))))) ?_
 refine to_c (w119 _ (cnt_fst (cnt_snd (cnt_snd (cnt_snd (cnt_snd h)))))) ?_
 rfl
theorem w73 (a : List Y187) (h : cnt (.sl y187) a ≤ 1048576) : u73 a = some a := by
 unfold u73
 have hl : a.length ≤ 9223372036854775807 := Nat.le_trans (cnt_len h) (by decide)
 rw [lt_eq]
 exact to_row (d := dflt y187) (cnt_len h) (by decide) (fun g i ys hi hy => to_el (w116 _ (cnt_el hi h)) hi hl hy) (fun g i ys hi => to_end hi)
theorem w32 (a : List Y187) (h : cnt (.sl y187) a ≤ 1048576) : u32 a = some a := by
 unfold u32
 refine to_c (w73 _ h) ?_
 rfl
theorem w10 (a : Y32) (h : cnt y32 a ≤ 1048576) : u10 a = some a := by
 unfold u10
 refine to_c (w32 _ (cnt_fst h)) ?_
 refine to_c (w33 _ (cnt_fst (cnt_snd h))) ?_
 refine to_c (w34 _ (cnt_snd (cnt_snd h))) ?_
 rfl
theorem z57 (a : List Y109) (l : Int) (hw : wf (.sl y109) a) (h : 0 ≤ l) (m : l ≤ 9223372036854775807) : u57 a l = some (szN (cnt (.sl y109) a) l) := by
 unfold u57
 have e : cnt (.sl y109) a = a.length + 0 := cnt_flat (fun _ => rfl)
 rw [e]
 exact sz_s hw.1 h m fun H => sz_last H
theorem z56 (a : List Bool) (l : Int) (hw : wf (.sl .bool) a) (h : 0 ≤ l) (m : l ≤ 9223372036854775807) : u56 a l = some (szN (cnt (.sl .bool) a) l) := by
 unfold u56
 have e : cnt (.sl .bool) a = a.length + 0 := cnt_flat (fun _ => rfl)
 rw [e]
 exact sz_s hw.1 h m fun H => sz_last H
theorem z22 (a : Y63) (l : Int) (hw : wf y63 a) (h : 0 ≤ l) (m : l ≤ 9223372036854775807) : u22 a l = some (szN (cnt y63 a) l) := by
 unfold u22
 have e : cnt y63 a = cnt (.sl .bool) a.1 + (cnt (.sl y109) a.2.1 + (cnt (.sl y109) a.2.2 + 0)) := by
  first | rfl | (simp only [cnt_pr, cnt_int, cnt_bool, cnt_str] <;> omega)
 rw [e]
 refine sz_c (z56 _ _ hw.1 h m) (fun v0 h0 m0 => ?_) h
 have M0 := Int.le_trans m0 m
 refine sz_c (z57 _ _ hw.2.1 h0 M0) (fun v1 h1 m1 => ?_) h0
 have M1 := Int.le_trans m1 M0
 refine sz_c (z57 _ _ hw.2.2 h1 M1) (fun v2 h2 m2 => ?_) h1
 have M2 := Int.le_trans m2 M1
 exact sz_last h2
theorem z112 (a : List Int) (l : Int) (hw : wf (.sl (.int .i64)) a) (h : 0 ≤ l) (m : l ≤ 9223372036854775807) : u112 a l = some (szN (cnt (.sl (.int .i64)) a) l) := by
 unfold u112
 have e : cnt (.sl (.int .i64)) a = a.length + 0 := cnt_ints
 rw [e]
 exact sz_s hw.1 h m fun H => sz_last H
theorem z68 (a : Y128) (l : Int) (hw : wf y128 a) (h : 0 ≤ l) (m : l ≤ 9223372036854775807) : u68 a l = some (szN (cnt y128 a) l) := by
 unfold u68
 have e : cnt y128 a = cnt (.sl (.int .i64)) a.1 + (cnt (.sl (.int .i64)) a.2.1 + (cnt (.sl (.int .i64)) a.2.2.1 + (cnt (.sl (.int .i64)) a.2.2.2 + 0))) := by
  first | rfl | (simp only [cnt_pr, cnt_int, cnt_bool, cnt_str] <;> omega)
 rw [e]
 refine sz_c (z112 _ _ hw.1 h m) (fun v0 h0 m0 => ?_) h
 have M0 := Int.le_trans m0 m
 refine sz_c (z112 _ _ hw.2.1 h0 M0) (fun v1 h1 m1 => ?_) h0
 have M1 := Int.le_trans m1 M0
 refine sz_c (z112 _ _ hw.2.2.1 h1 M1) (fun v2 h2 m2 => ?_) h1
 have M2 := Int.le_trans m2 M1
 refine sz_c (z112 _ _ hw.2.2.2 h2 M2) (fun v3 h3 m3 => ?_) h2
 have M3 := Int.le_trans m3 M2
 exact sz_last h3
theorem z29 (a : List Y128) (l : Int) (hw : wf (.sl y128) a) (h : 0 ≤ l) (m : l ≤ 9223372036854775807) : u29 a l = some (szN (cnt (.sl y128) a) l) := by
 unfold u29
 rw [cnt_sl]
 refine sz_row (d := dflt y128) (c := cnt y128) hw.1 h m (fun g v i hi hv mv => ?_) (fun g v i hi => sz_end hi)
 exact sz_el (z68 _ _ (wf_el hi hw) hv mv) hi hw.1
theorem z111 (a : Y191) (l : Int) (hw : wf y191 a) (h : 0 ≤ l) (m : l ≤ 9223372036854775807) : u111 a l = some (szN (cnt y191 a) l) := by
 unfold u111
 have e : cnt y191 a = a.1.size + 0 := by
  first | rfl | (simp only [cnt_pr, cnt_int, cnt_bool, cnt_str] <;> omega)
 rw [e]
 refine sz_s hw.1 h m (fun h0 => ?_)
 have M0 : (l - (a.1.size : Int)) ≤ 9223372036854775807 := by omega
 exact sz_last h0
theorem z67 (a : List Y191) (l : Int) (hw : wf (.sl y191) a) (h : 0 ≤ l) (m : l ≤ 9223372036854775807) : u67 a l = some (szN (cnt (.sl y191) a) l) := by
 unfold u67
 rw [cnt_sl]
 refine sz_row (d := dflt y191) (c := cnt y191) hw.1 h m (fun g v i hi hv mv => ?_) (fun g v i hi => sz_end hi)
 exact sz_el (z111 _ _ (wf_el hi hw) hv mv) hi hw.1
theorem z66 (a : List ByteArray) (l : Int) (hw : wf (.sl .str) a) (h : 0 ≤ l) (m : l ≤ 9223372036854775807) : u66 a l = some (szN (cnt (.sl .str) a) l) := by
 unfold u66
 rw [cnt_sl]
 refine sz_row (d := dflt .str) (c := cnt .str) hw.1 h m (fun g v i hi hv mv => ?_) (fun g v i hi => sz_end hi)
 have hs := wf_el (d := dflt .str) hi hw
 rw [cnt_str]
 exact sz_es hi hw.1 hs hv mv
theorem z110 (a : Y189) (l : Int) (hw : wf y189 a) (h : 0 ≤ l) (m : l ≤ 9223372036854775807) : u110 a l = some (szN (cnt y189 a) l) := by
 unfold u110
 have e : cnt y189 a = a.1.size + (cnt (.sl (.int .i64)) a.2.2 + 0) := by
  first | rfl | (simp only [cnt_pr, cnt_int, cnt_bool, cnt_str] <;> omega)
 rw [e]
 refine sz_s hw.1 h m (fun h0 => ?_)
 have M0 : (l - (a.1.size : Int)) ≤ 9223372036854775807 := by omega
 refine sz_c (z112 _ _ hw.2.2 h0 M0) (fun v1 h1 m1 => ?_) h0
 have M1 := Int.le_trans m1 M0
 exact sz_last h1
theorem z65 (a : List Y189) (l : Int) (hw : wf (.sl y189) a) (h : 0 ≤ l) (m : l ≤ 9223372036854775807) : u65 a l = some (szN (cnt (.sl y189) a) l) := by
 unfold u65
 rw [cnt_sl]
 refine sz_row (d := dflt y189) (c := cnt y189) hw.1 h m (fun g v i hi hv mv => ?_) (fun g v i hi => sz_end hi)
 exact sz_el (z110 _ _ (wf_el hi hw) hv mv) hi hw.1
theorem z28 (a : Y29) (l : Int) (hw : wf y29 a) (h : 0 ≤ l) (m : l ≤ 9223372036854775807) : u28 a l = some (szN (cnt y29 a) l) := by
 unfold u28
 have e : cnt y29 a = cnt (.sl y189) a.1 + (cnt (.sl .str) a.2.1 + (cnt (.sl y191) a.2.2 + 0)) := by
  first | rfl | (simp only [cnt_pr, cnt_int, cnt_bool, cnt_str] <;> omega)
 rw [e]
 refine sz_c (z65 _ _ hw.1 h m) (fun v0 h0 m0 => ?_) h
 have M0 := Int.le_trans m0 m
 refine sz_c (z66 _ _ hw.2.1 h0 M0) (fun v1 h1 m1 => ?_) h0
 have M1 := Int.le_trans m1 M0
 refine sz_c (z67 _ _ hw.2.2 h1 M1) (fun v2 h2 m2 => ?_) h1
 have M2 := Int.le_trans m2 M1
 exact sz_last h2
theorem z186 (a : Y258) (l : Int) (hw : wf y258 a) (h : 0 ≤ l) (m : l ≤ 9223372036854775807) : u186 a l = some (szN (cnt y258 a) l) := by
 unfold u186
 have e : cnt y258 a = cnt (.sl (.int .i64)) a.1 + (cnt (.sl (.int .i64)) a.2.1 + (cnt (.sl (.int .i64)) a.2.2 + 0)) := by
  first | rfl | (simp only [cnt_pr, cnt_int, cnt_bool, cnt_str] <;> omega)
 rw [e]
 refine sz_c (z112 _ _ hw.1 h m) (fun v0 h0 m0 => ?_) h
 have M0 := Int.le_trans m0 m
 refine sz_c (z112 _ _ hw.2.1 h0 M0) (fun v1 h1 m1 => ?_) h0
 have M1 := Int.le_trans m1 M0
 refine sz_c (z112 _ _ hw.2.2 h1 M1) (fun v2 h2 m2 => ?_) h1
 have M2 := Int.le_trans m2 M1
 exact sz_last h2
theorem z173 (a : List Y258) (l : Int) (hw : wf (.sl y258) a) (h : 0 ≤ l) (m : l ≤ 9223372036854775807) : u173 a l = some (szN (cnt (.sl y258) a) l) := by
 unfold u173
 rw [cnt_sl]
 refine sz_row (d := dflt y258) (c := cnt y258) hw.1 h m (fun g v i hi hv mv => ?_) (fun g v i hi => sz_end hi)
 exact sz_el (z186 _ _ (wf_el hi hw) hv mv) hi hw.1
theorem z158 (a : Y236) (l : Int) (hw : wf y236 a) (h : 0 ≤ l) (m : l ≤ 9223372036854775807) : u158 a l = some (szN (cnt y236 a) l) := by
 unfold u158
 have e : cnt y236 a = cnt (.sl y258) a.2.2.2.2.1 + (cnt (.sl y258) a.2.2.2.2.2 + 0) := by
  first | rfl | (simp only [cnt_pr, cnt_int, cnt_bool, cnt_str] <;> omega)
 rw [e]
 refine sz_c (z173 _ _ hw.2.2.2.2.1 h m) (fun v0 h0 m0 => ?_) h
 have M0 := Int.le_trans m0 m
 refine sz_c (z173 _ _ hw.2.2.2.2.2 h0 M0) (fun v1 h1 m1 => ?_) h0
 have M1 := Int.le_trans m1 M0
 exact sz_last h1
theorem z140 (a : List Y236) (l : Int) (hw : wf (.sl y236) a) (h : 0 ≤ l) (m : l ≤ 9223372036854775807) : u140 a l = some (szN (cnt (.sl y236) a) l) := by
 unfold u140
 rw [cnt_sl]
 refine sz_row (d := dflt y236) (c := cnt y236) hw.1 h m (fun g v i hi hv mv => ?_) (fun g v i hi => sz_end hi)
 exact sz_el (z158 _ _ (wf_el hi hw) hv mv) hi hw.1
theorem z157 (a : Y232) (l : Int) (hw : wf y232 a) (h : 0 ≤ l) (m : l ≤ 9223372036854775807) : u157 a l = some (szN (cnt y232 a) l) := by
 unfold u157
 have e : cnt y232 a = a.1.size + 0 := by
  first | rfl | (simp only [cnt_pr, cnt_int, cnt_bool, cnt_str] <;> omega)
 rw [e]
 refine sz_s hw.1 h m (fun h0 => ?_)
 have M0 : (l - (a.1.size : Int)) ≤ 9223372036854775807 := by omega
 exact sz_last h0
theorem z139 (a : List Y232) (l : Int) (hw : wf (.sl y232) a) (h : 0 ≤ l) (m : l ≤ 9223372036854775807) : u139 a l = some (szN (cnt (.sl y232) a) l) := by
 unfold u139
 rw [cnt_sl]
 refine sz_row (d := dflt y232) (c := cnt y232) hw.1 h m (fun g v i hi hv mv => ?_) (fun g v i hi => sz_end hi)
 exact sz_el (z157 _ _ (wf_el hi hw) hv mv) hi hw.1
theorem z109 (a : Y187) (l : Int) (hw : wf y187 a) (h : 0 ≤ l) (m : l ≤ 9223372036854775807) : u109 a l = some (szN (cnt y187 a) l) := by
 unfold u109
 have e : cnt y187 a = a.1.size + (cnt (.sl y232) a.2.2.1 + (cnt (.sl y236) a.2.2.2.1 + (cnt (.sl (.int .i64)) a.2.2.2.2.1 + 0))) := by
  first | rfl | (simp only [cnt_pr, cnt_int, cnt_bool, cnt_str] <;> omega)
 rw [e]
 refine sz_s hw.1 h m (fun h0 => ?_)
 have M0 : (l - (a.1.size : Int)) ≤ 9223372036854775807 := by omega
 refine sz_c (z139 _ _ hw.2.2.1 h0 M0) (fun v1 h1 m1 => ?_) h0
 have M1 := Int.le_trans m1 M0
 refine sz_c (z140 _ _ hw.2.2.2.1 h1 M1) (fun v2 h2 m2 => ?_) h1
 have M2 := Int.le_trans m2 M1
 refine sz_c (z112 _ _ hw.2.2.2.2.1 h2 M2) (fun v3 h3 m3 => ?_) h2
 have M3 := Int.le_trans m3 M2
 exact sz_last h3
theorem z64 (a : List Y187) (l : Int) (hw : wf (.sl y187) a) (h : 0 ≤ l) (m : l ≤ 9223372036854775807) : u64 a l = some (szN (cnt (.sl y187) a) l) := by
 unfold u64
 rw [cnt_sl]
 refine sz_row (d := dflt y187) (c := cnt y187) hw.1 h m (fun g v i hi hv mv => ?_) (fun g v i hi => sz_end hi)
 exact sz_el (z109 _ _ (wf_el hi hw) hv mv) hi hw.1
theorem z27 (a : List Y187) (l : Int) (hw : wf (.sl y187) a) (h : 0 ≤ l) (m : l ≤ 9223372036854775807) : u27 a l = some (szN (cnt (.sl y187) a) l) := by
 unfold u27
 have e : cnt (.sl y187) a = cnt (.sl y187) a + 0 := by
  first | rfl | (simp only [cnt_pr, cnt_int, cnt_bool, cnt_str] <;> omega)
 rw [e]
 refine sz_c (z64 _ _ hw h m) (fun v0 h0 m0 => ?_) h
 have M0 := Int.le_trans m0 m
 exact sz_last h0
theorem z8 (a : Y32) (l : Int) (hw : wf y32 a) (h : 0 ≤ l) (m : l ≤ 9223372036854775807) : u8 a l = some (szN (cnt y32 a) l) := by
 unfold u8
 have e : cnt y32 a = cnt (.sl y187) a.1 + (cnt y29 a.2.1 + (cnt (.sl y128) a.2.2 + 0)) := by
  first | rfl | (simp only [cnt_pr, cnt_int, cnt_bool, cnt_str] <;> omega)
 rw [e]
 refine sz_c (z27 _ _ hw.1 h m) (fun v0 h0 m0 => ?_) h
 have M0 := Int.le_trans m0 m
 refine sz_c (z28 _ _ hw.2.1 h0 M0) (fun v1 h1 m1 => ?_) h0
 have M1 := Int.le_trans m1 M0
 refine sz_c (z29 _ _ hw.2.2 h1 M1) (fun v2 h2 m2 => ?_) h1
 have M2 := Int.le_trans m2 M1
 exact sz_last h2
end Go.Proofs.YtippccamjlfafaaGreatDoor

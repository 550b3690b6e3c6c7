/- The types of this seat's program read as those data. -/
import Derived.Test.YtahnpokehdlajaaDoorFacts
import Derived.Test.YtahnpokehdlajaaDoorData
namespace Go.Proofs.YtahnpokehdlajaaDoor
open Go Go.Proofs Go.Proofs.Sv Go.RowKit

instance : IntT Tryd.prog 2 := ⟨by kernel_rfl⟩
instance : IntT Tryd.prog 3 := ⟨by kernel_rfl⟩
instance : ByteT Tryd.prog 5 := ⟨by kernel_rfl⟩
instance : ByteT Tryd.prog 6 := ⟨by kernel_rfl⟩
instance : IntT Tryd.prog 135 := ⟨by kernel_rfl⟩
instance : ByteT Tryd.prog 178 := ⟨by kernel_rfl⟩
instance : ByteT Tryd.prog 179 := ⟨by kernel_rfl⟩
instance : Opens Tryd.prog 35 TableD where
  op := by
    intro H enc w sp hl fuel cs x h
    obtain ⟨hlen, hf⟩ := opens_fields Tryd.underlying35 h
    have e0 : Tryd.prog.cellsOf 35 = 3 := by kernel_rfl
    rw [e0] at hlen
    clear h
    obtain ⟨v0, r0, rfl, len0⟩ := len_succ hlen
    obtain ⟨v1, r1, rfl, len1⟩ := len_succ len0
    obtain ⟨v2, r2, rfl, len2⟩ := len_succ len1
    obtain rfl := len_zero len2
    have s33 : Tryd.prog.cellsOf 33 = 1 := by kernel_rfl
    obtain ⟨n0, y0, g0⟩ := hf 0 _ rfl
    have k0 : DataW.trod enc Tryd.prog w 0 sp hl n0 33 (([v0, v1, v2].drop 0).take (Tryd.prog.cellsOf 33)) = some y0 := g0
    rw [s33] at k0
    obtain ⟨x0, q0⟩ := Opens.op (α := (List Int)) (show DataW.trod enc Tryd.prog w 0 sp hl n0 33 [v0] = some y0 from k0)
    obtain ⟨n1, y1, g1⟩ := hf 1 _ rfl
    have k1 : DataW.trod enc Tryd.prog w 0 sp hl n1 33 (([v0, v1, v2].drop 1).take (Tryd.prog.cellsOf 33)) = some y1 := g1
    rw [s33] at k1
    obtain ⟨x1, q1⟩ := Opens.op (α := (List Int)) (show DataW.trod enc Tryd.prog w 0 sp hl n1 33 [v1] = some y1 from k1)
    obtain ⟨n2, y2, g2⟩ := hf 2 _ rfl
    have k2 : DataW.trod enc Tryd.prog w 0 sp hl n2 33 (([v0, v1, v2].drop 2).take (Tryd.prog.cellsOf 33)) = some y2 := g2
    rw [s33] at k2
    obtain ⟨x2, q2⟩ := Opens.op (α := (List Int)) (show DataW.trod enc Tryd.prog w 0 sp hl n2 33 [v2] = some y2 from k2)
    exact ⟨⟨x0, x1, x2⟩, [v0], [v1], [v2], rfl, q0, q1, q2⟩
instance : Opens Tryd.prog 38 TableD where
  op := by
    intro H enc w sp hl fuel cs x h
    obtain ⟨hlen, hf⟩ := opens_fields Tryd.underlying38 h
    have e0 : Tryd.prog.cellsOf 38 = 3 := by kernel_rfl
    rw [e0] at hlen
    clear h
    obtain ⟨v0, r0, rfl, len0⟩ := len_succ hlen
    obtain ⟨v1, r1, rfl, len1⟩ := len_succ len0
    obtain ⟨v2, r2, rfl, len2⟩ := len_succ len1
    obtain rfl := len_zero len2
    have s33 : Tryd.prog.cellsOf 33 = 1 := by kernel_rfl
    obtain ⟨n0, y0, g0⟩ := hf 0 _ rfl
    have k0 : DataW.trod enc Tryd.prog w 0 sp hl n0 33 (([v0, v1, v2].drop 0).take (Tryd.prog.cellsOf 33)) = some y0 := g0
    rw [s33] at k0
    obtain ⟨x0, q0⟩ := Opens.op (α := (List Int)) (show DataW.trod enc Tryd.prog w 0 sp hl n0 33 [v0] = some y0 from k0)
    obtain ⟨n1, y1, g1⟩ := hf 1 _ rfl
    have k1 : DataW.trod enc Tryd.prog w 0 sp hl n1 33 (([v0, v1, v2].drop 1).take (Tryd.prog.cellsOf 33)) = some y1 := g1
    rw [s33] at k1
    obtain ⟨x1, q1⟩ := Opens.op (α := (List Int)) (show DataW.trod enc Tryd.prog w 0 sp hl n1 33 [v1] = some y1 from k1)
    obtain ⟨n2, y2, g2⟩ := hf 2 _ rfl
    have k2 : DataW.trod enc Tryd.prog w 0 sp hl n2 33 (([v0, v1, v2].drop 2).take (Tryd.prog.cellsOf 33)) = some y2 := g2
    rw [s33] at k2
    obtain ⟨x2, q2⟩ := Opens.op (α := (List Int)) (show DataW.trod enc Tryd.prog w 0 sp hl n2 33 [v2] = some y2 from k2)
    exact ⟨⟨x0, x1, x2⟩, [v0], [v1], [v2], rfl, q0, q1, q2⟩
instance : Opens Tryd.prog 43 WireD where
  op := by
    intro H enc w sp hl fuel cs x h
    obtain ⟨hlen, hf⟩ := opens_fields Tryd.underlying43 h
    have e0 : Tryd.prog.cellsOf 43 = 4 := by kernel_rfl
    rw [e0] at hlen
    clear h
    obtain ⟨v0, r0, rfl, len0⟩ := len_succ hlen
    obtain ⟨v1, r1, rfl, len1⟩ := len_succ len0
    obtain ⟨v2, r2, rfl, len2⟩ := len_succ len1
    obtain ⟨v3, r3, rfl, len3⟩ := len_succ len2
    obtain rfl := len_zero len3
    have s33 : Tryd.prog.cellsOf 33 = 1 := by kernel_rfl
    obtain ⟨n0, y0, g0⟩ := hf 0 _ rfl
    have k0 : DataW.trod enc Tryd.prog w 0 sp hl n0 33 (([v0, v1, v2, v3].drop 0).take (Tryd.prog.cellsOf 33)) = some y0 := g0
    rw [s33] at k0
    obtain ⟨x0, q0⟩ := Opens.op (α := (List Int)) (show DataW.trod enc Tryd.prog w 0 sp hl n0 33 [v0] = some y0 from k0)
    obtain ⟨n1, y1, g1⟩ := hf 1 _ rfl
    have k1 : DataW.trod enc Tryd.prog w 0 sp hl n1 33 (([v0, v1, v2, v3].drop 1).take (Tryd.prog.cellsOf 33)) = some y1 := g1
    rw [s33] at k1
    obtain ⟨x1, q1⟩ := Opens.op (α := (List Int)) (show DataW.trod enc Tryd.prog w 0 sp hl n1 33 [v1] = some y1 from k1)
    obtain ⟨n2, y2, g2⟩ := hf 2 _ rfl
    have k2 : DataW.trod enc Tryd.prog w 0 sp hl n2 33 (([v0, v1, v2, v3].drop 2).take (Tryd.prog.cellsOf 33)) = some y2 := g2
    rw [s33] at k2
    obtain ⟨x2, q2⟩ := Opens.op (α := (List Int)) (show DataW.trod enc Tryd.prog w 0 sp hl n2 33 [v2] = some y2 from k2)
    obtain ⟨n3, y3, g3⟩ := hf 3 _ rfl
    have k3 : DataW.trod enc Tryd.prog w 0 sp hl n3 33 (([v0, v1, v2, v3].drop 3).take (Tryd.prog.cellsOf 33)) = some y3 := g3
    rw [s33] at k3
    obtain ⟨x3, q3⟩ := Opens.op (α := (List Int)) (show DataW.trod enc Tryd.prog w 0 sp hl n3 33 [v3] = some y3 from k3)
    exact ⟨⟨x0, x1, x2, x3⟩, [v0], [v1], [v2], [v3], rfl, q0, q1, q2, q3⟩
instance : Opens Tryd.prog 46 WireD where
  op := by
    intro H enc w sp hl fuel cs x h
    obtain ⟨hlen, hf⟩ := opens_fields Tryd.underlying46 h
    have e0 : Tryd.prog.cellsOf 46 = 4 := by kernel_rfl
    rw [e0] at hlen
    clear h
    obtain ⟨v0, r0, rfl, len0⟩ := len_succ hlen
    obtain ⟨v1, r1, rfl, len1⟩ := len_succ len0
    obtain ⟨v2, r2, rfl, len2⟩ := len_succ len1
    obtain ⟨v3, r3, rfl, len3⟩ := len_succ len2
    obtain rfl := len_zero len3
    have s33 : Tryd.prog.cellsOf 33 = 1 := by kernel_rfl
    obtain ⟨n0, y0, g0⟩ := hf 0 _ rfl
    have k0 : DataW.trod enc Tryd.prog w 0 sp hl n0 33 (([v0, v1, v2, v3].drop 0).take (Tryd.prog.cellsOf 33)) = some y0 := g0
    rw [s33] at k0
    obtain ⟨x0, q0⟩ := Opens.op (α := (List Int)) (show DataW.trod enc Tryd.prog w 0 sp hl n0 33 [v0] = some y0 from k0)
    obtain ⟨n1, y1, g1⟩ := hf 1 _ rfl
    have k1 : DataW.trod enc Tryd.prog w 0 sp hl n1 33 (([v0, v1, v2, v3].drop 1).take (Tryd.prog.cellsOf 33)) = some y1 := g1
    rw [s33] at k1
    obtain ⟨x1, q1⟩ := Opens.op (α := (List Int)) (show DataW.trod enc Tryd.prog w 0 sp hl n1 33 [v1] = some y1 from k1)
    obtain ⟨n2, y2, g2⟩ := hf 2 _ rfl
    have k2 : DataW.trod enc Tryd.prog w 0 sp hl n2 33 (([v0, v1, v2, v3].drop 2).take (Tryd.prog.cellsOf 33)) = some y2 := g2
    rw [s33] at k2
    obtain ⟨x2, q2⟩ := Opens.op (α := (List Int)) (show DataW.trod enc Tryd.prog w 0 sp hl n2 33 [v2] = some y2 from k2)
    obtain ⟨n3, y3, g3⟩ := hf 3 _ rfl
    have k3 : DataW.trod enc Tryd.prog w 0 sp hl n3 33 (([v0, v1, v2, v3].drop 3).take (Tryd.prog.cellsOf 33)) = some y3 := g3
    rw [s33] at k3
    obtain ⟨x3, q3⟩ := Opens.op (α := (List Int)) (show DataW.trod enc Tryd.prog w 0 sp hl n3 33 [v3] = some y3 from k3)
    exact ⟨⟨x0, x1, x2, x3⟩, [v0], [v1], [v2], [v3], rfl, q0, q1, q2, q3⟩
instance : Opens Tryd.prog 23 CornerD where
  op := by
    intro H enc w sp hl fuel cs x h
    obtain ⟨hlen, hf⟩ := opens_fields Tryd.underlying23 h
    have e0 : Tryd.prog.cellsOf 23 = 5 := by kernel_rfl
    rw [e0] at hlen
    clear h
    obtain ⟨v0, r0, rfl, len0⟩ := len_succ hlen
    obtain ⟨v1, r1, rfl, len1⟩ := len_succ len0
    obtain ⟨v2, r2, rfl, len2⟩ := len_succ len1
    obtain ⟨v3, r3, rfl, len3⟩ := len_succ len2
    obtain ⟨v4, r4, rfl, len4⟩ := len_succ len3
    obtain rfl := len_zero len4
    have s2 : Tryd.prog.cellsOf 2 = 1 := by kernel_rfl
    have s9 : Tryd.prog.cellsOf 9 = 1 := by kernel_rfl
    obtain ⟨n0, y0, g0⟩ := hf 0 _ rfl
    have k0 : DataW.trod enc Tryd.prog w 0 sp hl n0 9 (([v0, v1, v2, v3, v4].drop 0).take (Tryd.prog.cellsOf 9)) = some y0 := g0
    rw [s9] at k0
    obtain ⟨x0, q0⟩ := Opens.op (α := ByteArray) (show DataW.trod enc Tryd.prog w 0 sp hl n0 9 [v0] = some y0 from k0)
    obtain ⟨n1, y1, g1⟩ := hf 1 _ rfl
    have k1 : DataW.trod enc Tryd.prog w 0 sp hl n1 2 (([v0, v1, v2, v3, v4].drop 1).take (Tryd.prog.cellsOf 2)) = some y1 := g1
    rw [s2] at k1
    obtain ⟨x1, q1⟩ := Opens.op (α := Int) (show DataW.trod enc Tryd.prog w 0 sp hl n1 2 [v1] = some y1 from k1)
    obtain ⟨n2, y2, g2⟩ := hf 2 _ rfl
    have k2 : DataW.trod enc Tryd.prog w 0 sp hl n2 2 (([v0, v1, v2, v3, v4].drop 2).take (Tryd.prog.cellsOf 2)) = some y2 := g2
    rw [s2] at k2
    obtain ⟨x2, q2⟩ := Opens.op (α := Int) (show DataW.trod enc Tryd.prog w 0 sp hl n2 2 [v2] = some y2 from k2)
    obtain ⟨n3, y3, g3⟩ := hf 3 _ rfl
    have k3 : DataW.trod enc Tryd.prog w 0 sp hl n3 2 (([v0, v1, v2, v3, v4].drop 3).take (Tryd.prog.cellsOf 2)) = some y3 := g3
    rw [s2] at k3
    obtain ⟨x3, q3⟩ := Opens.op (α := Int) (show DataW.trod enc Tryd.prog w 0 sp hl n3 2 [v3] = some y3 from k3)
    obtain ⟨n4, y4, g4⟩ := hf 4 _ rfl
    have k4 : DataW.trod enc Tryd.prog w 0 sp hl n4 2 (([v0, v1, v2, v3, v4].drop 4).take (Tryd.prog.cellsOf 2)) = some y4 := g4
    rw [s2] at k4
    obtain ⟨x4, q4⟩ := Opens.op (α := Int) (show DataW.trod enc Tryd.prog w 0 sp hl n4 2 [v4] = some y4 from k4)
    exact ⟨⟨x0, x1, x2, x3, x4⟩, [v0], [v1], [v2], [v3], [v4], rfl, q0, q1, q2, q3, q4⟩
instance : Opens Tryd.prog 28 CornerD where
  op := by
    intro H enc w sp hl fuel cs x h
    obtain ⟨hlen, hf⟩ := opens_fields Tryd.underlying28 h
    have e0 : Tryd.prog.cellsOf 28 = 5 := by kernel_rfl
    rw [e0] at hlen
    clear h
    obtain ⟨v0, r0, rfl, len0⟩ := len_succ hlen
    obtain ⟨v1, r1, rfl, len1⟩ := len_succ len0
    obtain ⟨v2, r2, rfl, len2⟩ := len_succ len1
    obtain ⟨v3, r3, rfl, len3⟩ := len_succ len2
    obtain ⟨v4, r4, rfl, len4⟩ := len_succ len3
    obtain rfl := len_zero len4
    have s2 : Tryd.prog.cellsOf 2 = 1 := by kernel_rfl
    have s9 : Tryd.prog.cellsOf 9 = 1 := by kernel_rfl
    obtain ⟨n0, y0, g0⟩ := hf 0 _ rfl
    have k0 : DataW.trod enc Tryd.prog w 0 sp hl n0 9 (([v0, v1, v2, v3, v4].drop 0).take (Tryd.prog.cellsOf 9)) = some y0 := g0
    rw [s9] at k0
    obtain ⟨x0, q0⟩ := Opens.op (α := ByteArray) (show DataW.trod enc Tryd.prog w 0 sp hl n0 9 [v0] = some y0 from k0)
    obtain ⟨n1, y1, g1⟩ := hf 1 _ rfl
    have k1 : DataW.trod enc Tryd.prog w 0 sp hl n1 2 (([v0, v1, v2, v3, v4].drop 1).take (Tryd.prog.cellsOf 2)) = some y1 := g1
    rw [s2] at k1
    obtain ⟨x1, q1⟩ := Opens.op (α := Int) (show DataW.trod enc Tryd.prog w 0 sp hl n1 2 [v1] = some y1 from k1)
    obtain ⟨n2, y2, g2⟩ := hf 2 _ rfl
    have k2 : DataW.trod enc Tryd.prog w 0 sp hl n2 2 (([v0, v1, v2, v3, v4].drop 2).take (Tryd.prog.cellsOf 2)) = some y2 := g2
    rw [s2] at k2
    obtain ⟨x2, q2⟩ := Opens.op (α := Int) (show DataW.trod enc Tryd.prog w 0 sp hl n2 2 [v2] = some y2 from k2)
    obtain ⟨n3, y3, g3⟩ := hf 3 _ rfl
    have k3 : DataW.trod enc Tryd.prog w 0 sp hl n3 2 (([v0, v1, v2, v3, v4].drop 3).take (Tryd.prog.cellsOf 2)) = some y3 := g3
    rw [s2] at k3
    obtain ⟨x3, q3⟩ := Opens.op (α := Int) (show DataW.trod enc Tryd.prog w 0 sp hl n3 2 [v3] = some y3 from k3)
    obtain ⟨n4, y4, g4⟩ := hf 4 _ rfl
    have k4 : DataW.trod enc Tryd.prog w 0 sp hl n4 2 (([v0, v1, v2, v3, v4].drop 4).take (Tryd.prog.cellsOf 2)) = some y4 := g4
    rw [s2] at k4
    obtain ⟨x4, q4⟩ := Opens.op (α := Int) (show DataW.trod enc Tryd.prog w 0 sp hl n4 2 [v4] = some y4 from k4)
    exact ⟨⟨x0, x1, x2, x3, x4⟩, [v0], [v1], [v2], [v3], [v4], rfl, q0, q1, q2, q3, q4⟩
end Go.Proofs.YtahnpokehdlajaaDoor

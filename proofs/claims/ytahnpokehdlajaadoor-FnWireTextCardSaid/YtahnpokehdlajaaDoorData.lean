/- The data of the program that these texts speak of, and how each lies in memory. -/
import Derived.Test.YtahnpokehdlajaaDoorBase7
namespace Go.Proofs.Sv
open Go Go.RowKit

structure TableD where
  slews : (List Int)
  loads : (List Int)
  values : (List Int)
instance : Rep TableD where
  sz := 3
  pos := by decide
  rep lo hi w cs x := ∃ c0 c1 c2 : List Value, cs = c0 ++ (c1 ++ (c2)) ∧ Rep.rep lo hi w c0 x.slews ∧ Rep.rep lo hi w c1 x.loads ∧ Rep.rep lo hi w c2 x.values
  len := by
    rintro lo hi w cs x ⟨c0, c1, c2, rfl, h0, h1, h2⟩
    simp only [List.length_append, Rep.len h0, Rep.len h1, Rep.len h2]; rfl
  same := by
    rintro lo hi w w' cs x ⟨c0, c1, c2, rfl, h0, h1, h2⟩ k
    exact ⟨c0, c1, c2, rfl, Rep.same h0 k, Rep.same h1 k, Rep.same h2 k⟩
  wide := by
    rintro lo hi lo' hi' w cs x ⟨c0, c1, c2, rfl, h0, h1, h2⟩ a b
    exact ⟨c0, c1, c2, rfl, Rep.wide h0 a b, Rep.wide h1 a b, Rep.wide h2 a b⟩
structure WireD where
  parent : (List Int)
  res : (List Int)
  cap : (List Int)
  sink : (List Int)
instance : Rep WireD where
  sz := 4
  pos := by decide
  rep lo hi w cs x := ∃ c0 c1 c2 c3 : List Value, cs = c0 ++ (c1 ++ (c2 ++ (c3))) ∧ Rep.rep lo hi w c0 x.parent ∧ Rep.rep lo hi w c1 x.res ∧ Rep.rep lo hi w c2 x.cap ∧ Rep.rep lo hi w c3 x.sink
  len := by
    rintro lo hi w cs x ⟨c0, c1, c2, c3, rfl, h0, h1, h2, h3⟩
    simp only [List.length_append, Rep.len h0, Rep.len h1, Rep.len h2, Rep.len h3]; rfl
  same := by
    rintro lo hi w w' cs x ⟨c0, c1, c2, c3, rfl, h0, h1, h2, h3⟩ k
    exact ⟨c0, c1, c2, c3, rfl, Rep.same h0 k, Rep.same h1 k, Rep.same h2 k, Rep.same h3 k⟩
  wide := by
    rintro lo hi lo' hi' w cs x ⟨c0, c1, c2, c3, rfl, h0, h1, h2, h3⟩ a b
    exact ⟨c0, c1, c2, c3, rfl, Rep.wide h0 a b, Rep.wide h1 a b, Rep.wide h2 a b, Rep.wide h3 a b⟩
structure CornerD where
  name : ByteArray
  cellEarly : Int
  cellLate : Int
  wireEarly : Int
  wireLate : Int
instance : Rep CornerD where
  sz := 5
  pos := by decide
  rep lo hi w cs x := ∃ c0 c1 c2 c3 c4 : List Value, cs = c0 ++ (c1 ++ (c2 ++ (c3 ++ (c4)))) ∧ Rep.rep lo hi w c0 x.name ∧ Rep.rep lo hi w c1 x.cellEarly ∧ Rep.rep lo hi w c2 x.cellLate ∧ Rep.rep lo hi w c3 x.wireEarly ∧ Rep.rep lo hi w c4 x.wireLate
  len := by
    rintro lo hi w cs x ⟨c0, c1, c2, c3, c4, rfl, h0, h1, h2, h3, h4⟩
    simp only [List.length_append, Rep.len h0, Rep.len h1, Rep.len h2, Rep.len h3, Rep.len h4]; rfl
  same := by
    rintro lo hi w w' cs x ⟨c0, c1, c2, c3, c4, rfl, h0, h1, h2, h3, h4⟩ k
    exact ⟨c0, c1, c2, c3, c4, rfl, Rep.same h0 k, Rep.same h1 k, Rep.same h2 k, Rep.same h3 k, Rep.same h4 k⟩
  wide := by
    rintro lo hi lo' hi' w cs x ⟨c0, c1, c2, c3, c4, rfl, h0, h1, h2, h3, h4⟩ a b
    exact ⟨c0, c1, c2, c3, c4, rfl, Rep.wide h0 a b, Rep.wide h1 a b, Rep.wide h2 a b, Rep.wide h3 a b, Rep.wide h4 a b⟩
end Go.Proofs.Sv

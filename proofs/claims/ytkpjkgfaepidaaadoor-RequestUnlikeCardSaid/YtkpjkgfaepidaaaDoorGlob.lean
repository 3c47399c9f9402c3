-- how many numbers each op has: the table that the program lays ahead of all calls, as its cells are read
import Derived.WalkKit
import Derived.Below
import Derived.OwnWalk
namespace Go.Proofs.YtkpjkgfaepidaaaDoor.Glob
open Go.RowKit
def gcount (x : Int) : Int := ([0, 0, 1, 0, 0, 2, 3, 3, 2, 2, 2, 2, 2, 1, 1, 2, 1] : List Int).getD x.toNat 0
/-- The table's cells, in this world. -/
def GG (w : World) : Prop := 0 < w.heap.size ∧ ∀ i, i < 17 → w.cell? ⟨0, i, none⟩ = some (.int .i64 (gcount (i : Int)))
theorem GG.below {w w1 : World} (h : GG w) (hb : Below w.heap.size w w1) : GG w1 := by
  have h0 : w1.heap[0]? = w.heap[0]? := hb.block 0 h.1
  refine ⟨Nat.lt_of_lt_of_le h.1 hb.size, fun i hi => ?_⟩
  have := h.2 i hi
  unfold World.cell? at this ⊢
  rw [h0]; exact this
theorem GG.at {w : World} (h : GG w) (x : Int) (h0 : 0 ≤ x) (h1 : x < 17) : w.cell? ⟨0, x.toNat, none⟩ = some (.int .i64 (gcount x)) := by
  have := h.2 x.toNat (by omega)
  rw [Int.toNat_of_nonneg h0] at this
  exact this
theorem gcount_range (x : Int) : 0 ≤ gcount x ∧ gcount x ≤ 3 := by
  unfold gcount
  generalize x.toNat = n
  by_cases h : n < 17
  · have : ∀ n : Fin 17, 0 ≤ ([0, 0, 1, 0, 0, 2, 3, 3, 2, 2, 2, 2, 2, 1, 1, 2, 1] : List Int).getD n.val 0 ∧ ([0, 0, 1, 0, 0, 2, 3, 3, 2, 2, 2, 2, 2, 1, 1, 2, 1] : List Int).getD n.val 0 ≤ 3 := by decide
    exact this ⟨n, h⟩
  · rw [List.getD_eq_getElem?_getD, List.getElem?_eq_none (by simp; omega)]
    decide
end Go.Proofs.YtkpjkgfaepidaaaDoor.Glob

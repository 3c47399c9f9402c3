/- What the rows' premise on request.counts gives: the table's cells as the walks read them; and the heap that the door's own run leaves meets it. No condition beyond the premise itself. -/
import Derived.Test.YtkpjkgfaepidaaaDoorRows
import Derived.Test.YtkpjkgfaepidaaaDoorGlob
import Derived.ProofKit
import Derived.LaidMore
import Derived.OpenShut
import Derived.MakeChecks
import Derived.ChangeArms
import Derived.KernelRfl
namespace Go.Proofs.YtkpjkgfaepidaaaDoor.Laid
open Go.ChangeShapes Go.WideShapes Go.ChangeAt Go.RowKit Go.Proofs.YtkpjkgfaepidaaaDoor.Glob
theorem gC : Tryd.prog.globalNamed "dowser/request.counts" = some 0 := by kernel_rfl
theorem tC : (Tryd.prog.globals[0]?).map (·.type) = some 70 := by kernel_rfl
def laidL : List (String × DataW Unit) := [("dowser/request.counts", Rows.laid_dowser_request_counts)]
/-- The door's own heap meets the condition. -/
theorem door_met (os : Os) (args : Array Value) : laidMetH Tryd.prog laidL ((World.doorLaid Tryd.prog 400 os).forCall (fun _ _ => 0) ⟨#[], args, []⟩).memory :=
  laidMetH_of_parts3 (fuel := 8) (laidMet_of_run' 8 (by kernel_rfl) (by kernel_rfl)) (by kernel_rfl) (by kernel_rfl)
def vals : List Int := [0, 0, 1, 0, 0, 2, 3, 3, 2, 2, 2, 2, 2, 1, 1, 2, 1]
theorem vals_is : Rows.laid_dowser_request_counts (H := Unit) = .agg (vals.map fun k => .lit (.int .i64 k)) := rfl
theorem of_laid {W : World} (h : laidMetH Tryd.prog laidL W) : GG W := by
  rw [MakeChecks.laidMetH_plain _ _ _ (by kernel_rfl)] at h
  obtain ⟨ps, ⟨g0, t0, cs0, f0, p0, q0, hg0, ht0, hv0, hd0, _, _⟩, _, _⟩ := h
  obtain rfl := Option.some.inj (gC.symm.trans hg0)
  obtain rfl := Option.some.inj (tC.symm.trans ht0)
  obtain ⟨xs, m, rfl, hx, hlen, hn, hel⟩ := DataW.trod_array Tryd.underlying70 hd0
  have c3 : Tryd.prog.cellsOf 3 = 1 := by kernel_rfl
  have hx1 : xs.map (·.1) = vals.map fun k => (DataW.lit (.int .i64 k) : DataW Unit) := by
    have := congrArg Prod.fst hx
    rw [vals_is] at this
    exact (DataW.agg.inj this).symm
  have cell : ∀ i, i < 17 → W.cell? ⟨0, i, none⟩ = some (.int .i64 (gcount (i : Int))) := by
    intro i hi
    obtain ⟨x, hxi⟩ : ∃ x, xs[i]? = some x := ⟨_, List.getElem?_eq_getElem (by omega)⟩
    have hv : (vals.map fun k => (DataW.lit (.int .i64 k) : DataW Unit))[i]? = some x.1 := by rw [← hx1, List.getElem?_map, hxi]; rfl
    have hr := hel i hi
    rw [hxi, c3, Nat.mul_one] at hr
    obtain ⟨k, e1, e2, _⟩ := DataW.trod_int Tryd.underlying3 hr
    rw [e2, List.getElem?_map] at hv
    have hk : vals[i]? = some k := by
      cases hq : vals[i]? with
      | none => rw [hq] at hv; simp at hv
      | some y => rw [hq] at hv; simpa using hv
    have hg : gcount (i : Int) = k := by
      unfold gcount
      rw [Int.toNat_natCast, List.getD_eq_getElem?_getD]
      exact congrArg (fun o => Option.getD o 0) hk
    have hc : cs0.toList[i]? = some (.int .i64 k) := by
      have := congrArg (fun l => l[0]?) e1
      simpa [List.getElem?_take, List.getElem?_drop] using this
    rw [World.var?_cell hg0 hv0 i, hg]
    simpa using hc
  refine ⟨?_, cell⟩
  have := cell 0 (by omega)
  unfold World.cell? at this
  by_cases h : 0 < W.heap.size
  · exact h
  · rw [Array.getElem?_eq_none (by simpa using h)] at this
    cases this
end Go.Proofs.YtkpjkgfaepidaaaDoor.Laid

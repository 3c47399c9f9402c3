-- small words for plain laws: truth as a Bool, places of lists, wraps of small numbers
import Derived.Test.YtgfjjhfkgfnpaaaWMore
namespace Go.Proofs.Ytgfjjhfkgfnpaaa.Tools
open Go Go.RowKit Go.Proofs.YtgfjjhfkgfnpaaaW.PrintWords Go.Proofs.YtgfjjhfkgfnpaaaW.PrintLast Go.Proofs.YtgfjjhfkgfnpaaaW.PrintMore
open Classical in
noncomputable def pb (p : Prop) : Bool := decide p
open Classical in
theorem pb_true {p : Prop} (h : p) : pb p = true := by unfold pb; exact decide_eq_true h
open Classical in
theorem pb_false {p : Prop} (h : ¬ p) : pb p = false := by unfold pb; exact decide_eq_false h
open Classical in
theorem pb_iff {p : Prop} : pb p = true ↔ p := by unfold pb; exact decide_eq_true_iff
theorem pb_congr {p q : Prop} (h : p ↔ q) : pb p = pb q := by rw [Bool.eq_iff_iff, pb_iff, pb_iff]; exact h
theorem eq_pb {b : Bool} {p : Prop} (h : b = true ↔ p) : b = pb p := by rw [Bool.eq_iff_iff, pb_iff]; exact h
/-- The j-th text. -/
def tx (l : List ByteArray) (j : Nat) : ByteArray := rdOf ByteArray.empty l (j : Int)
theorem all_rd (l : List Int) (p : Int → Bool) : l.all p = pb (∀ j, j < l.length → p (rd l (j : Int)) = true) := by
  refine eq_pb ?_
  rw [List.all_eq_true]
  have e : ∀ j (h : j < l.length), rd l (j : Int) = l[j] := fun j h => by
    unfold rd; rw [Int.toNat_natCast, List.getD_eq_getElem?_getD, List.getElem?_eq_getElem h]; rfl
  exact ⟨fun h j hj => by rw [e j hj]; exact h _ (List.getElem_mem hj), fun h x hx => by obtain ⟨j, hj, rfl⟩ := List.mem_iff_getElem.1 hx; rw [← e j hj]; exact h j hj⟩
theorem w_pred {i : Nat} (h : 1 ≤ i) (h2 : i < 2 ^ 62) : wrap64 ((i : Int) - 1) = ((i - 1 : Nat) : Int) := by unfold wrap64; omega
theorem w_succ {i : Nat} (h2 : i < 2 ^ 62) : wrap64 ((i : Int) + 1) = ((i + 1 : Nat) : Int) := by unfold wrap64; omega
end Go.Proofs.Ytgfjjhfkgfnpaaa.Tools

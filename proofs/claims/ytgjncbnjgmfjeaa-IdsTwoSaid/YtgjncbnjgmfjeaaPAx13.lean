-- Written by this session's own program wip/bin/dprint.py, over the kit's print.py, with own texts for some functions: no print of print.sh's
import Derived.Test.YtgjncbnjgmfjeaaPAx0
import Derived.Test.YtgjncbnjgmfjeaaPAx2
namespace Go.Proofs.Ytgjncbnjgmfjeaa.PA
open Go.RowKit Go.Proofs.YtgjncbnjgmfjeaaW.PrintWords Go.Proofs.YtgjncbnjgmfjeaaW.PrintLast Go.Proofs.YtgjncbnjgmfjeaaW.PrintMore
attribute [local go_sem] max2_int min2_int max_two min_two max_three min_three max_four min_four   -- for this text's walks alone
set_option linter.unusedVariables false
set_option linter.unusedSimpArgs false

-- NOT PRINTED: function 52 (slices_partitionOrdered_int)

-- NOT PRINTED: function 40 (slices_pdqsortOrdered_int)

-- NOT PRINTED: function 34 (slices_Sort_int_int)

-- NOT PRINTED: function 35 (slices_Compact_int_int)


/-! ### ids_Of: function 16 (own text) -/
section
open Go.Shelf Go.Lib Go.Sort
namespace SrtI
theorem holds_of_block {w : World} {g : Nat} {cur : Array Value} {e : TypeId} {ss : List Int} (hb : w.heap[g]? = some (.cells cur e (0, 0))) (ht : cur.toList.take ss.length = ss.map (Value.int .i64)) : Holds (Value.int .i64) w g 0 ss.toArray := by
  intro j hj
  have hj' : j < ss.length := by simpa using hj
  refine ⟨?_, by simp [World.frozen?, hb]⟩
  have h1 : (cur.toList.take ss.length)[j]? = (ss.map (Value.int .i64))[j]? := by rw [ht]
  rw [List.getElem?_take_of_lt hj'] at h1
  simp only [World.cell?, hb, Nat.zero_add]
  simp only [Option.isSome_none, Bool.false_eq_true, if_false]
  rw [← Array.getElem?_toList, h1]
  simp [hj']
theorem heap_sorted {w : World} {g n : Nat} {os : Array Obj} {cur : Array Value} {e : TypeId} {fr : Nat × Nat} (d : Array Int) (hb : w.heap[g]? = some (.cells cur e fr)) :
    (grow (putRow (Value.int .i64) (Sort.ahead w n) g 0 d) os).heap[g]? = some (.cells (putCells (Value.int .i64) 0 d cur) e fr) := by
  have hg : g < w.heap.size := (Array.getElem?_eq_some_iff.1 hb).1
  rw [heap_grow_old _ _ (by simpa using hg)]
  simp [putRow, mapBlock, Sort.ahead, Array.getElem?_modify, hb, onCells]
theorem grownBy_sorted {w : World} {g n : Nat} {os : Array Obj} (d : Array Int) : w.grownBy (grow (putRow (Value.int .i64) (Sort.ahead w n) g 0 d) os) (some g) := by
  refine ⟨rfl, rfl, rfl, by simp, fun k hk hne => ?_⟩
  rw [heap_grow_old _ _ (by simpa using hk)]
  have : g ≠ k := fun e => hne (by rw [e])
  simp [putRow, mapBlock, Sort.ahead, Array.getElem?_modify, this]
theorem take_putCells (cur : Array Value) (ts : List Int) (h : ts.length ≤ cur.size) : (putCells (Value.int .i64) 0 ts.toArray cur).toList.take ts.length = ts.map (Value.int .i64) := by
  apply List.ext_getElem?
  intro j
  by_cases hj : j < ts.length
  · rw [List.getElem?_take_of_lt hj, Array.getElem?_toList]
    simp [putCells, hj, show j < cur.size by omega]
  · rw [List.getElem?_take_eq_none (by omega), List.getElem?_eq_none (by simp; omega)]
theorem ownsRow_sorted {w : World} {base g cap n N : Nat} {e : TypeId} {os : Array Obj} {cur : Array Value} {ts : List Int} (hl : ts.length = N) (hbase : base ≤ g) (hb : w.heap[g]? = some (.cells cur e (0, 0)))
    (h1 : N ≤ cap) (h2 : cap ≤ maxLen) (h3 : cur.size = cap * 1) :
    (grow (putRow (Value.int .i64) (Sort.ahead w n) g 0 ts.toArray) os).ownsRow base e 1 (.slice (some ⟨g, 0, none⟩) N cap) N (ts.map (Value.int .i64)) :=
  ⟨by simp [hl], .inr ⟨g, cap, _, rfl, hbase, heap_sorted _ hb, h1, h2, by simp [putCells, h3], by rw [Nat.mul_one, ← hl]; exact take_putCells cur ts (by omega)⟩⟩
end SrtI
/-- The set of numbers. -/
def ofL (l : List Int) : List Int := Lib.compact (l.mergeSort fun x y => decide (x ≤ y))
def ids_Of.f (l : List Int) : Option (List Int) := if l.length ≤ 17592186044416 then some (ofL l) else none
theorem compact_len (l : List Int) : (Lib.compact l).length ≤ l.length := Lib.compact_length_le l
theorem sortOwn (base : Nat) (v : Value) (l : List Int) (w : World) (hl : l.length ≤ 17592186044416) (HO : Kd.R (Kd.int .i64) 3 w base (fun _ => True) v l) :
    Calls Try.prog 34 #[v] w fun e w' => e = .returned (.tuple #[]) ∧ Kd.R (Kd.int .i64) 3 w' base (fun _ => True) v (l.mergeSort fun x y => decide (x ≤ y)) ∧ Below base w w' := by
  have hlen : (l.mergeSort fun x y => decide (x ≤ y)).length = l.length := List.length_mergeSort _
  have hown : w.ownsRow base 3 1 v l.length (l.map (Value.int .i64)) := Kd.own_of_R HO
  rcases hown.2 with ⟨rfl, h0⟩ | ⟨g, cap, cur, rfl, hbase, hb, h1, h2, h3, h4⟩
  · have hn : l = [] := List.eq_nil_of_length_eq_zero h0
    subst hn
    refine (Try.slices_Sort_int_none none 0 w).mono ?_
    rintro e w' ⟨rfl, rfl⟩
    refine ⟨rfl, ?_, Below.refl _ _⟩
    rw [show (([] : List Int).mergeSort fun x y => decide (x ≤ y)) = [] from List.mergeSort_nil]
    exact Kd.R_nil _ _ _ _ _
  · refine (Try.slices_Sort_int g 0 cap l w (SrtI.holds_of_block hb (by simpa using h4)) (Array.getElem?_eq_some_iff.1 hb).1 (by omega)).mono ?_
    rintro e w' ⟨rfl, n, os, rfl⟩
    have hgb : w.grownBy (grow (putRow (Value.int .i64) (Sort.ahead w n) g 0 (l.mergeSort fun x y => decide (x ≤ y)).toArray) os) (some g) := SrtI.grownBy_sorted _
    refine ⟨rfl, Kd.R_of_own (enc := Value.int .i64) (h1 := fun _ => rfl) ?_ (fun _ _ => trivial), ⟨hgb.os, hgb.tape, hgb.output, hgb.size, fun k hk => hgb.block k (by have := (Array.getElem?_eq_some_iff.1 hb).1; omega) (by intro e; injection e; omega)⟩⟩
    rw [hlen]
    exact SrtI.ownsRow_sorted (n := n) (os := os) hlen hbase hb h1 h2 h3
theorem compactOwn (base : Nat) (v : Value) (l : List Int) (w : World) (hl : l.length ≤ 17592186044416) (HO : Kd.R (Kd.int .i64) 3 w base (fun _ => True) v l) :
    Calls Try.prog 35 #[v] w fun e w' => ∃ v', e = .returned v' ∧ Kd.R (Kd.int .i64) 3 w' base (fun _ => True) v' (Lib.compact l) ∧ Below base w w' := by
  have hown : w.ownsRow base 3 1 v l.length (l.map (Value.int .i64)) := Kd.own_of_R HO
  rcases hown.2 with ⟨rfl, h0⟩ | ⟨g, cap, cur, rfl, hbase, hb, h1, h2, h3, h4⟩
  · have hn : l = [] := List.eq_nil_of_length_eq_zero h0
    subst hn
    refine (Try.slices_Compact_int_empty none 0 w).mono ?_
    rintro e w' ⟨rfl, rfl⟩
    exact ⟨_, rfl, Kd.R_nil _ _ _ _ _, Below.refl _ _⟩
  · refine (Try.slices_Compact_int g 0 cap l w (SrtI.holds_of_block hb (by simpa using h4)) (by omega) h1).mono ?_
    rintro e w' ⟨rfl, q, rfl⟩
    have hcl := compact_len l
    obtain ⟨Z, hZ⟩ : ∃ Z, Z = Lib.compact l ++ List.replicate (l.length - (Lib.compact l).length) 0 := ⟨_, rfl⟩
    have hZl : Z.length = l.length := by rw [hZ, List.length_append, List.length_replicate]; omega
    rw [← hZ]
    have hw : putRow (Value.int .i64) (Sort.ahead w q) g 0 Z.toArray = grow (putRow (Value.int .i64) (Sort.ahead w q) g 0 Z.toArray) #[] := (grow_empty _).symm
    rw [hw]
    have hgb : w.grownBy (grow (putRow (Value.int .i64) (Sort.ahead w q) g 0 Z.toArray) #[]) (some g) := SrtI.grownBy_sorted _
    have ho := SrtI.ownsRow_sorted (n := q) (os := #[]) hZl hbase hb h1 h2 h3
    have hR : Kd.R (Kd.int .i64) 3 (grow (putRow (Value.int .i64) (Sort.ahead w q) g 0 Z.toArray) #[]) base (fun _ => True) (.slice (some ⟨g, 0, none⟩) l.length cap) Z := Kd.R_of_own (enc := Value.int .i64) (h1 := fun _ => rfl) (by rw [hZl]; exact ho) (fun _ _ => trivial)
    have hT := Kd.R_take (m := (Lib.compact l).length) hR (by omega)
    have e1 : Z.take (Lib.compact l).length = Lib.compact l := by rw [hZ, List.take_left]
    rw [e1] at hT
    exact ⟨_, rfl, hT, ⟨hgb.os, hgb.tape, hgb.output, hgb.size, fun k hk => hgb.block k (by have := (Array.getElem?_eq_some_iff.1 hb).1; omega) (by intro e; injection e; omega)⟩⟩
set_option maxHeartbeats 1000000 in
set_option maxRecDepth 100000 in
theorem ids_Of.calls (A0 : Option Addr) (c0 : Nat) (l0 : List Int) (r : List Int) (w : World) (hr0 : Kd.C (Kd.int .i64) w A0 l0.length l0) (hc0 : l0.length ≤ c0) (h : ids_Of.f l0 = some r) :
    Calls Try.prog 16 #[.slice A0 l0.length c0] w fun e w' => ∃ v0_ : Value, e = .returned v0_ ∧ Kd.R (Kd.int .i64) 3 w' w.heap.size (fun _ => True) v0_ r ∧ Below w.heap.size w w' := by
  unfold ids_Of.f at h
  by_cases hl : l0.length ≤ 17592186044416
  · rw [if_pos hl] at h
    obtain rfl := Option.some.inj h
    have HL := Aside0.mk hl
    have HCl := Aside0.mk (slices_Clone_int_int.calls A0 c0 l0 l0 w hr0 hc0 (by unfold slices_Clone_int_int.f; rw [if_pos hl]))
    clear h hr0 hc0 hl
    go_enter Try.func16, Try.ntmps16
    go_wp2_with (first | (go_at_call 33; refine HCl.out.mono ?_; rintro e w1 ⟨v, rfl, hR, hb⟩; have N0 := Aside0.mk hR; have N1 := Aside0.mk hb; clear hR hb) | (go_at_call 34; refine (sortOwn w.heap.size v l0 _ HL.out N0.out).mono ?_; rintro e w2 ⟨rfl, hR, hb⟩; have N2 := Aside0.mk hR; have N3 := Aside0.mk (N1.out.trans hb); clear hR hb) | (go_at_call 35; refine (compactOwn w.heap.size v _ _ (by rw [List.length_mergeSort]; exact HL.out) N2.out).mono ?_; rintro e w3 ⟨v3, rfl, hR, hb⟩; have N4 := Aside0.mk hR; have N5 := Aside0.mk (N3.out.trans hb); clear hR hb))
    go_ret
    exact ⟨_, rfl, N4.out, N5.out⟩
  · rw [if_neg hl] at h; cases h
end

end Go.Proofs.Ytgjncbnjgmfjeaa.PA

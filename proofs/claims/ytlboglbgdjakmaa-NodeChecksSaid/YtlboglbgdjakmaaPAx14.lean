-- Written by this session's own program wip/bin/dprint.py, over the kit's print.py, with own texts for some functions: no print of print.sh's
import Derived.Test.YtlboglbgdjakmaaPAx0
import Derived.Test.YtlboglbgdjakmaaPAx10
import Derived.Test.YtlboglbgdjakmaaPAx11
import Derived.Test.YtlboglbgdjakmaaPAx13
namespace Go.Proofs.Ytlboglbgdjakmaa.PA
open Go.RowKit Go.Proofs.YtlboglbgdjakmaaW.PrintWords Go.Proofs.YtlboglbgdjakmaaW.PrintLast Go.Proofs.YtlboglbgdjakmaaW.PrintMore
attribute [local go_sem] max2_int min2_int max_two min_two max_three min_three max_four min_four   -- for this text's walks alone
set_option linter.unusedVariables false
set_option linter.unusedSimpArgs false


/-! ### dowserlaw09_awake: function 8 (own text) -/
def dowserlaw09_awake.f (k : Nat) : Option Bool := (node_Node_Pack.f k 1 [⟨#[97]⟩] [⟨#[120]⟩] []).bind fun t => (node_Parse.f k 1 t).bind fun m => if t.toList = [1, 1, 97, 1, 120] ∧ m.2.1.length = 1 ∧ m.2.2.2.2 = 0 then some true else none
theorem dowserlaw09_awake.mono : ∀ k, LeO (dowserlaw09_awake.f k) (dowserlaw09_awake.f (k + 1)) := by
  intro k
  unfold dowserlaw09_awake.f
  exact LeO.bind (node_Node_Pack.mono _ _ _ _ _) (fun _ => LeO.bind (node_Parse.mono _ _ _) (fun _ => LeO.refl _))
theorem dowserlaw09_awake.one_ (w : World) (g : Nat) (s : ByteArray) (h : w.cell? ⟨g, 0, Option.none⟩ = some (.string s)) : Kd.C Kd.string w (some ⟨g, 0, Option.none⟩) 1 [s] := by
  refine ⟨rfl, by omega, fun _ => ⟨_, rfl, fun j p hj => ?_⟩⟩
  cases j with
  | zero =>
    injection hj with hj
    subst hj
    refine ⟨[.string s], rfl, rfl, fun i u hu => ?_⟩
    cases i with
    | zero =>
      injection hu with hu
      subst hu
      rw [show (⟨g, 0, Option.none⟩ : Addr).add (0 * Kd.string.sz + 0) = ⟨g, 0, Option.none⟩ by simp [Addr.add]]
      exact h
    | succ i => simp at hu
  | succ j => simp at hj
set_option maxHeartbeats 4000000 in
set_option maxRecDepth 100000 in
theorem dowserlaw09_awake.calls (k : Nat) (r : Bool) (w : World) (h : dowserlaw09_awake.f k = some r) :
    Calls Try.prog 8 #[] w fun e w' => e = .returned (.bool r) ∧ Below w.heap.size w w' := by
  unfold dowserlaw09_awake.f at h
  obtain ⟨t, h1, h⟩ := Option.bind_eq_some_iff.mp h
  obtain ⟨⟨m1, m2, m3, m4, m5⟩, h2, h⟩ := Option.bind_eq_some_iff.mp h
  by_cases c : t.toList = [1, 1, 97, 1, 120] ∧ m2.length = 1 ∧ m5 = 0
  · rw [if_pos c] at h
    obtain rfl := Option.some.inj h
    obtain ⟨c1, c2, rfl⟩ := c
    have H1 := Aside0.mk h1
    have H2 := Aside0.mk h2
    have C2 := Aside0.mk c2
    have c1b : (t.toList == [1, 1, 97, 1, 120]) = true := beq_iff_eq.mpr c1
    clear h h1 h2 c2 c1
    go_enter Try.func8, Try.ntmps8
    go_wp2_with fail
    obtain ⟨W, hW⟩ : ∃ W, W = (((w.alloc (.cells #[.string ⟨#[97]⟩] 9)).alloc (.cells #[.string ⟨#[120]⟩] 9)).alloc (.cells #[.int .i64 1, .slice (some ⟨w.heap.size, 0, none⟩) 1 1, .slice (some ⟨w.heap.size + 1, 0, none⟩) 1 1, .slice none 0 0] 29)) := ⟨_, rfl⟩
    have hs : W.heap.size = w.heap.size + 3 := by rw [hW]; simp
    have hbW : Below w.heap.size w W := by rw [hW]; exact below_alloc (below_alloc (below_alloc (Below.refl _ _) _) _) _
    have hx : W.heap[w.heap.size + 2]? = some (.cells #[.int .i64 1, .slice (some ⟨w.heap.size, 0, none⟩) 1 1, .slice (some ⟨w.heap.size + 1, 0, none⟩) 1 1, .slice none 0 0] 29 (0, 0)) := by
      rw [hW]
      have := blk_new ((w.alloc (.cells #[.string ⟨#[97]⟩] 9)).alloc (.cells #[.string ⟨#[120]⟩] 9)) (.cells #[.int .i64 1, .slice (some ⟨w.heap.size, 0, none⟩) 1 1, .slice (some ⟨w.heap.size + 1, 0, none⟩) 1 1, .slice none 0 0] 29)
      simpa using this
    have hk : Kd.C Kd.string W (some ⟨w.heap.size, 0, none⟩) 1 [⟨#[97]⟩] := dowserlaw09_awake.one_ _ _ _ (by rw [hW]; simp [go_sem])
    have hv : Kd.C Kd.string W (some ⟨w.heap.size + 1, 0, none⟩) 1 [⟨#[120]⟩] := dowserlaw09_awake.one_ _ _ _ (by rw [hW]; simp [go_sem])
    have hn : ∀ X, Kd.C (Kd.int .i64) X none 0 [] := fun X => Kd.C_nil _ _
    have pack : ∀ X, Below W.heap.size W X → Calls Try.prog 17 #[.agg #[.int .i64 1, .slice (some ⟨w.heap.size, 0, none⟩) 1 1, .slice (some ⟨w.heap.size + 1, 0, none⟩) 1 1, .slice none 0 0]] X fun e w' => e = .returned (.string t) ∧ Below X.heap.size X w' := fun X hX =>
      node_Node_Pack.calls k 1 _ 1 [⟨#[97]⟩] _ 1 [⟨#[120]⟩] none 0 [] t X (Kd.C_below hk hX) (Nat.le_refl _) (Kd.C_below hv hX) (Nat.le_refl _) (hn X) (Nat.le_refl _) H1.out
    have len : ∀ X, Below W.heap.size W X → Calls Try.prog 22 #[.agg #[.int .i64 1, .slice (some ⟨w.heap.size, 0, none⟩) 1 1, .slice (some ⟨w.heap.size + 1, 0, none⟩) 1 1, .slice none 0 0]] X fun e w' => e = .returned (.int .i64 1) ∧ Below X.heap.size X w' := fun X hX =>
      node_Node_Len.calls 1 _ 1 [⟨#[97]⟩] _ 1 [⟨#[120]⟩] none 0 [] 1 X (Kd.C_below hk hX) (Nat.le_refl _) (Kd.C_below hv hX) (Nat.le_refl _) (hn X) (Nat.le_refl _) rfl
    have HP := Aside0.mk pack
    have HL := Aside0.mk len
    have HX := Aside0.mk hx
    have HW := Aside0.mk hbW
    have HS := Aside0.mk hs
    rw [← hW]
    clear hW hk hv hn pack len hx hbW hs
    refine (HP.out W (Below.refl _ _)).mono ?_
    rintro e w1 ⟨rfl, hb1⟩
    have B1 := Aside0.mk hb1
    clear hb1
    go_wp2_with fail
    refine (node_Parse.calls k 1 t m1 m2 m3 m4 0 _ H2.out).mono ?_
    rintro e w2 ⟨v1, v2, v3, rfl, ho1, ho2, ho3, hb2⟩
    obtain ⟨A1, d1, e1, hd1, r1⟩ := Kd.R_reads ho1
    obtain ⟨A2, d2, e2, hd2, r2⟩ := Kd.R_reads ho2
    obtain ⟨A3, d3, e3, hd3, r3⟩ := Kd.R_reads ho3
    subst e1 e2 e3
    have len2 : ∀ X, Below w2.heap.size w2 X → Calls Try.prog 22 #[.agg #[.int .i64 m1, .slice A1 m2.length d1, .slice A2 m3.length d2, .slice A3 m4.length d3]] X fun e w' => e = .returned (.int .i64 1) ∧ Below X.heap.size X w' := fun X hX =>
      node_Node_Len.calls m1 A1 d1 m2 A2 d2 m3 A3 d3 m4 1 X (Kd.C_below r1 hX) hd1 (Kd.C_below r2 hX) hd2 (Kd.C_below r3 hX) hd3 (by show some (m2.length : Int) = some 1; rw [C2.out]; rfl)
    have HL2 := Aside0.mk len2
    have B2 := Aside0.mk (B1.out.trans (hb2.mono B1.out.size))
    clear len2 ho1 ho2 ho3 hb2 r1 r2 r3 hd1 hd2 hd3 C2
    have hx2 : w2.heap[w.heap.size + 2]? = some (.cells #[.int .i64 1, .slice (some ⟨w.heap.size, 0, none⟩) 1 1, .slice (some ⟨w.heap.size + 1, 0, none⟩) 1 1, .slice none 0 0] 29 (0, 0)) := by rw [B2.out.block _ (by rw [HS.out]; omega)]; exact HX.out
    have hz2 : w.heap.size + 2 < w2.heap.size := by have := B2.out.size; rw [HS.out] at this; omega
    have q0 := Lib.cell_of_heap hx2 0
    have q1 := Lib.cell_of_heap hx2 1
    have q2 := Lib.cell_of_heap hx2 2
    have q3 := Lib.cell_of_heap hx2 3
    simp only [List.getElem?_toArray, List.getElem?_cons_zero, List.getElem?_cons_succ] at q0 q1 q2 q3
    go_wp2_with fail
    have B3 := Aside0.mk (B2.out.alloc B2.out.size (.cells #[.int .i64 m1, .slice A1 m2.length d1, .slice A2 m3.length d2, .slice A3 m4.length d3] 29))
    have hy0 := blk_new w2 (.cells #[.int .i64 m1, .slice A1 m2.length d1, .slice A2 m3.length d2, .slice A3 m4.length d3] 29)
    have hy1 := (w2.alloc (.cells #[.int .i64 m1, .slice A1 m2.length d1, .slice A2 m3.length d2, .slice A3 m4.length d3] 29))
    refine (HP.out _ B3.out).mono ?_
    rintro e w3 ⟨rfl, hb3⟩
    have B4 := Aside0.mk (B3.out.trans (hb3.mono B3.out.size))
    have hx3 : w3.heap[w.heap.size + 2]? = some (.cells #[.int .i64 1, .slice (some ⟨w.heap.size, 0, none⟩) 1 1, .slice (some ⟨w.heap.size + 1, 0, none⟩) 1 1, .slice none 0 0] 29 (0, 0)) := by rw [B4.out.block _ (by rw [HS.out]; omega)]; exact HX.out
    have hz3 : w.heap.size + 2 < w3.heap.size := by have := B4.out.size; rw [HS.out] at this; omega
    have hy3 : w3.heap[w2.heap.size]? = some (.cells #[.int .i64 m1, .slice A1 m2.length d1, .slice A2 m3.length d2, .slice A3 m4.length d3] 29 (0, 0)) := by
      rw [hb3.block _ (by simp)]; exact hy0
    have hw3 : w2.heap.size < w3.heap.size := by have := hb3.size; simp at this; omega
    have q0 := Lib.cell_of_heap hx3 0
    have q1 := Lib.cell_of_heap hx3 1
    have q2 := Lib.cell_of_heap hx3 2
    have q3 := Lib.cell_of_heap hx3 3
    have p0 := Lib.cell_of_heap hy3 0
    have p1 := Lib.cell_of_heap hy3 1
    have p2 := Lib.cell_of_heap hy3 2
    have p3 := Lib.cell_of_heap hy3 3
    simp only [List.getElem?_toArray, List.getElem?_cons_zero, List.getElem?_cons_succ] at q0 q1 q2 q3 p0 p1 p2 p3
    have B5 := Aside0.mk ((below_alloc (Below.refl w2.heap.size w2) (.cells #[.int .i64 m1, .slice A1 m2.length d1, .slice A2 m3.length d2, .slice A3 m4.length d3] 29)).trans (hb3.mono (by simp)))
    have HY := Aside0.mk hy3
    have HZ := Aside0.mk hw3
    clear hy0 hy1 hx3 hy3 hx2 hz2 hb3
    go_wp2_with fail
    refine (HL.out _ B4.out).mono ?_
    rintro e w4 ⟨rfl, hb4⟩
    have B6 := Aside0.mk (B5.out.trans (hb4.mono B5.out.size))
    have hy4 : w4.heap[w2.heap.size]? = some (.cells #[.int .i64 m1, .slice A1 m2.length d1, .slice A2 m3.length d2, .slice A3 m4.length d3] 29 (0, 0)) := by
      rw [hb4.block _ HZ.out]; exact HY.out
    have hw4 : w2.heap.size < w4.heap.size := by have := hb4.size; have := HZ.out; omega
    have p0 := Lib.cell_of_heap hy4 0
    have p1 := Lib.cell_of_heap hy4 1
    have p2 := Lib.cell_of_heap hy4 2
    have p3 := Lib.cell_of_heap hy4 3
    simp only [List.getElem?_toArray, List.getElem?_cons_zero, List.getElem?_cons_succ] at p0 p1 p2 p3
    have B7 := Aside0.mk (B4.out.trans (hb4.mono B4.out.size))
    clear hy4 hb4
    go_wp2_with fail
    refine (HL2.out _ B6.out).mono ?_
    rintro e w5 ⟨rfl, hb5⟩
    have B8 := Aside0.mk (HW.out.trans ((B7.out.trans (hb5.mono B7.out.size)).mono HW.out.size))
    clear hb5
    go_wp2_with fail
    go_ret
    exact ⟨rfl, B8.out⟩
  · rw [if_neg c] at h; cases h

/-! ### dowserlaw01_Cut: function 13 -/
def dowserlaw01_Cut.f (a0 : ByteArray) (a1 : Int) : Option (ByteArray) := if (a0.size : Int) > a1 then (if 0 ≤ a1 then (if a1 ≤ (a0.size : Int) then (some (a0.extract 0 (a1 : Int).toNat)) else (none)) else (none)) else (some a0)
set_option maxHeartbeats 8000000 in
set_option maxRecDepth 100000 in
theorem dowserlaw01_Cut.calls (a0 : ByteArray) (a1 : Int) (r : ByteArray) (w : World) (h : dowserlaw01_Cut.f a0 a1 = some r) :
    Calls Try.prog 13 #[.string a0, .int .i64 a1] w fun e w' => e = .returned (.string r) ∧ Drawn0 w w' := by
  have H : (if (a0.size : Int) > a1 then (if 0 ≤ a1 then (if a1 ≤ (a0.size : Int) then (some (a0.extract 0 (a1 : Int).toNat)) else (none)) else (none)) else (some a0)) = some r := h
  clear h
  by_cases c3 : (a0.size : Int) > a1
  · rw [if_pos c3] at H
    have c3b0 : decide (a1 < (a0.size : Int)) = true := decide_eq_true c3
    clear c3
    by_cases c4 : 0 ≤ a1
    · rw [if_pos c4] at H
      have c4b0 := eq_true c4
      have c4b1 : decide (0 ≤ a1) = true := decide_eq_true c4
      clear c4
      by_cases c5 : a1 ≤ (a0.size : Int)
      · rw [if_pos c5] at H
        have c5b0 := eq_true c5
        have c5b1 : decide (a1 ≤ (a0.size : Int)) = true := decide_eq_true c5
        clear c5
        obtain rfl := Option.some.inj H
        go_enter Try.func13, Try.ntmps13
        go_wp2
        go_ret
        exact ⟨by first | rfl | (simp; done) | (simp [*]; done) | (simp; rw [Bool.eq_iff_iff]; simp; done), by repeat (first | exact Drawn0.refl _ | apply Drawn0.step)⟩
      · rw [if_neg c5] at H
        exact absurd H (by simp)
    · rw [if_neg c4] at H
      exact absurd H (by simp)
  · rw [if_neg c3] at H
    have c3b0 : decide (a1 < (a0.size : Int)) = false := decide_eq_false c3
    clear c3
    obtain rfl := Option.some.inj H
    go_enter Try.func13, Try.ntmps13
    go_wp2
    go_ret
    exact ⟨by first | rfl | (simp; done) | (simp [*]; done) | (simp; rw [Bool.eq_iff_iff]; simp; done), by repeat (first | exact Drawn0.refl _ | apply Drawn0.step)⟩

end Go.Proofs.Ytlboglbgdjakmaa.PA

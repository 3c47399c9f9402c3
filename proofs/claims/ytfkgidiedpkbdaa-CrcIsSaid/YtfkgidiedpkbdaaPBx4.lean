-- Written by this session's own program wip/bin/dprint.py, over the kit's print.py, with own texts for some functions: no print of print.sh's
import Derived.Test.YtfkgidiedpkbdaaPBx0
namespace Go.Proofs.Ytfkgidiedpkbdaa.PB
open Go.RowKit Go.Proofs.YtfkgidiedpkbdaaW.PrintWords Go.Proofs.YtfkgidiedpkbdaaW.PrintLast Go.Proofs.YtfkgidiedpkbdaaW.PrintMore
attribute [local go_sem] max2_int min2_int max_two min_two max_three min_three max_four min_four   -- for this text's walks alone
set_option linter.unusedVariables false
set_option linter.unusedSimpArgs false

/-! ### dowserref02_On: function 20 -/
mutual
def dowserref02_On.l0 : Nat → Int → ByteArray → Int → Option (Int)
  | 0, _, _, _ => none
  | k + 1, x0, x1, x5 => if x5 < (x1.size : Int) then (if 0 ≤ x5 then (dowserref02_On.l1 k x0 x1 x5 (wrap64 (bt x1 x5)) 128) else (none)) else (some x0)
def dowserref02_On.l1 : Nat → Int → ByteArray → Int → Int → Int → Option (Int)
  | 0, _, _, _, _, _ => none
  | k + 1, x0, x1, x5, x6, x7 => if x7 > 0 then (if x7 = 0 then (none) else (if (((Int.tmod (wrap64 (Int.tdiv x6 x7)) 2) == 1) != (decide (x0 ≥ 2147483648))) = true then (dowserref02_On.l1 k (Go.bits .xor .u32 ((x0 + x0) % 4294967296) 79764919) x1 x5 x6 (wrap64 (Int.tdiv x7 2))) else (dowserref02_On.l1 k ((x0 + x0) % 4294967296) x1 x5 x6 (wrap64 (Int.tdiv x7 2))))) else (dowserref02_On.l0 k x0 x1 (wrap64 (x5 + 1)))
end
def dowserref02_On.f (k : Nat) (a0 : Int) (a1 : ByteArray) : Option (Int) := dowserref02_On.l0 k a0 a1 0
theorem dowserref02_On.mono_l : ∀ k, (∀ y0 y1 y2, LeO (dowserref02_On.l0 k y0 y1 y2) (dowserref02_On.l0 (k + 1) y0 y1 y2)) ∧ (∀ y0 y1 y2 y3 y4, LeO (dowserref02_On.l1 k y0 y1 y2 y3 y4) (dowserref02_On.l1 (k + 1) y0 y1 y2 y3 y4))
  | 0 => ⟨fun _ _ _ r h => by simp [dowserref02_On.l0] at h, fun _ _ _ _ _ r h => by simp [dowserref02_On.l1] at h⟩
  | k + 1 => by
    obtain ⟨ih0, ih1⟩ := dowserref02_On.mono_l k
    refine ⟨?_, ?_⟩
    · intro y0 y1 y2
      unfold dowserref02_On.l0
      repeat' first
      | (with_reducible exact ih0 _ _ _)
      | (with_reducible exact ih1 _ _ _ _ _)
      | (with_reducible exact LeO.refl _)
      | (with_reducible exact LeO.none _)
      | (with_reducible refine LeO.ite ?_ ?_)
      | (with_reducible refine LeO.bind ?_ (fun _ => ?_))
      | exact ih0 _ _ _
      | exact ih1 _ _ _ _ _
      | exact LeO.none _
      | refine LeO.ite ?_ ?_
      | refine LeO.bind ?_ (fun _ => ?_)
    · intro y0 y1 y2 y3 y4
      unfold dowserref02_On.l1
      repeat' first
      | (with_reducible exact ih0 _ _ _)
      | (with_reducible exact ih1 _ _ _ _ _)
      | (with_reducible exact LeO.refl _)
      | (with_reducible exact LeO.none _)
      | (with_reducible refine LeO.ite ?_ ?_)
      | (with_reducible refine LeO.bind ?_ (fun _ => ?_))
      | exact ih0 _ _ _
      | exact ih1 _ _ _ _ _
      | exact LeO.none _
      | refine LeO.ite ?_ ?_
      | refine LeO.bind ?_ (fun _ => ?_)
theorem dowserref02_On.mono : ∀ a0 a1 k, LeO (dowserref02_On.f k a0 a1) (dowserref02_On.f (k + 1) a0 a1) := by
  intro a0 a1 k
  obtain ⟨ih0, ih1⟩ := dowserref02_On.mono_l k
  unfold dowserref02_On.f
  repeat' first
      | (with_reducible exact ih0 _ _ _)
      | (with_reducible exact ih1 _ _ _ _ _)
      | (with_reducible exact LeO.refl _)
      | (with_reducible exact LeO.none _)
      | (with_reducible refine LeO.ite ?_ ?_)
      | (with_reducible refine LeO.bind ?_ (fun _ => ?_))
      | exact ih0 _ _ _
      | exact ih1 _ _ _ _ _
      | exact LeO.none _
      | refine LeO.ite ?_ ?_
      | refine LeO.bind ?_ (fun _ => ?_)
set_option maxHeartbeats 8000000 in
set_option maxRecDepth 100000 in
theorem dowserref02_On.calls (k : Nat) (a0 : Int) (a1 : ByteArray) (r : Int) (w : World) (h : dowserref02_On.f k a0 a1 = some r) :
    Calls Try.prog 20 #[.int .u32 a0, .string a1] w fun e w' => e = .returned (.int .u32 r) ∧ Drawn0 w w' := by
  have H : (dowserref02_On.l0 k a0 a1 0) = some r := h
  clear h
  have H' := Aside0.mk H
  clear H
  go_enter Try.func20, Try.ntmps20
  go_wp2
  go_loopg [0, 5] k (fun kq v0 v5 w' => ∃ (x0_1 : Int) (x5_1 : Int), v0 = .int .u32 x0_1 ∧ v5 = .int .i64 x5_1 ∧ Aside0 (dowserref02_On.l0 kq x0_1 a1 x5_1 = some r) ∧ Aside0 (kq ≤ k) ∧ Drawn0 w w')
  case atStart => exact ⟨(a0), (0), (by first | rfl | (simp; done) | (simp [*]; done)), (by first | rfl | (simp; done) | (simp [*]; done)), H', ⟨Nat.le_refl _⟩, by repeat (first | exact Drawn0.refl _ | apply Drawn0.step)⟩
  case round =>
    clear H'
    try clear c2
    try clear p2
    obtain ⟨x0_1, x5_1, rfl, rfl, HA, HK1, ⟨m1, rfl⟩⟩ := hrel
    cases gk with
    | zero => exact absurd HA.out (by simp [dowserref02_On.l0])
    | succ k1 =>
      have H := HA.out
      clear HA
      simp only [dowserref02_On.l0] at H
      by_cases c3 : x5_1 < (a1.size : Int)
      · rw [if_pos c3] at H
        have c3b0 : decide (x5_1 < (a1.size : Int)) = true := decide_eq_true c3
        clear c3
        by_cases c4 : 0 ≤ x5_1
        · rw [if_pos c4] at H
          have c4b0 : decide (0 ≤ x5_1) = true := decide_eq_true c4
          clear c4
          have H' := Aside0.mk H
          clear H
          have p5 : 0 ≤ (x5_1 : Int) := of_decide_eq_true (by first | (with_reducible assumption) | assumption)
          have q5 : x5_1 < (a1.size : Int) := of_decide_eq_true (by first | (with_reducible assumption) | assumption)
          have hx5 := bt_at a1 x5_1
          replace p5 := eq_true p5
          replace q5 := eq_true q5
          go_wp2
          go_loopg [0, 7] k1 (fun kq v0 v7 w' => ∃ (x0_2 : Int) (x7_2 : Int), v0 = .int .u32 x0_2 ∧ v7 = .int .i64 x7_2 ∧ Aside0 (dowserref02_On.l1 kq x0_2 a1 x5_1 (wrap64 (bt a1 x5_1)) x7_2 = some r) ∧ Aside0 (kq ≤ k1) ∧ Drawn0 w w')
          case atStart => exact ⟨(x0_1), (128), (by first | rfl | (simp; done) | (simp [*]; done)), (by first | rfl | (simp; done) | (simp [*]; done)), H', ⟨Nat.le_refl _⟩, by repeat (first | exact Drawn0.refl _ | apply Drawn0.step)⟩
          case round =>
            clear H'
            try clear c2
            try clear p2
            try clear c3
            try clear c3b0
            try clear c4
            try clear c4b0
            try clear p5
            try clear q5
            try clear hx5
            try clear p2
            try clear p5
            try clear q5
            obtain ⟨x0_2, x7_2, rfl, rfl, HA, HK2, ⟨m2, rfl⟩⟩ := hrel
            cases gk with
            | zero => exact absurd HA.out (by simp [dowserref02_On.l1])
            | succ k2 =>
              have H := HA.out
              clear HA
              simp only [dowserref02_On.l1] at H
              by_cases c6 : x7_2 > 0
              · rw [if_pos c6] at H
                have c6b0 : decide (0 < x7_2) = true := decide_eq_true c6
                clear c6
                by_cases c7 : x7_2 = 0
                · rw [if_pos c7] at H
                  exact absurd H (by simp)
                · rw [if_neg c7] at H
                  have c7b0 : (x7_2 == 0) = false := beq_eq_false_iff_ne.mpr c7
                  have c7b1 : (x7_2 != 0) = true := bne_iff_ne.mpr c7
                  by_cases c8 : (((Int.tmod (wrap64 (Int.tdiv (wrap64 (bt a1 x5_1)) x7_2)) 2) == 1) != (decide (x0_2 ≥ 2147483648))) = true
                  · rw [if_pos c8] at H
                    have c8b0 : (((Int.tmod (wrap64 (Int.tdiv (wrap64 (bt a1 x5_1)) x7_2)) 2) == 1) != (decide (x0_2 ≥ 2147483648))) = true := c8
                    (try (have c8b1 : decide (((Int.tmod (wrap64 (Int.tdiv (wrap64 (bt a1 x5_1)) x7_2)) 2) == 1) = (decide (x0_2 ≥ 2147483648))) = false := by simpa using c8))
                    (try (have c8b2 : (((Int.tmod (wrap64 (Int.tdiv (wrap64 (bt a1 x5_1)) x7_2)) 2) == 1) == (decide (x0_2 ≥ 2147483648))) = false := by simpa using c8))
                    (try (have c8b3 : ¬ (((Int.tmod (wrap64 (Int.tdiv (wrap64 (bt a1 x5_1)) x7_2)) 2) == 1) = (decide (x0_2 ≥ 2147483648))) := by simpa using c8))
                    clear c8
                    have H' := Aside0.mk H
                    clear H
                    go_wp2
                    go_roundg k2
                    case measure => have := HK1.out; have := HK2.out; omega
                    case rel => exact ⟨(Go.bits .xor .u32 ((x0_2 + x0_2) % 4294967296) 79764919), (wrap64 (Int.tdiv x7_2 2)), (by first | rfl | (simp; done) | (simp [*]; done)), (by first | rfl | (simp; done) | (simp [*]; done)), H', ⟨by have := HK1.out; have := HK2.out; omega⟩, by repeat (first | exact Drawn0.refl _ | apply Drawn0.step)⟩
                  · rw [if_neg c8] at H
                    have c8b0 : (((Int.tmod (wrap64 (Int.tdiv (wrap64 (bt a1 x5_1)) x7_2)) 2) == 1) != (decide (x0_2 ≥ 2147483648))) = false := by simpa using c8
                    (try (have c8b1 : decide (((Int.tmod (wrap64 (Int.tdiv (wrap64 (bt a1 x5_1)) x7_2)) 2) == 1) = (decide (x0_2 ≥ 2147483648))) = true := by simpa using c8))
                    (try (have c8b2 : (((Int.tmod (wrap64 (Int.tdiv (wrap64 (bt a1 x5_1)) x7_2)) 2) == 1) == (decide (x0_2 ≥ 2147483648))) = true := by simpa using c8))
                    clear c8
                    have H' := Aside0.mk H
                    clear H
                    go_wp2
                    go_roundg k2
                    case measure => have := HK1.out; have := HK2.out; omega
                    case rel => exact ⟨((x0_2 + x0_2) % 4294967296), (wrap64 (Int.tdiv x7_2 2)), (by first | rfl | (simp; done) | (simp [*]; done)), (by first | rfl | (simp; done) | (simp [*]; done)), H', ⟨by have := HK1.out; have := HK2.out; omega⟩, by repeat (first | exact Drawn0.refl _ | apply Drawn0.step)⟩
              · rw [if_neg c6] at H
                have c6b0 : decide (0 < x7_2) = false := decide_eq_false c6
                clear c6
                have H' := Aside0.mk H
                clear H
                go_wp2
                go_roundg k2
                case measure => have := HK1.out; have := HK2.out; omega
                case rel => exact ⟨(x0_2), (wrap64 (x5_1 + 1)), (by first | rfl | (simp; done) | (simp [*]; done)), (by first | rfl | (simp; done) | (simp [*]; done)), H', ⟨by have := HK1.out; have := HK2.out; omega⟩, by repeat (first | exact Drawn0.refl _ | apply Drawn0.step)⟩
        · rw [if_neg c4] at H
          exact absurd H (by simp)
      · rw [if_neg c3] at H
        have c3b0 : decide (x5_1 < (a1.size : Int)) = false := decide_eq_false c3
        clear c3
        obtain rfl := Option.some.inj H
        go_wp2
        go_ret
        exact ⟨by first | rfl | (simp; done) | (simp [*]; done), by repeat (first | exact Drawn0.refl _ | apply Drawn0.step)⟩

end Go.Proofs.Ytfkgidiedpkbdaa.PB

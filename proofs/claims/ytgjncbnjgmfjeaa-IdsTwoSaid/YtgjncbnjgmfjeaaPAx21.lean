-- Written by this session's own program wip/bin/dprint.py, over the kit's print.py, with own texts for some functions: no print of print.sh's
import Derived.Test.YtgjncbnjgmfjeaaPAx0
import Derived.Test.YtgjncbnjgmfjeaaPAx1
namespace Go.Proofs.Ytgjncbnjgmfjeaa.PA
open Go.RowKit Go.Proofs.YtgjncbnjgmfjeaaW.PrintWords Go.Proofs.YtgjncbnjgmfjeaaW.PrintLast Go.Proofs.YtgjncbnjgmfjeaaW.PrintMore
attribute [local go_sem] max2_int min2_int max_two min_two max_three min_three max_four min_four   -- for this text's walks alone
set_option linter.unusedVariables false
set_option linter.unusedSimpArgs false


/-! ### ids_Within: function 14 (own text) -/
section
def withinStep (_ : Bool) (_ : Int) (p q : Bool) : Bool × Bool := (q || !p, q || !p)
def withinI (w0 : World) (mb : Nat) (_ : Nat) (b : Bool) (W : World) : Prop := Below w0.heap.size w0 W ∧ w0.heap.size ≤ mb ∧ W.heap[mb]? = some (.cells #[.bool b] 4 (0, 0))
theorem withinClosure (w0 : World) (mb : Nat) (k : Nat) (b : Bool) (x : Int) (p q : Bool) (W : World) (H : withinI w0 mb (k + 1) b W) :
    Calls Try.prog 32 #[.int .i64 x, .bool p, .bool q, .pointer (some ⟨mb, 0, none⟩)] W fun e W' => e = .returned (.bool (withinStep b x p q).2) ∧ withinI w0 mb k (withinStep b x p q).1 W' := by
  obtain ⟨h1, h2, h3⟩ := H
  have hx := cell_of_one h3
  have hf := free_of_one h3
  have H1 := Aside0.mk h1
  have H2 := Aside0.mk h2
  have H3 := Aside0.mk h3
  clear h1 h2 h3
  cases p <;> cases q
  all_goals (go_enter Try.func32, Try.ntmps32; go_wp2; go_ret; exact ⟨rfl, H1.out.setCell (p := ⟨mb, 0, none⟩) H2.out _, H2.out, one_setCell H3.out⟩)
def ids_Within.f (l0 l1 : List Int) : Option Bool := if l0.length + l1.length ≤ 1000000 then some (walkN withinStep (l0.length + l1.length) l0 l1 true) else none
set_option maxHeartbeats 1000000 in
set_option maxRecDepth 100000 in
theorem ids_Within.calls (A0 : Option Addr) (c0 : Nat) (l0 : List Int) (A1 : Option Addr) (c1 : Nat) (l1 : List Int) (r : Bool) (w : World) (hr0 : Kd.C (Kd.int .i64) w A0 l0.length l0) (hc0 : l0.length ≤ c0) (hr1 : Kd.C (Kd.int .i64) w A1 l1.length l1) (hc1 : l1.length ≤ c1) (h : ids_Within.f l0 l1 = some r) :
    Calls Try.prog 14 #[.slice A0 l0.length c0, .slice A1 l1.length c1] w fun e w' => e = .returned (.bool r) ∧ Below w.heap.size w w' := by
  unfold ids_Within.f at h
  by_cases hm : l0.length + l1.length ≤ 1000000
  · rw [if_pos hm] at h
    obtain rfl := Option.some.inj h
    have eg : ∀ args w, (callFunc 32 args).run Try.prog w = .ok (.enter 32 args) w := fun args w => enters_of Try.func32 (by kernel_rfl) rfl args w
    have HW := fun W hI => walkCalls withinStep (withinI w w.heap.size) w.heap.size w 32 #[.pointer (some ⟨w.heap.size, 0, none⟩)] eg
      (fun k s W H => H.1) (fun k s W n H => ⟨pw_below_drewN H.1 n, H.2.1, H.2.2⟩) (fun k s W _ H => H) (fun k s x p q W H => withinClosure w _ k s x p q W H) true W A0 c0 l0 A1 c1 l1 ⟨hc0, fun W hW => Kd.C_below hr0 hW⟩ ⟨hc1, fun W hW => Kd.C_below hr1 hW⟩ hI hm
    have HWC := Aside0.mk HW
    have hone : ∀ v, Aside0 (((w.alloc (.cells #[v] 4)).heap[w.heap.size]? = some (.cells #[v] 4 (0, 0)))) := fun v => ⟨blk_new w _⟩
    obtain ⟨R, hR⟩ : ∃ R, R = walkN withinStep (l0.length + l1.length) l0 l1 true := ⟨_, rfl⟩
    rw [← hR] at HWC ⊢
    clear HW hr0 hr1 hc0 hc1 hm h hR
    go_enter Try.func14, Try.ntmps14
    go_wp2_with (first | (go_at_call 31; refine (HWC.out _ ?s1).mono ?_; (case s1 => exact ⟨below_alloc (Below.refl _ _) _, Nat.le_refl _, blk_new w _⟩); rintro e w2 ⟨rfl, hI⟩; obtain ⟨h1, h2, h3⟩ := hI; have hx := cell_of_one h3; have N0 := Aside0.mk h1; clear h1 h2 h3))
    go_ret
    exact ⟨rfl, N0.out⟩
  · rw [if_neg hm] at h; cases h
end

/-! ### ids_Is: function 15 -/
def ids_Is.l0 : Nat → List Int → Int → Option (Bool)
  | 0, _, _ => none
  | k + 1, x0, x3 => if x3 < (x0.length : Int) then (if 0 ≤ (wrap64 (x3 - 1)) then (if (wrap64 (x3 - 1)) < (x0.length : Int) then (if 0 ≤ x3 then (if (rd x0 (wrap64 (x3 - 1))) ≥ (rd x0 x3) then (some false) else (ids_Is.l0 k x0 (wrap64 (x3 + 1)))) else (none)) else (none)) else (none)) else (some true)
def ids_Is.f (k : Nat) (l0 : List Int) : Option (Bool) := ids_Is.l0 k l0 1
theorem ids_Is.mono_l : ∀ k, (∀ y0 y1, LeO (ids_Is.l0 k y0 y1) (ids_Is.l0 (k + 1) y0 y1))
  | 0 => fun _ _ r h => by simp [ids_Is.l0] at h
  | k + 1 => by
    have ih0 := ids_Is.mono_l k
    · intro y0 y1
      unfold ids_Is.l0
      repeat' first
      | (with_reducible exact ih0 _ _)
      | (with_reducible exact LeO.refl _)
      | (with_reducible exact LeO.none _)
      | (with_reducible refine LeO.ite ?_ ?_)
      | (with_reducible refine LeO.bind ?_ (fun _ => ?_))
      | exact ih0 _ _
      | exact LeO.none _
      | refine LeO.ite ?_ ?_
      | refine LeO.bind ?_ (fun _ => ?_)
theorem ids_Is.mono : ∀ a0 k, LeO (ids_Is.f k a0) (ids_Is.f (k + 1) a0) := by
  intro a0 k
  have ih0 := ids_Is.mono_l k
  unfold ids_Is.f
  repeat' first
      | (with_reducible exact ih0 _ _)
      | (with_reducible exact LeO.refl _)
      | (with_reducible exact LeO.none _)
      | (with_reducible refine LeO.ite ?_ ?_)
      | (with_reducible refine LeO.bind ?_ (fun _ => ?_))
      | exact ih0 _ _
      | exact LeO.none _
      | refine LeO.ite ?_ ?_
      | refine LeO.bind ?_ (fun _ => ?_)
set_option maxHeartbeats 40000000 in
set_option maxRecDepth 100000 in
theorem ids_Is.calls (k : Nat) (A0 : Option Addr) (c0 : Nat) (l0 : List Int) (r : Bool) (w : World) (hr0 : Kd.C (Kd.int .i64) w A0 l0.length l0) (hc0 : l0.length ≤ c0) (h : ids_Is.f k l0 = some r) :
    Calls Try.prog 15 #[.slice A0 l0.length c0] w fun e w' => e = .returned (.bool r) ∧ Drawn0 w w' := by
  have HR0 := Aside0.mk hr0
  have HC0 := Aside0.mk hc0
  clear hr0 hc0
  have H : (ids_Is.l0 k l0 1) = some r := h
  clear h
  have H' := Aside0.mk H
  clear H
  go_enter Try.func15, Try.ntmps15
  go_wp2
  repeat (go_quiet (fail); try go_wp2)
  go_loopg [3] k (fun kq v3 w' => ∃ (x3_1 : Int), v3 = .int .i64 x3_1 ∧ Aside0 (ids_Is.l0 kq l0 x3_1 = some r) ∧ Aside0 (kq ≤ k) ∧ Drawn0 w w')
  case atStart => exact ⟨(1), (by first | rfl | (simp; done) | (simp [*]; done) | (simp; rw [Bool.eq_iff_iff]; simp; done)), H', ⟨Nat.le_refl _⟩, by repeat (first | exact Drawn0.refl _ | apply Drawn0.step)⟩
  case round =>
    clear H'
    try clear c1
    obtain ⟨x3_1, rfl, HA, HK1, ⟨m1, rfl⟩⟩ := hrel
    cases gk with
    | zero => exact absurd HA.out (by simp [ids_Is.l0])
    | succ k1 =>
      have H := HA.out
      clear HA
      simp only [ids_Is.l0] at H
      by_cases c2 : x3_1 < (l0.length : Int)
      · rw [if_pos c2] at H
        have c2b0 : decide (x3_1 < (l0.length : Int)) = true := decide_eq_true c2
        clear c2
        obtain ⟨ji3, hji3⟩ : ∃ j_ : Int, (wrap64 (x3_1 - 1)) = j_ := ⟨_, rfl⟩
        replace H : (if 0 ≤ (ji3) then (if (ji3) < (l0.length : Int) then (if 0 ≤ x3_1 then (if (rd l0 (ji3)) ≥ (rd l0 x3_1) then (some false) else (ids_Is.l0 k1 l0 (wrap64 (x3_1 + 1)))) else (none)) else (none)) else (none)) = some r := by first | (rw [hji3] at H; exact H) | (simp only [hji3] at H ⊢; exact H)
        have hji3w : (IntKind.i64.wrap (x3_1 - 1)) = ji3 := (i64_w _).trans hji3
        by_cases c4 : 0 ≤ (ji3)
        · rw [if_pos c4] at H
          have c4b0 : decide (0 ≤ (ji3)) = true := decide_eq_true c4
          clear c4
          by_cases c5 : (ji3) < (l0.length : Int)
          · rw [if_pos c5] at H
            have c5b0 : decide ((ji3) < (l0.length : Int)) = true := decide_eq_true c5
            clear c5
            by_cases c6 : 0 ≤ x3_1
            · rw [if_pos c6] at H
              have c6b0 : decide (0 ≤ x3_1) = true := decide_eq_true c6
              clear c6
              by_cases c7 : (rd l0 (ji3)) ≥ (rd l0 x3_1)
              · rw [if_pos c7] at H
                have c7b0 : decide ((rd l0 x3_1) ≤ (rd l0 (ji3))) = true := decide_eq_true c7
                clear c7
                obtain rfl := Option.some.inj H
                have p378 : 0 ≤ ((ji3) : Int) := of_decide_eq_true (by first | (with_reducible assumption) | assumption)
                have q378 : (ji3) < (l0.length : Int) := of_decide_eq_true (by first | (with_reducible assumption) | assumption)
                obtain ⟨ad378, e378, hx378_0⟩ := Kd.at_int HR0.out (ji3) p378 q378
                cases e378
                replace p378 := eq_true p378
                replace q378 := eq_true q378
                have p379 : 0 ≤ (x3_1 : Int) := of_decide_eq_true (by first | (with_reducible assumption) | assumption)
                have q379 : x3_1 < (l0.length : Int) := of_decide_eq_true (by first | (with_reducible assumption) | assumption)
                obtain ⟨ad379, e379, hx379_0⟩ := Kd.at_int HR0.out x3_1 p379 q379
                obtain rfl : ad378 = ad379 := (by injection e379)
                replace p379 := eq_true p379
                replace q379 := eq_true q379
                go_wp2
                repeat (go_quiet (fail); try go_wp2)
                go_ret
                exact ⟨by first | rfl | (simp; done) | (simp only [← hji3] <;> (first | rfl | simp)) | (simp [*]; done), by repeat (first | exact Drawn0.refl _ | apply Drawn0.step)⟩
              · rw [if_neg c7] at H
                have c7b0 : decide ((rd l0 x3_1) ≤ (rd l0 (ji3))) = false := decide_eq_false c7
                clear c7
                have H' := Aside0.mk H
                clear H
                have p378 : 0 ≤ ((ji3) : Int) := of_decide_eq_true (by first | (with_reducible assumption) | assumption)
                have q378 : (ji3) < (l0.length : Int) := of_decide_eq_true (by first | (with_reducible assumption) | assumption)
                obtain ⟨ad378, e378, hx378_0⟩ := Kd.at_int HR0.out (ji3) p378 q378
                cases e378
                replace p378 := eq_true p378
                replace q378 := eq_true q378
                have p379 : 0 ≤ (x3_1 : Int) := of_decide_eq_true (by first | (with_reducible assumption) | assumption)
                have q379 : x3_1 < (l0.length : Int) := of_decide_eq_true (by first | (with_reducible assumption) | assumption)
                obtain ⟨ad379, e379, hx379_0⟩ := Kd.at_int HR0.out x3_1 p379 q379
                obtain rfl : ad378 = ad379 := (by injection e379)
                replace p379 := eq_true p379
                replace q379 := eq_true q379
                go_wp2
                repeat (go_quiet (fail); try go_wp2)
                go_roundg k1
                case measure => have := HK1.out; omega
                case rel => exact ⟨(wrap64 (x3_1 + 1)), (by first | rfl | (simp; done) | (simp [*]; done) | (simp; rw [Bool.eq_iff_iff]; simp; done)), H', ⟨by have := HK1.out; omega⟩, by repeat (first | exact Drawn0.refl _ | apply Drawn0.step)⟩
            · rw [if_neg c6] at H
              exact absurd H (by simp)
          · rw [if_neg c5] at H
            exact absurd H (by simp)
        · rw [if_neg c4] at H
          exact absurd H (by simp)
      · rw [if_neg c2] at H
        have c2b0 : decide (x3_1 < (l0.length : Int)) = false := decide_eq_false c2
        clear c2
        obtain rfl := Option.some.inj H
        go_wp2
        repeat (go_quiet (fail); try go_wp2)
        go_ret
        exact ⟨by first | rfl | (simp; done) | (simp [*]; done) | (simp; rw [Bool.eq_iff_iff]; simp; done), by repeat (first | exact Drawn0.refl _ | apply Drawn0.step)⟩

end Go.Proofs.Ytgjncbnjgmfjeaa.PA

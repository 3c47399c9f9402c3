-- Written by this session's own program wip/bin/dprint.py, over the kit's print.py, with own texts for some functions: no print of print.sh's
import Derived.Test.YtefiadhmcdfdoaaPDx0
namespace Go.Proofs.Ytefiadhmcdfdoaa.PD
open Go.RowKit Go.Proofs.YtefiadhmcdfdoaaW.PrintWords Go.Proofs.YtefiadhmcdfdoaaW.PrintLast Go.Proofs.YtefiadhmcdfdoaaW.PrintMore
attribute [local go_sem] max2_int min2_int max_two min_two max_three min_three max_four min_four   -- for this text's walks alone
set_option linter.unusedVariables false
set_option linter.unusedSimpArgs false

/-! ### ids_Is: function 27 -/
def ids_Is.l0 : Nat → List Int → Int → Option (Bool)
  | 0, _, _ => none
  | k + 1, x0, x3 => if x3 < (x0.length : Int) then (if 0 ≤ (wrap64 (x3 - 1)) then (if (wrap64 (x3 - 1)) < (x0.length : Int) then (if 0 ≤ x3 then (if (rd x0 (wrap64 (x3 - 1))) ≥ (rd x0 x3) then (some false) else (ids_Is.l0 k x0 (wrap64 (x3 + 1)))) else (none)) else (none)) else (none)) else (some true)
def ids_Is.f (k : Nat) (l0 : List Int) : Option (Bool) := ids_Is.l0 k l0 1
theorem ids_Is.mono_l : ∀ k, (∀ y0 y1, LeO (ids_Is.l0 k y0 y1) (ids_Is.l0 (k + 1) y0 y1))
  | 0 => fun _ _ r h => by simp [ids_Is.l0] at h
  | k + 1 => by
    have ih0 := ids_Is.mono_l k
    · intro y0 y1
      unfold ids_Is.l0
      repeat' first
      | (with_reducible exact ih0 _ _)
      | (with_reducible exact LeO.refl _)
      | (with_reducible exact LeO.none _)
      | (with_reducible refine LeO.ite ?_ ?_)
      | (with_reducible refine LeO.bind ?_ (fun _ => ?_))
      | exact ih0 _ _
      | exact LeO.none _
      | refine LeO.ite ?_ ?_
      | refine LeO.bind ?_ (fun _ => ?_)
theorem ids_Is.mono : ∀ a0 k, LeO (ids_Is.f k a0) (ids_Is.f (k + 1) a0) := by
  intro a0 k
  have ih0 := ids_Is.mono_l k
  unfold ids_Is.f
  repeat' first
      | (with_reducible exact ih0 _ _)
      | (with_reducible exact LeO.refl _)
      | (with_reducible exact LeO.none _)
      | (with_reducible refine LeO.ite ?_ ?_)
      | (with_reducible refine LeO.bind ?_ (fun _ => ?_))
      | exact ih0 _ _
      | exact LeO.none _
      | refine LeO.ite ?_ ?_
      | refine LeO.bind ?_ (fun _ => ?_)
set_option maxHeartbeats 40000000 in
set_option maxRecDepth 100000 in
theorem ids_Is.calls (k : Nat) (A0 : Option Addr) (c0 : Nat) (l0 : List Int) (r : Bool) (w : World) (hr0 : Kd.C (Kd.int .i64) w A0 l0.length l0) (hc0 : l0.length ≤ c0) (h : ids_Is.f k l0 = some r) :
    Calls Try.prog 27 #[.slice A0 l0.length c0] w fun e w' => e = .returned (.bool r) ∧ Drawn0 w w' := by
  have HR0 := Aside0.mk hr0
  have HC0 := Aside0.mk hc0
  clear hr0 hc0
  have H : (ids_Is.l0 k l0 1) = some r := h
  clear h
  have H' := Aside0.mk H
  clear H
  go_enter Try.func27, Try.ntmps27
  go_wp2
  repeat (go_quiet (fail); try go_wp2)
  go_loopg [3] k (fun kq v3 w' => ∃ (x3_1 : Int), v3 = .int .i64 x3_1 ∧ Aside0 (ids_Is.l0 kq l0 x3_1 = some r) ∧ Aside0 (kq ≤ k) ∧ Drawn0 w w')
  case atStart => exact ⟨(1), (by first | rfl | (simp; done) | (simp [*]; done) | (simp; rw [Bool.eq_iff_iff]; simp; done)), H', ⟨Nat.le_refl _⟩, by repeat (first | exact Drawn0.refl _ | apply Drawn0.step)⟩
  case round =>
    clear H'
    obtain ⟨x3_1, rfl, HA, HK1, ⟨m1, rfl⟩⟩ := hrel
    cases gk with
    | zero => exact absurd HA.out (by simp [ids_Is.l0])
    | succ k1 =>
      have H := HA.out
      clear HA
      simp only [ids_Is.l0] at H
      by_cases c2 : x3_1 < (l0.length : Int)
      · rw [if_pos c2] at H
        have c2b0 : decide (x3_1 < (l0.length : Int)) = true := decide_eq_true c2
        clear c2
        obtain ⟨ji3, hji3⟩ : ∃ j_ : Int, (wrap64 (x3_1 - 1)) = j_ := ⟨_, rfl⟩
        replace H : (if 0 ≤ (ji3) then (if (ji3) < (l0.length : Int) then (if 0 ≤ x3_1 then (if (rd l0 (ji3)) ≥ (rd l0 x3_1) then (some false) else (ids_Is.l0 k1 l0 (wrap64 (x3_1 + 1)))) else (none)) else (none)) else (none)) = some r := by first | (rw [hji3] at H; exact H) | (simp only [hji3] at H ⊢; exact H)
        have hji3w : (IntKind.i64.wrap (x3_1 - 1)) = ji3 := (i64_w _).trans hji3
        by_cases c4 : 0 ≤ (ji3)
        · rw [if_pos c4] at H
          have c4b0 : decide (0 ≤ (ji3)) = true := decide_eq_true c4
          clear c4
          by_cases c5 : (ji3) < (l0.length : Int)
          · rw [if_pos c5] at H
            have c5b0 : decide ((ji3) < (l0.length : Int)) = true := decide_eq_true c5
            clear c5
            by_cases c6 : 0 ≤ x3_1
            · rw [if_pos c6] at H
              have c6b0 : decide (0 ≤ x3_1) = true := decide_eq_true c6
              clear c6
              by_cases c7 : (rd l0 (ji3)) ≥ (rd l0 x3_1)
              · rw [if_pos c7] at H
                have c7b0 : decide ((rd l0 x3_1) ≤ (rd l0 (ji3))) = true := decide_eq_true c7
                clear c7
                obtain rfl := Option.some.inj H
                have p101 : 0 ≤ ((ji3) : Int) := of_decide_eq_true (by first | (with_reducible assumption) | assumption)
                have q101 : (ji3) < (l0.length : Int) := of_decide_eq_true (by first | (with_reducible assumption) | assumption)
                obtain ⟨ad101, e101, hx101_0⟩ := Kd.at_int HR0.out (ji3) p101 q101
                cases e101
                replace p101 := eq_true p101
                replace q101 := eq_true q101
                have p102 : 0 ≤ (x3_1 : Int) := of_decide_eq_true (by first | (with_reducible assumption) | assumption)
                have q102 : x3_1 < (l0.length : Int) := of_decide_eq_true (by first | (with_reducible assumption) | assumption)
                obtain ⟨ad102, e102, hx102_0⟩ := Kd.at_int HR0.out x3_1 p102 q102
                obtain rfl : ad101 = ad102 := (by injection e102)
                replace p102 := eq_true p102
                replace q102 := eq_true q102
                go_wp2
                repeat (go_quiet (fail); try go_wp2)
                go_ret
                exact ⟨by first | rfl | (simp; done) | (simp only [← hji3] <;> (first | rfl | simp)) | (simp [*]; done), by repeat (first | exact Drawn0.refl _ | apply Drawn0.step)⟩
              · rw [if_neg c7] at H
                have c7b0 : decide ((rd l0 x3_1) ≤ (rd l0 (ji3))) = false := decide_eq_false c7
                clear c7
                have H' := Aside0.mk H
                clear H
                have p101 : 0 ≤ ((ji3) : Int) := of_decide_eq_true (by first | (with_reducible assumption) | assumption)
                have q101 : (ji3) < (l0.length : Int) := of_decide_eq_true (by first | (with_reducible assumption) | assumption)
                obtain ⟨ad101, e101, hx101_0⟩ := Kd.at_int HR0.out (ji3) p101 q101
                cases e101
                replace p101 := eq_true p101
                replace q101 := eq_true q101
                have p102 : 0 ≤ (x3_1 : Int) := of_decide_eq_true (by first | (with_reducible assumption) | assumption)
                have q102 : x3_1 < (l0.length : Int) := of_decide_eq_true (by first | (with_reducible assumption) | assumption)
                obtain ⟨ad102, e102, hx102_0⟩ := Kd.at_int HR0.out x3_1 p102 q102
                obtain rfl : ad101 = ad102 := (by injection e102)
                replace p102 := eq_true p102
                replace q102 := eq_true q102
                go_wp2
                repeat (go_quiet (fail); try go_wp2)
                go_roundg k1
                case measure => have := HK1.out; omega
                case rel => exact ⟨(wrap64 (x3_1 + 1)), (by first | rfl | (simp; done) | (simp [*]; done) | (simp; rw [Bool.eq_iff_iff]; simp; done)), H', ⟨by have := HK1.out; omega⟩, by repeat (first | exact Drawn0.refl _ | apply Drawn0.step)⟩
            · rw [if_neg c6] at H
              exact absurd H (by simp)
          · rw [if_neg c5] at H
            exact absurd H (by simp)
        · rw [if_neg c4] at H
          exact absurd H (by simp)
      · rw [if_neg c2] at H
        have c2b0 : decide (x3_1 < (l0.length : Int)) = false := decide_eq_false c2
        clear c2
        obtain rfl := Option.some.inj H
        go_wp2
        repeat (go_quiet (fail); try go_wp2)
        go_ret
        exact ⟨by first | rfl | (simp; done) | (simp [*]; done) | (simp; rw [Bool.eq_iff_iff]; simp; done), by repeat (first | exact Drawn0.refl _ | apply Drawn0.step)⟩

/-! ### setcode_number: function 28 -/
def setcode_number.f (a0 : Int) : Option (Bool) := if a0 ≥ 0 then (some (decide (a0 ≤ 2147483647))) else (some false)
set_option maxHeartbeats 40000000 in
set_option maxRecDepth 100000 in
theorem setcode_number.calls (a0 : Int) (r : Bool) (w : World) (h : setcode_number.f a0 = some r) :
    Calls Try.prog 28 #[.int .i64 a0] w fun e w' => e = .returned (.bool r) ∧ Drawn0 w w' := by
  have H : (if a0 ≥ 0 then (some (decide (a0 ≤ 2147483647))) else (some false)) = some r := h
  clear h
  by_cases c2 : a0 ≥ 0
  · rw [if_pos c2] at H
    have c2b0 : decide (0 ≤ a0) = true := decide_eq_true c2
    clear c2
    obtain rfl := Option.some.inj H
    go_enter Try.func28, Try.ntmps28
    go_wp2
    go_ret
    exact ⟨by first | rfl | (simp; done) | (simp [*]; done) | (simp; rw [Bool.eq_iff_iff]; simp; done), by repeat (first | exact Drawn0.refl _ | apply Drawn0.step)⟩
  · rw [if_neg c2] at H
    have c2b0 : decide (0 ≤ a0) = false := decide_eq_false c2
    clear c2
    obtain rfl := Option.some.inj H
    go_enter Try.func28, Try.ntmps28
    go_wp2
    go_ret
    exact ⟨by first | rfl | (simp; done) | (simp [*]; done) | (simp; rw [Bool.eq_iff_iff]; simp; done), by repeat (first | exact Drawn0.refl _ | apply Drawn0.step)⟩

-- NOT PRINTED: function 53 (abi_NoEscape)

-- NOT PRINTED: function 46 (strings_Builder_copyCheck)

-- NOT PRINTED: function 29 (strings_Builder_WriteString)

/-! ### varint_Num: function 30 -/
def varint_Num.l0 : Nat → Int → List Int → Option (ByteArray)
  | 0, _, _ => none
  | k + 1, x0, x3 => if x0 ≥ 128 then (if x3.length < 140737488355328 then (varint_Num.l0 k (x0 / 128) (x3 ++ [Go.bits .or .u8 ((x0) % 256) 128])) else (none)) else (if x3.length < 140737488355328 then (some (strOfNums (x3 ++ [(x0) % 256]))) else (none))
def varint_Num.f (k : Nat) (a0 : Int) : Option (ByteArray) := varint_Num.l0 k a0 ([] : List Int)
theorem varint_Num.mono_l : ∀ k, (∀ y0 y1, LeO (varint_Num.l0 k y0 y1) (varint_Num.l0 (k + 1) y0 y1))
  | 0 => fun _ _ r h => by simp [varint_Num.l0] at h
  | k + 1 => by
    have ih0 := varint_Num.mono_l k
    · intro y0 y1
      unfold varint_Num.l0
      repeat' first
      | (with_reducible exact ih0 _ _)
      | (with_reducible exact LeO.refl _)
      | (with_reducible exact LeO.none _)
      | (with_reducible refine LeO.ite ?_ ?_)
      | (with_reducible refine LeO.bind ?_ (fun _ => ?_))
      | exact ih0 _ _
      | exact LeO.none _
      | refine LeO.ite ?_ ?_
      | refine LeO.bind ?_ (fun _ => ?_)
theorem varint_Num.mono : ∀ a0 k, LeO (varint_Num.f k a0) (varint_Num.f (k + 1) a0) := by
  intro a0 k
  have ih0 := varint_Num.mono_l k
  unfold varint_Num.f
  repeat' first
      | (with_reducible exact ih0 _ _)
      | (with_reducible exact LeO.refl _)
      | (with_reducible exact LeO.none _)
      | (with_reducible refine LeO.ite ?_ ?_)
      | (with_reducible refine LeO.bind ?_ (fun _ => ?_))
      | exact ih0 _ _
      | exact LeO.none _
      | refine LeO.ite ?_ ?_
      | refine LeO.bind ?_ (fun _ => ?_)
set_option maxHeartbeats 40000000 in
set_option maxRecDepth 100000 in
theorem varint_Num.calls (k : Nat) (a0 : Int) (r : ByteArray) (w : World) (h : varint_Num.f k a0 = some r) :
    Calls Try.prog 30 #[.int .u64 a0] w fun e w' => e = .returned (.string r) ∧ Below w.heap.size w w' := by
  have HB := Aside0.mk (Below.refl w.heap.size w)
  have H : (varint_Num.l0 k a0 ([] : List Int)) = some r := h
  clear h
  have H' := Aside0.mk H
  clear H
  go_enter Try.func30, Try.ntmps30
  go_wp2
  go_loopg [0, 3] k (fun kq v0 v3 w' => ∃ (x0_1 : Int) (x3_1 : List Int), v0 = .int .u64 x0_1 ∧ Aside0 (varint_Num.l0 kq x0_1 x3_1 = some r) ∧ Aside0 (kq ≤ k) ∧ Aside0 (Kd.R (Kd.int .u8) 5 w' w.heap.size (fun _ => True) v3 x3_1) ∧ Aside0 (Below w.heap.size w w'))
  case atStart => exact ⟨(a0), (([] : List Int)), (by first | rfl | (simp; done) | (simp [*]; done) | (simp; rw [Bool.eq_iff_iff]; simp; done)), H', ⟨Nat.le_refl _⟩, ⟨by first | exact Kd.R_nil _ _ _ _ _ | exact Kd.N_nil _ _ _ _ _ | exact Kd.V_nil _ _ _ _ _ | exact Kd.Q_nil _ _ _ _ _ | exact Kd.S_nil _ _ _ _ _⟩, ⟨by repeat (first | (with_reducible first | exact HB.out | apply below_alloc | apply pw_below_drewN | apply below_drew1) | exact HB.out)⟩⟩
  case round =>
    clear H'
    obtain ⟨x0_1, x3_1, rfl, HA, HK1, HO_3, HB⟩ := hrel
    cases gk with
    | zero => exact absurd HA.out (by simp [varint_Num.l0])
    | succ k1 =>
      have H := HA.out
      clear HA
      simp only [varint_Num.l0] at H
      by_cases c2 : x0_1 ≥ 128
      · rw [if_pos c2] at H
        have c2b0 : decide (128 ≤ x0_1) = true := decide_eq_true c2
        clear c2
        by_cases c3 : x3_1.length < 140737488355328
        · rw [if_pos c3] at H
          have LMc3 := Aside0.mk c3
          clear c3
          obtain ⟨y103, hy103⟩ : ∃ y_ : List Int, y_ = (x3_1 ++ [Go.bits .or .u8 ((x0_1) % 256) 128]) := ⟨_, rfl⟩
          replace H : (varint_Num.l0 k1 (x0_1 / 128) y103) = some r := by first | (rw [hy103]; with_reducible exact H) | (have H2_ := (Option.bind_some _ _).symm.trans H; rw [hy103]; with_reducible exact H2_) | (have H2_ := (Option.bind_some _ _).symm.trans H; with_reducible exact H2_) | with_reducible exact H | (rw [hy103]; exact H) | exact H
          have Ny103 := Aside0.mk hy103
          clear hy103
          have H' := Aside0.mk H
          clear H
          go_wp2_with (first | ((with_reducible refine gate_builtin (b := .append) (xs := #[.tmp 6, .tmp 10]) rfl ?_); at_builtin; refine Kd.R_append (Kd.int .u8) (w0 := w) w.heap.size rfl (.tmp 6) (.tmp 10) 57 5 (.int .u8 0) 1 rfl Try.underlying57 info5 rfl (by decide) (by omega) u3 x3_1 (Go.bits .or .u8 ((x0_1) % 256) 128) [.int .u8 (Go.bits .or .u8 ((x0_1) % 256) 128)] (fun _ => True) (fun _ => False) rfl rfl ?aP (fun _ hk => hk.elim) ?aF ?aO ?aB ?aS ?aL ?_; (case aP => exact rfl); (case aB => exact (by repeat (first | (with_reducible first | exact HB.out | apply below_alloc | apply pw_below_drewN | apply below_drew1) | exact HB.out))); (case aF => exact (fun _ _ => trivial)); (case aO => exact (by (with_reducible repeat (first | apply Kd.R_alloc | apply Kd.R_drewN | apply Kd.R_drew)); exact HO_3.out)); (case aS => exact (below_size (by repeat (first | (with_reducible first | exact HB.out | apply below_alloc | apply pw_below_drewN | apply below_drew1) | exact HB.out)))); (case aL => have := LMc3.out; omega); intro v104 w4 ho hb hg hat; rw [← Ny103.out] at ho; have n0_ := Aside0.mk (hb); have n1_ := Aside0.mk (ho); clear HB; clear HO_3; have HB := n0_; have HO105 := n1_; clear n0_ n1_; clear ho hb hg hat))
          go_roundg k1
          case measure => have := HK1.out; omega
          case rel => exact ⟨(x0_1 / 128), (y103), (by first | rfl | (simp; done) | (simp [*]; done) | (simp; rw [Bool.eq_iff_iff]; simp; done)), H', ⟨by have := HK1.out; omega⟩, ⟨by (with_reducible repeat (first | apply Kd.R_alloc | apply Kd.R_drewN | apply Kd.R_drew)); exact HO105.out⟩, ⟨by repeat (first | (with_reducible first | exact HB.out | apply below_alloc | apply pw_below_drewN | apply below_drew1) | exact HB.out)⟩⟩
        · rw [if_neg c3] at H
          exact absurd H (by simp)
      · rw [if_neg c2] at H
        have c2b0 : decide (128 ≤ x0_1) = false := decide_eq_false c2
        clear c2
        by_cases c5 : x3_1.length < 140737488355328
        · rw [if_pos c5] at H
          have LMc5 := Aside0.mk c5
          clear c5
          obtain ⟨y106, hy106⟩ : ∃ y_ : List Int, y_ = (x3_1 ++ [(x0_1) % 256]) := ⟨_, rfl⟩
          replace H : (some (strOfNums y106)) = some r := by first | (rw [hy106]; with_reducible exact H) | (have H2_ := (Option.bind_some _ _).symm.trans H; rw [hy106]; with_reducible exact H2_) | (have H2_ := (Option.bind_some _ _).symm.trans H; with_reducible exact H2_) | with_reducible exact H | (rw [hy106]; exact H) | exact H
          have Ny106 := Aside0.mk hy106
          clear hy106
          obtain rfl := Option.some.inj H
          go_wp2_with (first | ((with_reducible refine gate_builtin (b := .append) (xs := #[.tmp 14, .tmp 17]) rfl ?_); at_builtin; refine Kd.R_append (Kd.int .u8) (w0 := w) w.heap.size rfl (.tmp 14) (.tmp 17) 57 5 (.int .u8 0) 1 rfl Try.underlying57 info5 rfl (by decide) (by omega) u3 x3_1 ((x0_1) % 256) [.int .u8 ((x0_1) % 256)] (fun _ => True) (fun _ => False) rfl rfl ?aP (fun _ hk => hk.elim) ?aF ?aO ?aB ?aS ?aL ?_; (case aP => exact rfl); (case aB => exact (by repeat (first | (with_reducible first | exact HB.out | apply below_alloc | apply pw_below_drewN | apply below_drew1) | exact HB.out))); (case aF => exact (fun _ _ => trivial)); (case aO => exact (by (with_reducible repeat (first | apply Kd.R_alloc | apply Kd.R_drewN | apply Kd.R_drew)); exact HO_3.out)); (case aS => exact (below_size (by repeat (first | (with_reducible first | exact HB.out | apply below_alloc | apply pw_below_drewN | apply below_drew1) | exact HB.out)))); (case aL => have := LMc5.out; omega); intro v107 w6 ho hb hg hat; rw [← Ny106.out] at ho; have n0_ := Aside0.mk (hb); have n1_ := Aside0.mk (ho); clear HB; clear HO_3; have HB := n0_; have HO108 := n1_; clear n0_ n1_; clear ho hb hg hat; have hcv7 := own_string (P := Try.prog) Try.underlying57 Try.underlying5 Try.underlying9 (Kd.own_of_R HO108.out)))
          go_ret
          exact ⟨by first | rfl | (simp [errW_none, errW_some] <;> rfl) | (simp [*, errW_none, errW_some] <;> rfl), by repeat (first | (with_reducible first | exact HB.out | apply below_alloc | apply pw_below_drewN | apply below_drew1) | exact HB.out)⟩
        · rw [if_neg c5] at H
          exact absurd H (by simp)

-- NOT PRINTED: function 31 (strings_Builder_String)


/-! ### setcode_Encode: function 10 (own text) -/
def setcode_Encode.l0 : Nat → List Int → Nat → Int → List UInt8 → Option ByteArray
  | 0, _, _, _, _ => none
  | k + 1, l, i, last, acc => if i < l.length then (varint_Num.f k (IntKind.u64.wrap (wrap64 (wrap64 (rd l (i : Int) - last) - 1)))).bind fun t => (if acc.length + t.size ≤ 140737488355328 then setcode_Encode.l0 k l (i + 1) (rd l (i : Int)) (acc ++ t.data.toList) else none) else some ⟨acc.toArray⟩
def setcode_Encode.b (k : Nat) (l : List Int) : Option (ByteArray × Int) := if l.length ≤ 9223372036854775807 then (varint_Num.f k (l.length : Int)).bind fun t => (if t.size ≤ 140737488355328 then (setcode_Encode.l0 k l 0 (-1) t.data.toList).bind fun s => some (s, 0) else none) else none
def setcode_Encode.f (k : Nat) (l0 : List Int) : Option (ByteArray × Int) := (ids_Is.f k l0).bind fun t => if t = true then (if 0 < l0.length then (setcode_number.f (rd l0 0)).bind fun a => (if a = true then (setcode_number.f (rd l0 (wrap64 ((l0.length : Int) - 1)))).bind fun b => (if b = true then setcode_Encode.b k l0 else some (⟨#[]⟩, 1)) else some (⟨#[]⟩, 1)) else setcode_Encode.b k l0) else some (⟨#[]⟩, 1)
theorem setcode_Encode.mono_l : ∀ k l i last acc, LeO (setcode_Encode.l0 k l i last acc) (setcode_Encode.l0 (k + 1) l i last acc)
  | 0 => fun _ _ _ _ => LeO.none _
  | k + 1 => fun l i last acc => by
    have ih := setcode_Encode.mono_l k
    unfold setcode_Encode.l0
    exact LeO.ite (LeO.bind (varint_Num.mono _ _) (fun t => LeO.ite (ih _ _ _ _) (LeO.refl _))) (LeO.refl _)
theorem setcode_Encode.mono_b (k : Nat) (l : List Int) : LeO (setcode_Encode.b k l) (setcode_Encode.b (k + 1) l) := by
  unfold setcode_Encode.b
  exact LeO.ite (LeO.bind (varint_Num.mono _ _) (fun t => LeO.ite (LeO.bind (setcode_Encode.mono_l _ _ _ _ _) (fun _ => LeO.refl _)) (LeO.refl _))) (LeO.refl _)
theorem setcode_Encode.mono : ∀ a0 k, LeO (setcode_Encode.f k a0) (setcode_Encode.f (k + 1) a0) := by
  intro a0 k
  unfold setcode_Encode.f
  exact LeO.bind (ids_Is.mono _ _) (fun t => LeO.ite (LeO.ite (LeO.bind (LeO.refl _) (fun a => LeO.ite (LeO.bind (LeO.refl _) (fun b => LeO.ite (setcode_Encode.mono_b _ _) (LeO.refl _))) (LeO.refl _))) (setcode_Encode.mono_b _ _)) (LeO.refl _))
/-- What the tests at the head of Encode come to. -/
inductive setcode_Encode.Head (k : Nat) (l : List Int) : Bool → Prop
  | no (h : Aside0 (ids_Is.f k l = some false)) : Head k l false
  | empty (h : Aside0 (ids_Is.f k l = some true)) (hn : ¬ 0 < l.length) : Head k l true
  | first (h : Aside0 (ids_Is.f k l = some true)) (hn : 0 < l.length) (h1 : Aside0 (setcode_number.f (rd l 0) = some false)) : Head k l false
  | last (h : Aside0 (ids_Is.f k l = some true)) (hn : 0 < l.length) (h1 : Aside0 (setcode_number.f (rd l 0) = some true)) (h2 : Aside0 (setcode_number.f (rd l (wrap64 ((l.length : Int) - 1))) = some false)) : Head k l false
  | good (h : Aside0 (ids_Is.f k l = some true)) (hn : 0 < l.length) (h1 : Aside0 (setcode_number.f (rd l 0) = some true)) (h2 : Aside0 (setcode_number.f (rd l (wrap64 ((l.length : Int) - 1))) = some true)) : Head k l true
theorem setcode_Encode.heads (k : Nat) (l : List Int) (r : ByteArray × Int) (h : setcode_Encode.f k l = some r) : (setcode_Encode.Head k l false ∧ r = (⟨#[]⟩, 1)) ∨ (setcode_Encode.Head k l true ∧ setcode_Encode.b k l = some r) := by
  unfold setcode_Encode.f at h
  obtain ⟨t, h0, h⟩ := Option.bind_eq_some_iff.mp h
  cases t with
  | false => rw [if_neg (by simp)] at h; exact .inl ⟨.no ⟨h0⟩, (Option.some.inj h).symm⟩
  | true =>
    rw [if_pos rfl] at h
    by_cases hn : 0 < l.length
    · rw [if_pos hn] at h
      obtain ⟨a, h1, h⟩ := Option.bind_eq_some_iff.mp h
      cases a with
      | false => rw [if_neg (by simp)] at h; exact .inl ⟨.first ⟨h0⟩ hn ⟨h1⟩, (Option.some.inj h).symm⟩
      | true =>
        rw [if_pos rfl] at h
        obtain ⟨b, h2, h⟩ := Option.bind_eq_some_iff.mp h
        cases b with
        | false => rw [if_neg (by simp)] at h; exact .inl ⟨.last ⟨h0⟩ hn ⟨h1⟩ ⟨h2⟩, (Option.some.inj h).symm⟩
        | true => rw [if_pos rfl] at h; exact .inr ⟨.good ⟨h0⟩ hn ⟨h1⟩ ⟨h2⟩, h⟩
    · rw [if_neg hn] at h; exact .inr ⟨.empty ⟨h0⟩ hn, h⟩
set_option maxHeartbeats 4000000 in
set_option maxRecDepth 100000 in
theorem setcode_Encode.bad (k : Nat) (A0 : Option Addr) (c0 : Nat) (l0 : List Int) (w : World) (hr0 : Kd.C (Kd.int .i64) w A0 l0.length l0) (hc0 : l0.length ≤ c0) (h : setcode_Encode.Head k l0 false) :
    Calls Try.prog 10 #[.slice A0 l0.length c0] w fun e w' => e = .returned (.tuple #[.string ⟨#[]⟩, .int .i64 1]) ∧ Below w.heap.size w w' := by
  have HR0 := Aside0.mk hr0
  have HC0 := Aside0.mk hc0
  clear hr0 hc0
  cases h with
  | no h =>
    go_enter Try.func10, Try.ntmps10
    go_wp2_with (go_at_call 27; (with_reducible refine (ids_Is.calls k A0 c0 l0 false _ ?side1 HC0.out h.out).mono ?_); (case side1 => exact HR0.out); rintro e w' ⟨rfl, ⟨nd, rfl⟩⟩)
    go_ret2
    exact ⟨rfl, by repeat (first | exact Below.refl _ _ | apply pw_below_drewN)⟩
  | first h hn h1 =>
    have c1 : decide ((0 : Int) < (l0.length : Int)) = true := decide_eq_true (by omega)
    have c2 : decide (0 < l0.length) = true := decide_eq_true hn
    obtain ⟨ad, e1, hx⟩ := Kd.at_int HR0.out 0 (by omega) (by omega)
    subst e1
    have hx' : w.cell? ad = some (.int .i64 (rd l0 0)) := by simpa [Addr.add] using hx
    clear hx
    go_enter Try.func10, Try.ntmps10
    go_wp2_with (first | (go_at_call 27; (with_reducible refine (ids_Is.calls k _ c0 l0 true _ ?side1 HC0.out h.out).mono ?_); (case side1 => exact HR0.out); rintro e w' ⟨rfl, ⟨nd, rfl⟩⟩) | (go_at_call 28; (with_reducible refine (setcode_number.calls (rd l0 0) false _ h1.out).mono ?_); rintro e w' ⟨rfl, ⟨nd, rfl⟩⟩))
    go_ret2
    exact ⟨rfl, by repeat (first | exact Below.refl _ _ | apply pw_below_drewN)⟩
  | last h hn h1 h2 =>
    have c1 : decide ((0 : Int) < (l0.length : Int)) = true := decide_eq_true (by omega)
    have c2 : decide (0 < l0.length) = true := decide_eq_true hn
    have hm := Kd.C_max HR0.out
    obtain ⟨ad, e1, hx⟩ := Kd.at_int HR0.out 0 (by omega) (by omega)
    subst e1
    have hx' : w.cell? ad = some (.int .i64 (rd l0 0)) := by simpa [Addr.add] using hx
    clear hx
    obtain ⟨J, hJ⟩ : ∃ J, wrap64 ((l0.length : Int) - 1) = J := ⟨_, rfl⟩
    have hJv : J = (l0.length : Int) - 1 := by rw [← hJ]; unfold wrap64; omega
    have hJ0 : 0 ≤ J := by omega
    have hJ1 : J < (l0.length : Int) := by omega
    have hJw : IntKind.i64.wrap ((l0.length : Int) - 1) = J := (i64_w _).trans hJ
    rw [hJ] at h2
    clear hJv hm
    obtain ⟨ad', e1, hy⟩ := Kd.at_int HR0.out J hJ0 hJ1
    obtain rfl : ad = ad' := by injection e1
    have d1 : decide (0 ≤ J) = true := decide_eq_true hJ0
    have d2 : decide (J < (l0.length : Int)) = true := decide_eq_true hJ1
    go_enter Try.func10, Try.ntmps10
    go_wp2_with (first | (go_at_call 27; (with_reducible refine (ids_Is.calls k _ c0 l0 true _ ?side1 HC0.out h.out).mono ?_); (case side1 => exact HR0.out); rintro e w' ⟨rfl, ⟨nd, rfl⟩⟩) | (go_at_call 28; (with_reducible refine (setcode_number.calls (rd l0 0) true _ h1.out).mono ?_); rintro e w' ⟨rfl, ⟨nd, rfl⟩⟩) | (go_at_call 28; (with_reducible refine (setcode_number.calls (rd l0 J) false _ h2.out).mono ?_); rintro e w' ⟨rfl, ⟨nd, rfl⟩⟩))
    go_ret2
    exact ⟨rfl, by repeat (first | exact Below.refl _ _ | apply pw_below_drewN)⟩
set_option maxHeartbeats 4000000 in
set_option maxRecDepth 100000 in
theorem setcode_Encode.good (k : Nat) (A0 : Option Addr) (c0 : Nat) (l0 : List Int) (r : ByteArray × Int) (w : World) (hr0 : Kd.C (Kd.int .i64) w A0 l0.length l0) (hc0 : l0.length ≤ c0) (h : setcode_Encode.Head k l0 true) (hb : setcode_Encode.b k l0 = some r) :
    Calls Try.prog 10 #[.slice A0 l0.length c0] w fun e w' => e = .returned (.tuple #[.string r.1, .int .i64 r.2]) ∧ Below w.heap.size w w' := by
  have HR0 := Aside0.mk hr0
  have HC0 := Aside0.mk hc0
  have hm := Kd.C_max hr0
  unfold setcode_Encode.b at hb
  rw [if_pos hm] at hb
  obtain ⟨t, h1, hb⟩ := Option.bind_eq_some_iff.mp hb
  have H1 := Aside0.mk h1
  by_cases c : t.size ≤ 140737488355328
  · rw [if_pos c] at hb
    obtain ⟨s, h2, hb⟩ := Option.bind_eq_some_iff.mp hb
    obtain rfl := Option.some.inj hb
    have H2 := Aside0.mk h2
    clear hb h2 h1 hr0 hc0
    cases h with
    | empty h hn =>
      have c1 : decide ((0 : Int) < (l0.length : Int)) = false := decide_eq_false (by omega)
      have c2 : decide (0 < l0.length) = false := decide_eq_false hn
      go_enter Try.func10, Try.ntmps10
      go_wp2_with (go_at_call 27; (with_reducible refine (ids_Is.calls k A0 c0 l0 true _ ?side1 HC0.out h.out).mono ?_); (case side1 => exact HR0.out); rintro e w' ⟨rfl, ⟨nd, rfl⟩⟩)
      refine (varint_Num.calls k _ t _ H1.out).mono ?_
      rintro e w1 ⟨rfl, hb1⟩
      have hH : Go.Proofs.Ytefiadhmcdfdoaa.Bld.Holds w.heap.size w.heap.size [] w1 := (Go.Proofs.Ytefiadhmcdfdoaa.Bld.Holds.fresh (w.drewN nd)).below hb1
      have hB1 : Below w.heap.size w w1 := below_step (below_alloc (pw_below_drewN (Below.refl _ _) nd) _) hb1
      go_wp2_with (go_at_call 29; refine (Go.Proofs.Ytefiadhmcdfdoaa.Bld.write w.heap.size w.heap.size [] t _ hH (by rw [List.length_nil, Nat.zero_add]; exact c) hB1.size).mono ?_)
      rintro e w2 ⟨rfl, hH2, hb2⟩
      rw [List.nil_append] at hH2
      have HH := Aside0.mk hH2
      have HB := Aside0.mk (hB1.trans hb2)
      clear hH hB1 hb1 hb2 hH2
      go_wp2
      go_loopg [5, 7, 40] k (fun kq v5 v7 v40 w' => ∃ (i : Nat) (last : Int) (acc : List UInt8), v5 = .int .i64 last ∧ v40 = .int .i64 (i : Int) ∧ Aside0 (setcode_Encode.l0 kq l0 i last acc = some s) ∧ Aside0 (kq ≤ k) ∧ Aside0 (Go.Proofs.Ytefiadhmcdfdoaa.Bld.Holds w.heap.size w.heap.size acc w') ∧ Aside0 (Below w.heap.size w w'))
      case atStart => exact ⟨0, -1, t.data.toList, rfl, rfl, H2, ⟨Nat.le_refl _⟩, HH, HB⟩
      case round =>
        obtain ⟨i, last, acc, rfl, rfl, hl, hk, hh, hbw⟩ := hrel
        clear HH HB H2
        cases gk with
        | zero => exact absurd hl.out (by simp [setcode_Encode.l0])
        | succ k1 =>
          have H := hl.out
          clear hl
          unfold setcode_Encode.l0 at H
          by_cases hi : i < l0.length
          · exact absurd hi (by omega)
          · rw [if_neg hi] at H
            obtain rfl := Option.some.inj H
            clear H
            have c4 : decide (i < l0.length) = false := decide_eq_false hi
            go_wp2_with fail
            refine (Go.Proofs.Ytefiadhmcdfdoaa.Bld.told w.heap.size w.heap.size acc _ hh.out hbw.out.size).mono ?_
            rintro e w3 ⟨rfl, hb3⟩
            go_wp2
            go_ret2
            exact ⟨rfl, hbw.out.trans hb3⟩
    | good h hn h3 h4 =>
      have c1 : decide ((0 : Int) < (l0.length : Int)) = true := decide_eq_true (by omega)
      have c2 : decide (0 < l0.length) = true := decide_eq_true hn
      obtain ⟨ad, e1, hx⟩ := Kd.at_int HR0.out 0 (by omega) (by omega)
      subst e1
      have hx' : w.cell? ad = some (.int .i64 (rd l0 0)) := by simpa [Addr.add] using hx
      clear hx
      obtain ⟨J, hJ⟩ : ∃ J, wrap64 ((l0.length : Int) - 1) = J := ⟨_, rfl⟩
      have hJv : J = (l0.length : Int) - 1 := by rw [← hJ]; unfold wrap64; omega
      have hJ0 : 0 ≤ J := by omega
      have hJ1 : J < (l0.length : Int) := by omega
      have hJw : IntKind.i64.wrap ((l0.length : Int) - 1) = J := (i64_w _).trans hJ
      rw [hJ] at h4
      clear hJv
      obtain ⟨ad', e1, hy⟩ := Kd.at_int HR0.out J hJ0 hJ1
      obtain rfl : ad = ad' := by injection e1
      have d1 : decide (0 ≤ J) = true := decide_eq_true hJ0
      have d2 : decide (J < (l0.length : Int)) = true := decide_eq_true hJ1
      go_enter Try.func10, Try.ntmps10
      go_wp2_with (first | (go_at_call 27; (with_reducible refine (ids_Is.calls k _ c0 l0 true _ ?side1 HC0.out h.out).mono ?_); (case side1 => exact HR0.out); rintro e w' ⟨rfl, ⟨nd, rfl⟩⟩) | (go_at_call 28; (with_reducible refine (setcode_number.calls (rd l0 0) true _ h3.out).mono ?_); rintro e w' ⟨rfl, ⟨nd2, rfl⟩⟩) | (go_at_call 28; (with_reducible refine (setcode_number.calls (rd l0 J) true _ h4.out).mono ?_); rintro e w' ⟨rfl, ⟨nd3, rfl⟩⟩))
      clear hx' hy hJ hJw hJ0 hJ1 d1 d2 e1
      refine (varint_Num.calls k _ t _ H1.out).mono ?_
      rintro e w1 ⟨rfl, hb1⟩
      have hH : Go.Proofs.Ytefiadhmcdfdoaa.Bld.Holds w.heap.size w.heap.size [] w1 := (Go.Proofs.Ytefiadhmcdfdoaa.Bld.Holds.fresh (w.drewN (nd + nd2 + nd3))).below hb1
      have hB1 : Below w.heap.size w w1 := below_step (below_alloc (pw_below_drewN (Below.refl _ _) (nd + nd2 + nd3)) _) hb1
      go_wp2_with (go_at_call 29; refine (Go.Proofs.Ytefiadhmcdfdoaa.Bld.write w.heap.size w.heap.size [] t _ hH (by rw [List.length_nil, Nat.zero_add]; exact c) hB1.size).mono ?_)
      rintro e w2 ⟨rfl, hH2, hb2⟩
      rw [List.nil_append] at hH2
      have HH := Aside0.mk hH2
      have HB := Aside0.mk (hB1.trans hb2)
      clear hH hB1 hb1 hb2 hH2
      go_wp2
      go_loopg [5, 7, 40] k (fun kq v5 v7 v40 w' => ∃ (i : Nat) (last : Int) (acc : List UInt8), v5 = .int .i64 last ∧ v40 = .int .i64 (i : Int) ∧ Aside0 (setcode_Encode.l0 kq l0 i last acc = some s) ∧ Aside0 (kq ≤ k) ∧ Aside0 (Go.Proofs.Ytefiadhmcdfdoaa.Bld.Holds w.heap.size w.heap.size acc w') ∧ Aside0 (Below w.heap.size w w'))
      case atStart => exact ⟨0, -1, t.data.toList, rfl, rfl, H2, ⟨Nat.le_refl _⟩, HH, HB⟩
      case round =>
        obtain ⟨i, last, acc, rfl, rfl, hl, hk, hh, hbw⟩ := hrel
        clear HH HB H2
        cases gk with
        | zero => exact absurd hl.out (by simp [setcode_Encode.l0])
        | succ k1 =>
          have H := hl.out
          clear hl
          unfold setcode_Encode.l0 at H
          by_cases hi : i < l0.length
          · rw [if_pos hi] at H
            obtain ⟨t2, g1, H⟩ := Option.bind_eq_some_iff.mp H
            have G1 := Aside0.mk g1
            by_cases c3 : acc.length + t2.size ≤ 140737488355328
            · rw [if_pos c3] at H
              have G2 := Aside0.mk H
              clear H g1
              have c4 : decide (i < l0.length) = true := decide_eq_true hi
              obtain ⟨ad, e1, hx⟩ := Kd.at_int (Kd.C_below HR0.out hbw.out) (i : Int) (by omega) (by omega)
              cases e1
              rw [Int.toNat_natCast] at hx
              have hil : (i : Int) < 9223372036854775807 := by omega
              go_wp2_with fail
              refine (varint_Num.calls k1 _ t2 _ G1.out).mono ?_
              rintro e w3 ⟨rfl, hb3⟩
              have hH3 := hh.out.below hb3
              go_wp2_with (go_at_call 29; refine (Go.Proofs.Ytefiadhmcdfdoaa.Bld.write w.heap.size w.heap.size acc t2 _ hH3 c3 (hbw.out.trans (hb3.mono hbw.out.size)).size).mono ?_)
              rintro e w4 ⟨rfl, hH4, hb4⟩
              have HH4 := Aside0.mk hH4
              have HB4 := Aside0.mk ((hbw.out.trans (hb3.mono hbw.out.size)).trans hb4)
              clear hH3 hH4 hb3 hb4
              go_wp2
              go_roundg k1
              case measure => have := hk.out; omega
              case rel => exact ⟨i + 1, rd l0 (i : Int), acc ++ t2.data.toList, rfl, by go_num, G2, ⟨by have := hk.out; omega⟩, HH4, HB4⟩
            · rw [if_neg c3] at H; cases H
          · rw [if_neg hi] at H
            obtain rfl := Option.some.inj H
            clear H
            have c4 : decide (i < l0.length) = false := decide_eq_false hi
            go_wp2_with fail
            refine (Go.Proofs.Ytefiadhmcdfdoaa.Bld.told w.heap.size w.heap.size acc _ hh.out hbw.out.size).mono ?_
            rintro e w3 ⟨rfl, hb3⟩
            go_wp2
            go_ret2
            exact ⟨rfl, hbw.out.trans hb3⟩
  · rw [if_neg c] at hb; cases hb
theorem setcode_Encode.calls (k : Nat) (A0 : Option Addr) (c0 : Nat) (l0 : List Int) (r1 : ByteArray) (r2 : Int) (w : World) (hr0 : Kd.C (Kd.int .i64) w A0 l0.length l0) (hc0 : l0.length ≤ c0) (h : setcode_Encode.f k l0 = some (r1, r2)) :
    Calls Try.prog 10 #[.slice A0 l0.length c0] w fun e w' => e = .returned (.tuple #[.string r1, .int .i64 r2]) ∧ Below w.heap.size w w' := by
  rcases setcode_Encode.heads k l0 (r1, r2) h with ⟨hh, he⟩ | ⟨hh, hb⟩
  · injection he with h1 h2
    subst h1 h2
    exact setcode_Encode.bad k A0 c0 l0 w hr0 hc0 hh
  · exact setcode_Encode.good k A0 c0 l0 (r1, r2) w hr0 hc0 hh hb

/-- A state of type 80 at block g of W; what its slices lead to came in by w0. -/
def IsS80 (w0 W : World) (g : Nat) (f0 : ByteArray) (f1 : Int) : Prop := W.heap[g]? = some (.cells #[.string f0, .int .i64 f1] 80 (0, 0)) ∧ w0.heap.size ≤ g
theorem IsS80.grown {w0 W : World} {g : Nat} {f0 : ByteArray} {f1 : Int} {W1 : World} {row : Option Nat} (h : IsS80 w0 W g f0 f1) (hw : W.grownBy W1 row) (hne : some g ≠ row) : IsS80 w0 W1 g f0 f1 := by
  obtain ⟨hb, hg⟩ := h
  exact ⟨blk_grown hb hw hne, hg⟩
theorem IsS80.own_neN {w0 W : World} {g : Nat} {f0 : ByteArray} {f1 : Int} {α : Type} {d : Kd α} {e : Nat} {base : Nat} {ok : Nat → Prop} {v : Value} {xs : List α} (h : IsS80 w0 W g f0 f1) (ho : Kd.N d e W base ok v xs) (ht : e ≠ 80) : some g ≠ v.ownBlock := by
  obtain ⟨hb, hg⟩ := h
  exact Kd.N_ne ho hb ht
theorem IsS80.fresh {w0 W : World} {g : Nat} {f0 : ByteArray} {f1 : Int} (h : IsS80 w0 W g f0 f1) : ∀ k, W.heap.size ≤ k → k ≠ g := by
  obtain ⟨hb, hg⟩ := h
  exact Kd.freshB hb
theorem IsS80.kept {w0 W : World} {g : Nat} {f0 : ByteArray} {f1 : Int} {W1 : World} {S : Nat → Prop} (h : IsS80 w0 W g f0 f1) (hk : Kept W W1 S) (hne : ¬ S g) : IsS80 w0 W1 g f0 f1 := by
  obtain ⟨hb, hg⟩ := h
  exact ⟨blk_kept hb hk hne, hg⟩
theorem IsS80.below {w0 W : World} {g : Nat} {f0 : ByteArray} {f1 : Int} {W1 : World} (h : IsS80 w0 W g f0 f1) (hw : Below W.heap.size W W1) : IsS80 w0 W1 g f0 f1 := h.grown (grown_of_below hw none) (by simp)
theorem IsS80.alloc {w0 W : World} {g : Nat} {f0 : ByteArray} {f1 : Int} (h : IsS80 w0 W g f0 f1) (o : Obj) : IsS80 w0 (W.alloc o) g f0 f1 := h.below (below_alloc (Below.refl _ _) o)
theorem IsS80.drewN {w0 W : World} {g : Nat} {f0 : ByteArray} {f1 : Int} (h : IsS80 w0 W g f0 f1) (m : Nat) : IsS80 w0 (W.drewN m) g f0 f1 := h
theorem IsS80.drew {w0 W : World} {g : Nat} {f0 : ByteArray} {f1 : Int} (h : IsS80 w0 W g f0 f1) : IsS80 w0 W.drew g f0 f1 := h
theorem IsS80.at_ {w0 W : World} {g : Nat} {f0 : ByteArray} {f1 : Int} {w' : World} {m : Nat} (hq : W.drewN m = w') (h : IsS80 w0 W g f0 f1) : IsS80 w0 w' g f0 f1 := by subst hq; exact IsS80.drewN h m
theorem IsS80.apart {w0 W : World} {g : Nat} {f0 : ByteArray} {f1 : Int} {α : Type} {d : Kd α} {e : Nat} {base : Nat} {ok : Nat → Prop} {v : Value} {xs : List α} (h : IsS80 w0 W g f0 f1) (ho : d.R e W base ok v xs) (ht : ∀ q, q ∈ e :: d.E → q ≠ 80) : d.R e W base (fun k => ok k ∧ k ≠ g) v xs := by
  obtain ⟨hb, hg⟩ := h
  exact Kd.R_types ho hb ht
theorem IsS80.own_ne {w0 W : World} {g : Nat} {f0 : ByteArray} {f1 : Int} {α : Type} {d : Kd α} {e : Nat} {base : Nat} {ok : Nat → Prop} {v : Value} {xs : List α} (h : IsS80 w0 W g f0 f1) (ho : d.R e W base ok v xs) (ht : e ≠ 80) : some g ≠ v.ownBlock := by
  obtain ⟨hb, hg⟩ := h
  exact Kd.R_ne ho hb ht
theorem IsS80.apartQ {w0 W : World} {g : Nat} {f0 : ByteArray} {f1 : Int} {α : Type} {d : Kd α} {e : Nat} {base : Nat} {ok : Nat → Prop} {v : Value} {xs : List α} (h : IsS80 w0 W g f0 f1) (ho : d.Q e W base ok v xs) (ht : ∀ q, q ∈ e :: d.E → q ≠ 80) : d.Q e W base (fun k => ok k ∧ k ≠ g) v xs := by
  obtain ⟨hb, hg⟩ := h
  exact Kd.Q_types ho hb ht
theorem IsS80.own_neQ {w0 W : World} {g : Nat} {f0 : ByteArray} {f1 : Int} {α : Type} {d : Kd α} {e : Nat} {base : Nat} {ok : Nat → Prop} {v : Value} {xs : List α} (h : IsS80 w0 W g f0 f1) (ho : d.Q e W base ok v xs) (ht : e ≠ 80) : some g ≠ v.ownBlock := by
  obtain ⟨hb, hg⟩ := h
  exact Kd.Q_ne ho hb ht
theorem IsS80.apartS {w0 W : World} {g : Nat} {f0 : ByteArray} {f1 : Int} {α : Type} {d : Kd α} {e : Nat} {base : Nat} {ok : Nat → Prop} {v : Value} {xs : List α} (h : IsS80 w0 W g f0 f1) (ho : d.S e W base ok v xs) (ht : ∀ q, q ∈ e :: d.E → q ≠ 80) : d.S e W base (fun k => ok k ∧ k ≠ g) v xs := by
  obtain ⟨hb, hg⟩ := h
  exact Kd.S_types ho hb ht
theorem IsS80.own_neS {w0 W : World} {g : Nat} {f0 : ByteArray} {f1 : Int} {α : Type} {d : Kd α} {e : Nat} {base : Nat} {ok : Nat → Prop} {v : Value} {xs : List α} (h : IsS80 w0 W g f0 f1) (ho : d.S e W base ok v xs) (ht : e ≠ 80) : some g ≠ v.ownBlock := by
  obtain ⟨hb, hg⟩ := h
  exact Kd.S_ne ho hb ht
theorem IsS80.lt {w0 W : World} {g : Nat} {f0 : ByteArray} {f1 : Int} (h : IsS80 w0 W g f0 f1) : g < W.heap.size := by
  obtain ⟨hb, hg⟩ := h
  exact blk_lt hb
theorem IsS80.ge {w0 W : World} {g : Nat} {f0 : ByteArray} {f1 : Int} (h : IsS80 w0 W g f0 f1) : w0.heap.size ≤ g := by
  obtain ⟨hb, hg⟩ := h
  exact hg
theorem IsS80.ne_blk {w0 W : World} {g : Nat} {f0 : ByteArray} {f1 : Int} {a : Nat} {cs : Array Value} {t : TypeId} {fr : Nat × Nat} (h : IsS80 w0 W g f0 f1) (hb2 : W.heap[a]? = some (.cells cs t fr)) (ht : t ≠ 80) : g ≠ a := by
  obtain ⟨hb, hg⟩ := h
  rintro rfl
  rw [hb] at hb2
  injection hb2 with hb2
  injection hb2 with _ ht2
  exact ht ht2.symm
theorem IsS80.far {w0 W : World} {g : Nat} {f0 : ByteArray} {f1 : Int} {p : Addr} (h : IsS80 w0 W g f0 f1) (hne : g ≠ p.block) (u : Value) : IsS80 w0 (W.setCell p u) g f0 f1 := by
  obtain ⟨hb, hg⟩ := h
  exact ⟨blk_far hb hne u, hg⟩
theorem cellS80_0 {W : World} {g : Nat} {f0 : ByteArray} {f1 : Int} (h : W.heap[g]? = some (.cells #[.string f0, .int .i64 f1] 80 (0, 0))) : W.cell? ⟨g, 0, none⟩ = some (.string f0) := (blk_cell h 0).trans rfl
theorem IsS80.set_0 {w0 W : World} {g : Nat} {f0 : ByteArray} {f1 : Int} (h : IsS80 w0 W g f0 f1) (x : ByteArray) : IsS80 w0 (W.setCell ⟨g, 0, none⟩ (.string x)) g x f1 := by
  obtain ⟨hb, hg⟩ := h
  exact ⟨by simpa using blk_set hb 0 (.string x), hg⟩
theorem cellS80_1 {W : World} {g : Nat} {f0 : ByteArray} {f1 : Int} (h : W.heap[g]? = some (.cells #[.string f0, .int .i64 f1] 80 (0, 0))) : W.cell? ⟨g, 1, none⟩ = some (.int .i64 f1) := (blk_cell h 1).trans rfl
theorem IsS80.set_1 {w0 W : World} {g : Nat} {f0 : ByteArray} {f1 : Int} (h : IsS80 w0 W g f0 f1) (x : Int) : IsS80 w0 (W.setCell ⟨g, 1, none⟩ (.int .i64 x)) g f0 x := by
  obtain ⟨hb, hg⟩ := h
  exact ⟨by simpa using blk_set hb 1 (.int .i64 x), hg⟩
theorem IsS80.new (w0 W : World) (f0 : ByteArray) (f1 : Int) (hB : Below w0.heap.size w0 W) : IsS80 w0 (W.alloc (.cells #[.string f0, .int .i64 f1] 80)) W.heap.size f0 f1 := ⟨by simpa using heap_alloc_new W _, hB.size⟩

/-! ### varint_Of: function 32 -/
def varint_Of.f (a0 : ByteArray) : Option (ByteArray × Int) := some (a0, 0)
set_option maxHeartbeats 40000000 in
set_option maxRecDepth 100000 in
theorem varint_Of.calls (a0 : ByteArray) (r1 : ByteArray) (r2 : Int) (w0 w : World) (hB : Below w0.heap.size w0 w) (h : varint_Of.f a0 = some (r1, r2)) :
    Calls Try.prog 32 #[.string a0] w fun e w' => ∃ g_ : Nat, e = .returned (.pointer (some ⟨g_, 0, none⟩)) ∧ IsS80 w0 w' g_ r1 r2 ∧ Below w0.heap.size w0 w' ∧ Below w.heap.size w w' := by
  have hu80 := Try.underlying80
  have HBW := Aside0.mk (Below.refl w.heap.size w)
  have HW0 := Aside0.mk hB.size
  have HB := Aside0.mk hB
  clear hB
  have H : (some (a0, 0)) = some (r1, r2) := h
  clear h
  simp only [Option.some.injEq, Prod.mk.injEq] at H
  obtain ⟨rfl, rfl⟩ := H
  go_enter Try.func32, Try.ntmps32
  go_wp2_with (first | ((with_reducible refine gate_dst (N := 5) rfl ?_); refine box_event ?hg (N := 5) ?hd (cs := #[.string a0, .int .i64 0]) (t := 80) ?hr ?_; (case hd => rfl); (case hg => rfl); (case hr => first | (go_simp; done) | (go_simp; rfl)); intro gb109 hg w2 hbox hb; have n0_ := Aside0.mk (below_step HBW.out hb); have n1_ := Aside0.mk (below_step (by repeat (first | (with_reducible first | exact HB.out | apply below_alloc | apply pw_below_drewN | apply below_drew1) | exact HB.out)) hb); have n2_ := Aside0.mk (hbox); have n3_ := Aside0.mk ((by rw [hg]; exact (below_size (by repeat (first | (with_reducible first | exact HBW.out | apply below_alloc | apply pw_below_drewN | apply below_drew1) | exact HBW.out))) : w.heap.size ≤ gb109)); have n4_ := Aside0.mk ((Nat.le_trans HW0.out (by rw [hg]; exact (below_size (by repeat (first | (with_reducible first | exact HBW.out | apply below_alloc | apply pw_below_drewN | apply below_drew1) | exact HBW.out))) : w.heap.size ≤ gb109) : w0.heap.size ≤ gb109)); clear HBW; clear HB; have HBW := n0_; have HB := n1_; have BK109 := n2_; have GW109 := n3_; have GE109 := n4_; clear n0_ n1_ n2_ n3_ n4_; clear hb hbox hg))
  go_ret
  exact ⟨_, rfl, (show IsS80 w0 _ gb109 a0 0 from ⟨by (with_reducible repeat (first | refine blk_drewN ?_ _ | refine blk_drew ?_ | refine blk_alloc ?_ _)); exact BK109.out, GE109.out⟩), by repeat (first | (with_reducible first | exact HB.out | apply below_alloc | apply pw_below_drewN | apply below_drew1 | refine below_set ?_ GE109.out) | exact HB.out), by repeat (first | (with_reducible first | exact HBW.out | apply below_alloc | apply pw_below_drewN | apply below_drew1 | refine below_set ?_ GW109.out) | exact HBW.out)⟩

/-! ### varint_In_Fail: function 35 -/
def varint_In_Fail.f (s0_0 : ByteArray) (s0_1 : Int) (a1 : Int) : Option (ByteArray × Int) := if s0_1 = 0 then (if a1 = 0 then (some (s0_0, s0_1)) else (some ((⟨#[]⟩ : ByteArray), a1))) else (some (s0_0, s0_1))
set_option maxHeartbeats 40000000 in
set_option maxRecDepth 100000 in
theorem varint_In_Fail.calls (g : Nat) (s0_0 : ByteArray) (s0_1 : Int) (a1 : Int) (r1 : ByteArray) (r2 : Int) (w0 w : World) (hI : IsS80 w0 w g s0_0 s0_1) (hB : Below w0.heap.size w0 w) (h : varint_In_Fail.f s0_0 s0_1 a1 = some (r1, r2)) :
    Calls Try.prog 35 #[.pointer (some ⟨g, 0, none⟩), .int .i64 a1] w fun e w' => e = .returned (.tuple #[]) ∧ IsS80 w0 w' g r1 r2 ∧ Below w0.heap.size w0 w' ∧ KeepBut w w' g none := by
  have HI0 := Aside0.mk hI
  have HK := Aside0.mk (KeepBut.refl w g none)
  have HL := Aside0.mk hB.size
  clear hI
  have HW0 := Aside0.mk hB.size
  have HB := Aside0.mk hB
  clear hB
  have H : (if s0_1 = 0 then (if a1 = 0 then (some (s0_0, s0_1)) else (some ((⟨#[]⟩ : ByteArray), a1))) else (some (s0_0, s0_1))) = some (r1, r2) := h
  clear h
  by_cases c3 : s0_1 = 0
  · rw [if_pos c3] at H
    have c3b0 : (s0_1 == 0) = true := beq_iff_eq.mpr c3
    have c3b1 : (s0_1 != 0) = false := bne_eq_false_iff_eq.mpr c3
    clear c3
    by_cases c4 : a1 = 0
    · rw [if_pos c4] at H
      have c4b0 : (a1 == 0) = true := beq_iff_eq.mpr c4
      have c4b1 : (a1 != 0) = false := bne_eq_false_iff_eq.mpr c4
      clear c4
      simp only [Option.some.injEq, Prod.mk.injEq] at H
      obtain ⟨rfl, rfl⟩ := H
      obtain ⟨HGz5, hgz5⟩ := HI0.out
      have hcz5_0 := cellS80_0 HGz5
      have hcz5_1 := cellS80_1 HGz5
      have hfz5_0 := blk_frozen HGz5 0
      have hfz5_1 := blk_frozen HGz5 1
      clear HGz5 hgz5
      go_enter Try.func35, Try.ntmps35
      go_wp2
      first | go_end0 | ((try simp only [Exit.inBlock, Exit.then]); refine bodyPost_ret (results_none rfl _ _ _) rfl ?_)
      exact ⟨by first | rfl | (simp [errW_none, errW_some] <;> rfl) | (simp [*, errW_none, errW_some] <;> rfl), by repeat (first | (with_reducible first | exact HI0.out | apply IsS80.alloc | apply IsS80.drewN | apply IsS80.drew | apply IsS80.set_0 | apply IsS80.set_1) | exact HI0.out), by repeat (first | (with_reducible first | exact HB.out | apply below_alloc | apply pw_below_drewN | apply below_drew1 | refine below_set ?_ (IsS80.ge HI0.out)) | exact HB.out), by repeat (first | (with_reducible first | exact HK.out | apply KeepBut.set_ | apply keep_drewN | apply keep_drew | apply keep_alloc) | exact HK.out)⟩
    · rw [if_neg c4] at H
      have c4b0 : (a1 == 0) = false := beq_eq_false_iff_ne.mpr c4
      have c4b1 : (a1 != 0) = true := bne_iff_ne.mpr c4
      simp only [Option.some.injEq, Prod.mk.injEq] at H
      obtain ⟨rfl, rfl⟩ := H
      obtain ⟨HGz6, hgz6⟩ := HI0.out
      have hcz6_0 := cellS80_0 HGz6
      have hcz6_1 := cellS80_1 HGz6
      have hfz6_0 := blk_frozen HGz6 0
      have hfz6_1 := blk_frozen HGz6 1
      clear HGz6 hgz6
      go_enter Try.func35, Try.ntmps35
      go_wp2
      first | go_end0 | ((try simp only [Exit.inBlock, Exit.then]); refine bodyPost_ret (results_none rfl _ _ _) rfl ?_)
      exact ⟨by first | rfl | (simp [errW_none, errW_some] <;> rfl) | (simp [*, errW_none, errW_some] <;> rfl), by repeat (first | (with_reducible first | exact HI0.out | apply IsS80.alloc | apply IsS80.drewN | apply IsS80.drew | apply IsS80.set_0 | apply IsS80.set_1) | exact HI0.out), by repeat (first | (with_reducible first | exact HB.out | apply below_alloc | apply pw_below_drewN | apply below_drew1 | refine below_set ?_ (IsS80.ge HI0.out)) | exact HB.out), by repeat (first | (with_reducible first | exact HK.out | apply KeepBut.set_ | apply keep_drewN | apply keep_drew | apply keep_alloc) | exact HK.out)⟩
  · rw [if_neg c3] at H
    have c3b0 : (s0_1 == 0) = false := beq_eq_false_iff_ne.mpr c3
    have c3b1 : (s0_1 != 0) = true := bne_iff_ne.mpr c3
    simp only [Option.some.injEq, Prod.mk.injEq] at H
    obtain ⟨rfl, rfl⟩ := H
    obtain ⟨HGz7, hgz7⟩ := HI0.out
    have hcz7_0 := cellS80_0 HGz7
    have hcz7_1 := cellS80_1 HGz7
    have hfz7_0 := blk_frozen HGz7 0
    have hfz7_1 := blk_frozen HGz7 1
    clear HGz7 hgz7
    go_enter Try.func35, Try.ntmps35
    go_wp2
    first | go_end0 | ((try simp only [Exit.inBlock, Exit.then]); refine bodyPost_ret (results_none rfl _ _ _) rfl ?_)
    exact ⟨by first | rfl | (simp [errW_none, errW_some] <;> rfl) | (simp [*, errW_none, errW_some] <;> rfl), by repeat (first | (with_reducible first | exact HI0.out | apply IsS80.alloc | apply IsS80.drewN | apply IsS80.drew | apply IsS80.set_0 | apply IsS80.set_1) | exact HI0.out), by repeat (first | (with_reducible first | exact HB.out | apply below_alloc | apply pw_below_drewN | apply below_drew1 | refine below_set ?_ (IsS80.ge HI0.out)) | exact HB.out), by repeat (first | (with_reducible first | exact HK.out | apply KeepBut.set_ | apply keep_drewN | apply keep_drew | apply keep_alloc) | exact HK.out)⟩

end Go.Proofs.Ytefiadhmcdfdoaa.PD

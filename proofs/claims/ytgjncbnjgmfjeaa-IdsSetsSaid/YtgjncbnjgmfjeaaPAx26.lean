-- Written by this session's own program wip/bin/dprint.py, over the kit's print.py, with own texts for some functions: no print of print.sh's
import Derived.Test.YtgjncbnjgmfjeaaPAx0
import Derived.Test.YtgjncbnjgmfjeaaPAx13
import Derived.Test.YtgjncbnjgmfjeaaPAx14
import Derived.Test.YtgjncbnjgmfjeaaPAx15
import Derived.Test.YtgjncbnjgmfjeaaPAx17
import Derived.Test.YtgjncbnjgmfjeaaPAx21
import Derived.Test.YtgjncbnjgmfjeaaPAx25
namespace Go.Proofs.Ytgjncbnjgmfjeaa.PA
open Go.RowKit Go.Proofs.YtgjncbnjgmfjeaaW.PrintWords Go.Proofs.YtgjncbnjgmfjeaaW.PrintLast Go.Proofs.YtgjncbnjgmfjeaaW.PrintMore
attribute [local go_sem] max2_int min2_int max_two min_two max_three min_three max_four min_four   -- for this text's walks alone
set_option linter.unusedVariables false
set_option linter.unusedSimpArgs false

/-! ### dowserlaw04_IdsSets: function 5 -/
def dowserlaw04_IdsSets.f (k : Nat) (l0 : List Int) (a1 : Int) : Option (Bool) := (dowserlaw04_awake.f k).bind fun t429 => (if t429 = true then ((some (l0.take 40 : List Int)).bind fun y430 => ((some (([] : List Int) : List Int)).bind fun y434 => (if y434.length + y430.length < 17592186044416 then ((ids_Of.f y430).bind fun t440 => ((dowserref04_Of.f k y430).bind fun t443 => ((dowserref04_Same.f k t440 t443).bind fun t446 => (if t446 = true then ((ids_Is.f k t440).bind fun t447 => (if t447 = true then ((ids_Is.f k y430).bind fun t448 => ((dowserref04_Of.f k y430).bind fun t449 => ((dowserref04_Same.f k y430 t449).bind fun t452 => (if (t448 == t452) = true then ((ids_Has.f k t440 a1).bind fun t453 => ((dowserref04_Has.f k y430 a1).bind fun t454 => (if (t453 == t454) = true then ((dowserref04_Same.f k y430 (y434 ++ y430)).bind fun t455 => (some t455)) else (none)))) else (none))))) else (none))) else (none))))) else (none)))) else (none))
theorem dowserlaw04_IdsSets.mono : ∀ a0 a1 k, LeO (dowserlaw04_IdsSets.f k a0 a1) (dowserlaw04_IdsSets.f (k + 1) a0 a1) := by
  intro a0 a1 k
  unfold dowserlaw04_IdsSets.f
  repeat' first
      | (with_reducible exact dowserlaw04_awake.mono _)
      | (with_reducible exact dowserref04_Has.mono _ _ _)
      | (with_reducible exact dowserref04_Of.mono _ _)
      | (with_reducible exact dowserref04_Same.mono _ _ _)
      | (with_reducible exact ids_Has.mono _ _ _)
      | (with_reducible exact ids_Is.mono _ _)
      | (with_reducible exact LeO.refl _)
      | (with_reducible exact LeO.none _)
      | (with_reducible refine LeO.ite ?_ ?_)
      | (with_reducible refine LeO.bind ?_ (fun _ => ?_))
      | exact dowserlaw04_awake.mono _
      | exact dowserref04_Has.mono _ _ _
      | exact dowserref04_Of.mono _ _
      | exact dowserref04_Same.mono _ _ _
      | exact ids_Has.mono _ _ _
      | exact ids_Is.mono _ _
      | exact LeO.none _
      | refine LeO.ite ?_ ?_
      | refine LeO.bind ?_ (fun _ => ?_)
set_option maxHeartbeats 40000000 in
set_option maxRecDepth 100000 in
theorem dowserlaw04_IdsSets.calls (k : Nat) (A0 : Option Addr) (c0 : Nat) (l0 : List Int) (a1 : Int) (r : Bool) (w : World) (hr0 : Kd.C (Kd.int .i64) w A0 l0.length l0) (hc0 : l0.length ≤ c0) (h : dowserlaw04_IdsSets.f k l0 a1 = some r) :
    Calls Try.prog 5 #[.slice A0 l0.length c0, .int .i64 a1] w fun e w' => e = .returned (.bool r) ∧ Below w.heap.size w w' := by
  have HR0 := Aside0.mk hr0
  have HC0 := Aside0.mk hc0
  clear hr0 hc0
  have HB := Aside0.mk (Below.refl w.heap.size w)
  have H : ((dowserlaw04_awake.f k).bind fun t429 => (if t429 = true then ((some (l0.take 40 : List Int)).bind fun y430 => ((some (([] : List Int) : List Int)).bind fun y434 => (if y434.length + y430.length < 17592186044416 then ((ids_Of.f y430).bind fun t440 => ((dowserref04_Of.f k y430).bind fun t443 => ((dowserref04_Same.f k t440 t443).bind fun t446 => (if t446 = true then ((ids_Is.f k t440).bind fun t447 => (if t447 = true then ((ids_Is.f k y430).bind fun t448 => ((dowserref04_Of.f k y430).bind fun t449 => ((dowserref04_Same.f k y430 t449).bind fun t452 => (if (t448 == t452) = true then ((ids_Has.f k t440 a1).bind fun t453 => ((dowserref04_Has.f k y430 a1).bind fun t454 => (if (t453 == t454) = true then ((dowserref04_Same.f k y430 (y434 ++ y430)).bind fun t455 => (some t455)) else (none)))) else (none))))) else (none))) else (none))))) else (none)))) else (none))) = some r := h
  clear h
  replace H := Option.bind_eq_some_iff.mp H
  obtain ⟨t429, A30, H⟩ := H
  replace H : (if t429 = true then ((some (l0.take 40 : List Int)).bind fun y430 => ((some (([] : List Int) : List Int)).bind fun y434 => (if y434.length + y430.length < 17592186044416 then ((ids_Of.f y430).bind fun t440 => ((dowserref04_Of.f k y430).bind fun t443 => ((dowserref04_Same.f k t440 t443).bind fun t446 => (if t446 = true then ((ids_Is.f k t440).bind fun t447 => (if t447 = true then ((ids_Is.f k y430).bind fun t448 => ((dowserref04_Of.f k y430).bind fun t449 => ((dowserref04_Same.f k y430 t449).bind fun t452 => (if (t448 == t452) = true then ((ids_Has.f k t440 a1).bind fun t453 => ((dowserref04_Has.f k y430 a1).bind fun t454 => (if (t453 == t454) = true then ((dowserref04_Same.f k y430 (y434 ++ y430)).bind fun t455 => (some t455)) else (none)))) else (none))))) else (none))) else (none))))) else (none)))) else (none)) = some r := H
  have A3 := Aside0.mk A30
  clear A30
  by_cases c4 : t429 = true
  · subst c4
    have H1 : ((some (l0.take 40 : List Int)).bind fun y430 => ((some (([] : List Int) : List Int)).bind fun y434 => (if y434.length + y430.length < 17592186044416 then ((ids_Of.f y430).bind fun t440 => ((dowserref04_Of.f k y430).bind fun t443 => ((dowserref04_Same.f k t440 t443).bind fun t446 => (if t446 = true then ((ids_Is.f k t440).bind fun t447 => (if t447 = true then ((ids_Is.f k y430).bind fun t448 => ((dowserref04_Of.f k y430).bind fun t449 => ((dowserref04_Same.f k y430 t449).bind fun t452 => (if (t448 == t452) = true then ((ids_Has.f k t440 a1).bind fun t453 => ((dowserref04_Has.f k y430 a1).bind fun t454 => (if (t453 == t454) = true then ((dowserref04_Same.f k y430 (y434 ++ y430)).bind fun t455 => (some t455)) else (none)))) else (none))))) else (none))) else (none))))) else (none)))) = some r := by rw [if_pos rfl] at H; exact H
    clear H
    have H := H1
    clear H1
    obtain ⟨y430, hy430⟩ : ∃ y_ : List Int, y_ = (l0.take 40) := ⟨_, rfl⟩
    replace H : ((some (([] : List Int) : List Int)).bind fun y434 => (if y434.length + y430.length < 17592186044416 then ((ids_Of.f y430).bind fun t440 => ((dowserref04_Of.f k y430).bind fun t443 => ((dowserref04_Same.f k t440 t443).bind fun t446 => (if t446 = true then ((ids_Is.f k t440).bind fun t447 => (if t447 = true then ((ids_Is.f k y430).bind fun t448 => ((dowserref04_Of.f k y430).bind fun t449 => ((dowserref04_Same.f k y430 t449).bind fun t452 => (if (t448 == t452) = true then ((ids_Has.f k t440 a1).bind fun t453 => ((dowserref04_Has.f k y430 a1).bind fun t454 => (if (t453 == t454) = true then ((dowserref04_Same.f k y430 (y434 ++ y430)).bind fun t455 => (some t455)) else (none)))) else (none))))) else (none))) else (none))))) else (none))) = some r := by first | (rw [hy430]; with_reducible exact H) | (have H2_ := (Option.bind_some _ _).symm.trans H; rw [hy430]; with_reducible exact H2_) | (have H2_ := (Option.bind_some _ _).symm.trans H; with_reducible exact H2_) | with_reducible exact H | (rw [hy430]; exact H) | exact H
    have Ny430 := Aside0.mk hy430
    clear hy430
    obtain ⟨y434, hy434⟩ : ∃ y_ : List Int, y_ = (([] : List Int)) := ⟨_, rfl⟩
    replace H : (if y434.length + y430.length < 17592186044416 then ((ids_Of.f y430).bind fun t440 => ((dowserref04_Of.f k y430).bind fun t443 => ((dowserref04_Same.f k t440 t443).bind fun t446 => (if t446 = true then ((ids_Is.f k t440).bind fun t447 => (if t447 = true then ((ids_Is.f k y430).bind fun t448 => ((dowserref04_Of.f k y430).bind fun t449 => ((dowserref04_Same.f k y430 t449).bind fun t452 => (if (t448 == t452) = true then ((ids_Has.f k t440 a1).bind fun t453 => ((dowserref04_Has.f k y430 a1).bind fun t454 => (if (t453 == t454) = true then ((dowserref04_Same.f k y430 (y434 ++ y430)).bind fun t455 => (some t455)) else (none)))) else (none))))) else (none))) else (none))))) else (none)) = some r := by first | (rw [hy434]; with_reducible exact H) | (have H2_ := (Option.bind_some _ _).symm.trans H; rw [hy434]; with_reducible exact H2_) | (have H2_ := (Option.bind_some _ _).symm.trans H; with_reducible exact H2_) | with_reducible exact H | (rw [hy434]; exact H) | exact H
    have Ny434 := Aside0.mk hy434
    clear hy434
    by_cases c5 : y434.length + y430.length < 17592186044416
    · rw [if_pos c5] at H
      have LMc5 := Aside0.mk c5
      clear c5
      obtain ⟨y437, hy437⟩ : ∃ y_ : List Int, y_ = (y434 ++ y430) := ⟨_, rfl⟩
      replace H : ((ids_Of.f y430).bind fun t440 => ((dowserref04_Of.f k y430).bind fun t443 => ((dowserref04_Same.f k t440 t443).bind fun t446 => (if t446 = true then ((ids_Is.f k t440).bind fun t447 => (if t447 = true then ((ids_Is.f k y430).bind fun t448 => ((dowserref04_Of.f k y430).bind fun t449 => ((dowserref04_Same.f k y430 t449).bind fun t452 => (if (t448 == t452) = true then ((ids_Has.f k t440 a1).bind fun t453 => ((dowserref04_Has.f k y430 a1).bind fun t454 => (if (t453 == t454) = true then ((dowserref04_Same.f k y430 y437).bind fun t455 => (some t455)) else (none)))) else (none))))) else (none))) else (none))))) = some r := by first | (rw [hy437]; with_reducible exact H) | (have H2_ := (Option.bind_some _ _).symm.trans H; rw [hy437]; with_reducible exact H2_) | (have H2_ := (Option.bind_some _ _).symm.trans H; with_reducible exact H2_) | with_reducible exact H | (rw [hy437]; exact H) | exact H
      have Ny437 := Aside0.mk hy437
      clear hy437
      replace H := Option.bind_eq_some_iff.mp H
      obtain ⟨t440, A60, H⟩ := H
      replace H : ((dowserref04_Of.f k y430).bind fun t443 => ((dowserref04_Same.f k t440 t443).bind fun t446 => (if t446 = true then ((ids_Is.f k t440).bind fun t447 => (if t447 = true then ((ids_Is.f k y430).bind fun t448 => ((dowserref04_Of.f k y430).bind fun t449 => ((dowserref04_Same.f k y430 t449).bind fun t452 => (if (t448 == t452) = true then ((ids_Has.f k t440 a1).bind fun t453 => ((dowserref04_Has.f k y430 a1).bind fun t454 => (if (t453 == t454) = true then ((dowserref04_Same.f k y430 y437).bind fun t455 => (some t455)) else (none)))) else (none))))) else (none))) else (none)))) = some r := H
      have A6 := Aside0.mk A60
      clear A60
      replace H := Option.bind_eq_some_iff.mp H
      obtain ⟨t443, A70, H⟩ := H
      replace H : ((dowserref04_Same.f k t440 t443).bind fun t446 => (if t446 = true then ((ids_Is.f k t440).bind fun t447 => (if t447 = true then ((ids_Is.f k y430).bind fun t448 => ((dowserref04_Of.f k y430).bind fun t449 => ((dowserref04_Same.f k y430 t449).bind fun t452 => (if (t448 == t452) = true then ((ids_Has.f k t440 a1).bind fun t453 => ((dowserref04_Has.f k y430 a1).bind fun t454 => (if (t453 == t454) = true then ((dowserref04_Same.f k y430 y437).bind fun t455 => (some t455)) else (none)))) else (none))))) else (none))) else (none))) = some r := H
      have A7 := Aside0.mk A70
      clear A70
      replace H := Option.bind_eq_some_iff.mp H
      obtain ⟨t446, A80, H⟩ := H
      replace H : (if t446 = true then ((ids_Is.f k t440).bind fun t447 => (if t447 = true then ((ids_Is.f k y430).bind fun t448 => ((dowserref04_Of.f k y430).bind fun t449 => ((dowserref04_Same.f k y430 t449).bind fun t452 => (if (t448 == t452) = true then ((ids_Has.f k t440 a1).bind fun t453 => ((dowserref04_Has.f k y430 a1).bind fun t454 => (if (t453 == t454) = true then ((dowserref04_Same.f k y430 y437).bind fun t455 => (some t455)) else (none)))) else (none))))) else (none))) else (none)) = some r := H
      have A8 := Aside0.mk A80
      clear A80
      by_cases c9 : t446 = true
      · subst c9
        have H1 : ((ids_Is.f k t440).bind fun t447 => (if t447 = true then ((ids_Is.f k y430).bind fun t448 => ((dowserref04_Of.f k y430).bind fun t449 => ((dowserref04_Same.f k y430 t449).bind fun t452 => (if (t448 == t452) = true then ((ids_Has.f k t440 a1).bind fun t453 => ((dowserref04_Has.f k y430 a1).bind fun t454 => (if (t453 == t454) = true then ((dowserref04_Same.f k y430 y437).bind fun t455 => (some t455)) else (none)))) else (none))))) else (none))) = some r := by rw [if_pos rfl] at H; exact H
        clear H
        have H := H1
        clear H1
        replace H := Option.bind_eq_some_iff.mp H
        obtain ⟨t447, A100, H⟩ := H
        replace H : (if t447 = true then ((ids_Is.f k y430).bind fun t448 => ((dowserref04_Of.f k y430).bind fun t449 => ((dowserref04_Same.f k y430 t449).bind fun t452 => (if (t448 == t452) = true then ((ids_Has.f k t440 a1).bind fun t453 => ((dowserref04_Has.f k y430 a1).bind fun t454 => (if (t453 == t454) = true then ((dowserref04_Same.f k y430 y437).bind fun t455 => (some t455)) else (none)))) else (none))))) else (none)) = some r := H
        have A10 := Aside0.mk A100
        clear A100
        by_cases c11 : t447 = true
        · subst c11
          have H1 : ((ids_Is.f k y430).bind fun t448 => ((dowserref04_Of.f k y430).bind fun t449 => ((dowserref04_Same.f k y430 t449).bind fun t452 => (if (t448 == t452) = true then ((ids_Has.f k t440 a1).bind fun t453 => ((dowserref04_Has.f k y430 a1).bind fun t454 => (if (t453 == t454) = true then ((dowserref04_Same.f k y430 y437).bind fun t455 => (some t455)) else (none)))) else (none))))) = some r := by rw [if_pos rfl] at H; exact H
          clear H
          have H := H1
          clear H1
          replace H := Option.bind_eq_some_iff.mp H
          obtain ⟨t448, A120, H⟩ := H
          replace H : ((dowserref04_Of.f k y430).bind fun t449 => ((dowserref04_Same.f k y430 t449).bind fun t452 => (if (t448 == t452) = true then ((ids_Has.f k t440 a1).bind fun t453 => ((dowserref04_Has.f k y430 a1).bind fun t454 => (if (t453 == t454) = true then ((dowserref04_Same.f k y430 y437).bind fun t455 => (some t455)) else (none)))) else (none)))) = some r := H
          have A12 := Aside0.mk A120
          clear A120
          replace H := Option.bind_eq_some_iff.mp H
          obtain ⟨t449, A130, H⟩ := H
          replace H : ((dowserref04_Same.f k y430 t449).bind fun t452 => (if (t448 == t452) = true then ((ids_Has.f k t440 a1).bind fun t453 => ((dowserref04_Has.f k y430 a1).bind fun t454 => (if (t453 == t454) = true then ((dowserref04_Same.f k y430 y437).bind fun t455 => (some t455)) else (none)))) else (none))) = some r := H
          have A13 := Aside0.mk A130
          clear A130
          replace H := Option.bind_eq_some_iff.mp H
          obtain ⟨t452, A140, H⟩ := H
          replace H : (if (t448 == t452) = true then ((ids_Has.f k t440 a1).bind fun t453 => ((dowserref04_Has.f k y430 a1).bind fun t454 => (if (t453 == t454) = true then ((dowserref04_Same.f k y430 y437).bind fun t455 => (some t455)) else (none)))) else (none)) = some r := H
          have A14 := Aside0.mk A140
          clear A140
          by_cases c15 : (t448 == t452) = true
          · rw [if_pos c15] at H
            have c15b0 : (t448 == t452) = true := c15
            (try (have c15b1 : decide (t448 = t452) = true := by simpa using c15))
            (try (have c15b2 : (t448 == t452) = true := by simpa using c15))
            clear c15
            replace H := Option.bind_eq_some_iff.mp H
            obtain ⟨t453, A160, H⟩ := H
            replace H : ((dowserref04_Has.f k y430 a1).bind fun t454 => (if (t453 == t454) = true then ((dowserref04_Same.f k y430 y437).bind fun t455 => (some t455)) else (none))) = some r := H
            have A16 := Aside0.mk A160
            clear A160
            replace H := Option.bind_eq_some_iff.mp H
            obtain ⟨t454, A170, H⟩ := H
            replace H : (if (t453 == t454) = true then ((dowserref04_Same.f k y430 y437).bind fun t455 => (some t455)) else (none)) = some r := H
            have A17 := Aside0.mk A170
            clear A170
            by_cases c18 : (t453 == t454) = true
            · rw [if_pos c18] at H
              have c18b0 : (t453 == t454) = true := c18
              (try (have c18b1 : decide (t453 = t454) = true := by simpa using c18))
              (try (have c18b2 : (t453 == t454) = true := by simpa using c18))
              clear c18
              replace H := Option.bind_eq_some_iff.mp H
              obtain ⟨t455, A190, H⟩ := H
              replace H : (some t455) = some r := H
              have A19 := Aside0.mk A190
              clear A190
              obtain rfl := Option.some.inj H
              go_enter Try.func5, Try.ntmps5
              go_wp2_with (first | ((with_reducible refine gate_callee (f := 7) rfl ?_); refine goesL_ (some 7) rfl rfl Try.func7 (by kernel_rfl) rfl #[] rfl (by (try simp only [List.map_toArray, List.map_cons, List.map_nil]); first | done | rfl | (simp only [List.length_drop, List.length_take]; rfl)) ?_; (with_reducible refine (dowserlaw04_awake.calls k  true _ A3.out).mono ?_); rintro e w20 ⟨rfl, hb⟩; refine ⟨_, rfl, ?_⟩; have n0_ := Aside0.mk (below_step (by repeat (first | (with_reducible first | exact HB.out | apply below_alloc | apply pw_below_drewN | apply below_drew1) | exact HB.out)) hb); clear HB; have HB := n0_; clear n0_; (try clear hb); (try clear hb2); (try clear hk); (try clear hi); have HR433 := Aside0.mk (few_C HR0.out Ny430.out); have HC433 := Aside0.mk (few_cap HC0.out Ny430.out)) | (go_at_call 9; (with_reducible refine (dowserlaw04_Few.cut A0 c0 l0 y430 _ Ny430.out HC0.out).mono ?_); rintro e w' ⟨rfl, ⟨nd, rfl⟩⟩) | ((with_reducible refine gate_dst (N := 11) rfl ?_); refine Kd.R_lit (Kd.int .i64) _ 3 ?hg (N := 11) ?hd (xs := ([] : List Int)) (inner := []) (ok := fun _ => True) (okp := fun _ => True) ?hr ?hp (fun _ hk => hk) trivial (Below.refl _ _) (Nat.le_refl _) (by simp) ?_; (case hd => rfl); (case hg => rfl); (case hr => first | (go_simp; done) | (go_simp; rfl)); (case hp => exact (Reps.none _ _)); intro v435 w21 ho22 hb hg_ hnew_; clear hg_ hnew_; (first | rw [← Ny434.out] at ho22 | (simp only [Int.reduceToNat] at ho22; rw [← Ny434.out] at ho22)); have n0_ := Aside0.mk (Kd.R_lower ho22 (below_size (by repeat (first | (with_reducible first | exact HB.out | apply below_alloc | apply pw_below_drewN | apply below_drew1) | exact HB.out)))); have n1_ := Aside0.mk (below_step (by repeat (first | (with_reducible first | exact HB.out | apply below_alloc | apply pw_below_drewN | apply below_drew1) | exact HB.out)) hb); clear HB; have HO436 := n0_; have HB := n1_; clear n0_ n1_; clear hb ho22) | ((with_reducible refine gate_builtin (b := .append) (xs := #[.tmp 11, .tmp 12]) rfl ?_); at_builtin; refine Kd.R_append_rows (Kd.int .i64) (w0 := w) w.heap.size rfl (.tmp 11) (.tmp 12) 22 3 (.int .i64 0) 8 rfl Try.underlying22 info3 rfl (by decide) (by omega) v435 y434 y430 _ _ _ (fun _ => True) (fun _ => False) rfl rfl ?aO ?aR (fun _ _ h => h) (fun _ h => h.elim) ?aF ?aB ?aS ?aL ?_; (case aR => repeat (first | exact (Kd.C_below HR433.out HB.out) | (with_reducible refine Kd.C_alloc ?_ _) | (with_reducible refine Kd.C_drewN ?_ _) | (with_reducible refine Kd.C_drew ?_))); (case aB => exact (by repeat (first | (with_reducible first | exact HB.out | apply below_alloc | apply pw_below_drewN | apply below_drew1) | exact HB.out))); (case aF => exact (fun _ _ => trivial)); (case aO => exact (by (with_reducible repeat (first | apply Kd.R_alloc | apply Kd.R_drewN | apply Kd.R_drew)); exact HO436.out)); (case aS => exact (below_size (by repeat (first | (with_reducible first | exact HB.out | apply below_alloc | apply pw_below_drewN | apply below_drew1) | exact HB.out)))); (case aL => have := LMc5.out; omega); intro v438 w23 ho hb hg hat; rw [← Ny437.out] at ho; have n0_ := Aside0.mk (hb); have n1_ := Aside0.mk (ho); clear HB; clear HO436; have HB := n0_; have HO439 := n1_; clear n0_ n1_; clear ho hb hg hat) | ((with_reducible refine gate_callee (f := 16) rfl ?_); refine goesL_ (some 15) rfl rfl Try.func16 (by kernel_rfl) rfl #[.slice A0 y430.length c0] rfl (by (try simp only [List.map_toArray, List.map_cons, List.map_nil]); first | done | rfl | (simp only [List.length_drop, List.length_take]; rfl)) ?_; (with_reducible refine (ids_Of.calls _ _ y430 t440 _ ?side1 ?side2 A6.out).mono ?_); (case side1 => repeat (first | exact (Kd.C_below HR433.out HB.out) | (with_reducible refine Kd.C_alloc ?_ _) | (with_reducible refine Kd.C_drewN ?_ _) | (with_reducible refine Kd.C_drew ?_))); (case side2 => exact HC433.out); rintro e w24 ⟨v441, rfl, ho0, hb⟩; refine ⟨_, rfl, ?_⟩; have n0_ := Aside0.mk (Kd.R_elder' (by (with_reducible repeat (first | apply Kd.R_alloc | apply Kd.R_drewN | apply Kd.R_drew)); exact HO439.out) (Kd.R_base ho0) hb); have n1_ := Aside0.mk (Kd.R_lower (Kd.R_new' ho0 (Kd.R_lt (by (with_reducible repeat (first | apply Kd.R_alloc | apply Kd.R_drewN | apply Kd.R_drew)); exact HO439.out))) (below_size (by repeat (first | (with_reducible first | exact HB.out | apply below_alloc | apply pw_below_drewN | apply below_drew1) | exact HB.out)))); have n2_ := Aside0.mk (below_step (by repeat (first | (with_reducible first | exact HB.out | apply below_alloc | apply pw_below_drewN | apply below_drew1) | exact HB.out)) hb); clear HO439; clear HB; have HO439 := n0_; have HO442 := n1_; have HB := n2_; clear n0_ n1_ n2_; (try clear hb); (try clear hb2); (try clear hk); (try clear hi); (try clear ho0)) | ((with_reducible refine gate_callee (f := 8) rfl ?_); refine goesL_ (some 18) rfl rfl Try.func8 (by kernel_rfl) rfl #[.slice A0 y430.length c0] rfl (by (try simp only [List.map_toArray, List.map_cons, List.map_nil]); first | done | rfl | (simp only [List.length_drop, List.length_take]; rfl)) ?_; (with_reducible refine (dowserref04_Of.calls k _ _ y430 t443 _ ?side1 ?side2 A7.out).mono ?_); (case side1 => repeat (first | exact (Kd.C_below HR433.out HB.out) | (with_reducible refine Kd.C_alloc ?_ _) | (with_reducible refine Kd.C_drewN ?_ _) | (with_reducible refine Kd.C_drew ?_))); (case side2 => exact HC433.out); rintro e w25 ⟨v444, rfl, ho0, hb⟩; refine ⟨_, rfl, ?_⟩; have n0_ := Aside0.mk (Kd.R_elder' (by (with_reducible repeat (first | apply Kd.R_alloc | apply Kd.R_drewN | apply Kd.R_drew)); exact HO439.out) (Kd.R_base ho0) hb); have n1_ := Aside0.mk (Kd.R_elder' (by (with_reducible repeat (first | apply Kd.R_alloc | apply Kd.R_drewN | apply Kd.R_drew)); exact HO442.out) (Kd.R_base ho0) hb); have n2_ := Aside0.mk (Kd.R_lower (Kd.R_new' (Kd.R_new' ho0 (Kd.R_lt (by (with_reducible repeat (first | apply Kd.R_alloc | apply Kd.R_drewN | apply Kd.R_drew)); exact HO439.out))) (Kd.R_lt (by (with_reducible repeat (first | apply Kd.R_alloc | apply Kd.R_drewN | apply Kd.R_drew)); exact HO442.out))) (below_size (by repeat (first | (with_reducible first | exact HB.out | apply below_alloc | apply pw_below_drewN | apply below_drew1) | exact HB.out)))); have n3_ := Aside0.mk (below_step (by repeat (first | (with_reducible first | exact HB.out | apply below_alloc | apply pw_below_drewN | apply below_drew1) | exact HB.out)) hb); clear HO439; clear HO442; clear HB; have HO439 := n0_; have HO442 := n1_; have HO445 := n2_; have HB := n3_; clear n0_ n1_ n2_ n3_; (try clear hb); (try clear hb2); (try clear hk); (try clear hi); (try clear ho0); obtain ⟨Ao26, co26, eo26⟩ := Kd.R_slice HO442.out; subst eo26; obtain ⟨Ao27, co27, eo27⟩ := Kd.R_slice HO445.out; subst eo27) | ((with_reducible refine gate_callee (f := 17) rfl ?_); refine goesL_ (some 19) rfl rfl Try.func17 (by kernel_rfl) rfl #[.slice Ao26 t440.length co26, .slice Ao27 t443.length co27] rfl (by (try simp only [List.map_toArray, List.map_cons, List.map_nil]); first | done | rfl | (simp only [List.length_drop, List.length_take]; rfl)) ?_; (with_reducible refine (dowserref04_Same.calls k _ _ t440 _ _ t443 true _ ?side1 ?side2 ?side3 ?side4 A8.out).mono ?_); (case side1 => repeat (first | exact (Kd.R_reads' HO442.out).2.2 | (with_reducible refine Kd.C_alloc ?_ _) | (with_reducible refine Kd.C_drewN ?_ _) | (with_reducible refine Kd.C_drew ?_))); (case side2 => exact (Kd.R_reads' HO442.out).2.1); (case side3 => repeat (first | exact (Kd.R_reads' HO445.out).2.2 | (with_reducible refine Kd.C_alloc ?_ _) | (with_reducible refine Kd.C_drewN ?_ _) | (with_reducible refine Kd.C_drew ?_))); (case side4 => exact (Kd.R_reads' HO445.out).2.1); rintro e w' ⟨rfl, ⟨nd, rfl⟩⟩; refine ⟨_, rfl, ?_⟩) | (go_at_call 15; (with_reducible refine (ids_Is.calls k _ _ t440 true _ ?side1 ?side2 A10.out).mono ?_); (case side1 => repeat (first | exact (Kd.R_reads' HO442.out).2.2 | (with_reducible refine Kd.C_alloc ?_ _) | (with_reducible refine Kd.C_drewN ?_ _) | (with_reducible refine Kd.C_drew ?_))); (case side2 => exact (Kd.R_reads' HO442.out).2.1); rintro e w' ⟨rfl, ⟨nd, rfl⟩⟩) | (go_at_call 15; (with_reducible refine (ids_Is.calls k _ _ y430 t448 _ ?side1 ?side2 A12.out).mono ?_); (case side1 => repeat (first | exact (Kd.C_below HR433.out (by repeat (first | (with_reducible first | exact HB.out | apply below_alloc | apply pw_below_drewN | apply below_drew1) | exact HB.out))) | (with_reducible refine Kd.C_alloc ?_ _) | (with_reducible refine Kd.C_drewN ?_ _) | (with_reducible refine Kd.C_drew ?_))); (case side2 => exact HC433.out); rintro e w' ⟨rfl, ⟨nd, rfl⟩⟩) | (go_at_call 8; (with_reducible refine (dowserref04_Of.calls k _ _ y430 t449 _ ?side1 ?side2 A13.out).mono ?_); (case side1 => repeat (first | exact (Kd.C_below HR433.out (by repeat (first | (with_reducible first | exact HB.out | apply below_alloc | apply pw_below_drewN | apply below_drew1) | exact HB.out))) | (with_reducible refine Kd.C_alloc ?_ _) | (with_reducible refine Kd.C_drewN ?_ _) | (with_reducible refine Kd.C_drew ?_))); (case side2 => exact HC433.out); (try clear A13); rintro e w28 ⟨v450, rfl, ho0, hb⟩; have n0_ := Aside0.mk (Kd.R_elder' (by (with_reducible repeat (first | apply Kd.R_alloc | apply Kd.R_drewN | apply Kd.R_drew)); exact HO439.out) (Kd.R_base ho0) hb); have n1_ := Aside0.mk (Kd.R_elder' (by (with_reducible repeat (first | apply Kd.R_alloc | apply Kd.R_drewN | apply Kd.R_drew)); exact HO442.out) (Kd.R_base ho0) hb); have n2_ := Aside0.mk (Kd.R_elder' (by (with_reducible repeat (first | apply Kd.R_alloc | apply Kd.R_drewN | apply Kd.R_drew)); exact HO445.out) (Kd.R_base ho0) hb); have n3_ := Aside0.mk (Kd.R_lower (Kd.R_new' (Kd.R_new' (Kd.R_new' ho0 (Kd.R_lt (by (with_reducible repeat (first | apply Kd.R_alloc | apply Kd.R_drewN | apply Kd.R_drew)); exact HO439.out))) (Kd.R_lt (by (with_reducible repeat (first | apply Kd.R_alloc | apply Kd.R_drewN | apply Kd.R_drew)); exact HO442.out))) (Kd.R_lt (by (with_reducible repeat (first | apply Kd.R_alloc | apply Kd.R_drewN | apply Kd.R_drew)); exact HO445.out))) (below_size (by repeat (first | (with_reducible first | exact HB.out | apply below_alloc | apply pw_below_drewN | apply below_drew1) | exact HB.out)))); have n4_ := Aside0.mk (below_step (by repeat (first | (with_reducible first | exact HB.out | apply below_alloc | apply pw_below_drewN | apply below_drew1) | exact HB.out)) hb); clear HO439; clear HO442; clear HO445; clear HB; have HO439 := n0_; have HO442 := n1_; have HO445 := n2_; have HO451 := n3_; have HB := n4_; clear n0_ n1_ n2_ n3_ n4_; (try clear hb); (try clear hb2); (try clear hk); (try clear hi); (try clear ho0); obtain ⟨Ao29, co29, eo29⟩ := Kd.R_slice HO451.out; subst eo29) | (go_at_call 17; (with_reducible refine (dowserref04_Same.calls k _ _ y430 _ _ t449 t452 _ ?side1 ?side2 ?side3 ?side4 A14.out).mono ?_); (case side1 => repeat (first | exact (Kd.C_below HR433.out HB.out) | (with_reducible refine Kd.C_alloc ?_ _) | (with_reducible refine Kd.C_drewN ?_ _) | (with_reducible refine Kd.C_drew ?_))); (case side2 => exact HC433.out); (case side3 => repeat (first | exact (Kd.R_reads' HO451.out).2.2 | (with_reducible refine Kd.C_alloc ?_ _) | (with_reducible refine Kd.C_drewN ?_ _) | (with_reducible refine Kd.C_drew ?_))); (case side4 => exact (Kd.R_reads' HO451.out).2.1); rintro e w' ⟨rfl, ⟨nd, rfl⟩⟩) | (go_at_call 18; (with_reducible refine (ids_Has.calls k _ _ t440 a1 t453 _ ?side1 ?side2 A16.out).mono ?_); (case side1 => repeat (first | exact (Kd.R_reads' HO442.out).2.2 | (with_reducible refine Kd.C_alloc ?_ _) | (with_reducible refine Kd.C_drewN ?_ _) | (with_reducible refine Kd.C_drew ?_))); (case side2 => exact (Kd.R_reads' HO442.out).2.1); rintro e w' ⟨rfl, ⟨nd, rfl⟩⟩) | (go_at_call 19; (with_reducible refine (dowserref04_Has.calls k _ _ y430 a1 t454 _ ?side1 ?side2 A17.out).mono ?_); (case side1 => repeat (first | exact (Kd.C_below HR433.out (by repeat (first | (with_reducible first | exact HB.out | apply below_alloc | apply pw_below_drewN | apply below_drew1) | exact HB.out))) | (with_reducible refine Kd.C_alloc ?_ _) | (with_reducible refine Kd.C_drewN ?_ _) | (with_reducible refine Kd.C_drew ?_))); (case side2 => exact HC433.out); rintro e w' ⟨rfl, ⟨nd, rfl⟩⟩; obtain ⟨Ao30, co30, eo30⟩ := Kd.R_slice HO439.out; subst eo30) | (go_at_call 17; (with_reducible refine (dowserref04_Same.calls k _ _ y430 _ _ y437 t455 _ ?side1 ?side2 ?side3 ?side4 A19.out).mono ?_); (case side1 => repeat (first | exact (Kd.C_below HR433.out (by repeat (first | (with_reducible first | exact HB.out | apply below_alloc | apply pw_below_drewN | apply below_drew1) | exact HB.out))) | (with_reducible refine Kd.C_alloc ?_ _) | (with_reducible refine Kd.C_drewN ?_ _) | (with_reducible refine Kd.C_drew ?_))); (case side2 => exact HC433.out); (case side3 => repeat (first | exact (Kd.R_reads' HO439.out).2.2 | (with_reducible refine Kd.C_alloc ?_ _) | (with_reducible refine Kd.C_drewN ?_ _) | (with_reducible refine Kd.C_drew ?_))); (case side4 => exact (Kd.R_reads' HO439.out).2.1); rintro e w' ⟨rfl, ⟨nd, rfl⟩⟩))
              go_ret
              exact ⟨by first | rfl | (simp [errW_none, errW_some] <;> rfl) | (simp [*, errW_none, errW_some] <;> rfl), by repeat (first | (with_reducible first | exact HB.out | apply below_alloc | apply pw_below_drewN | apply below_drew1) | exact HB.out)⟩
            · rw [if_neg c18] at H
              exact absurd H (by simp)
          · rw [if_neg c15] at H
            exact absurd H (by simp)
        · replace c11 := Bool.eq_false_iff.mpr c11
          subst c11
          have H1 : (none) = some r := by rw [if_neg (show ¬ (false = true) by decide)] at H; exact H
          clear H
          have H := H1
          clear H1
          exact absurd H (by simp)
      · replace c9 := Bool.eq_false_iff.mpr c9
        subst c9
        have H1 : (none) = some r := by rw [if_neg (show ¬ (false = true) by decide)] at H; exact H
        clear H
        have H := H1
        clear H1
        exact absurd H (by simp)
    · rw [if_neg c5] at H
      exact absurd H (by simp)
  · replace c4 := Bool.eq_false_iff.mpr c4
    subst c4
    have H1 : (none) = some r := by rw [if_neg (show ¬ (false = true) by decide)] at H; exact H
    clear H
    have H := H1
    clear H1
    exact absurd H (by simp)

/-- THE ONE PURE STATEMENT of dowserlaw04_IdsSets: yours. -/
def dowserlaw04_IdsSets.Pure : Prop := ∀ (l0 : List Int) (a1 : Int), l0.length ≤ maxLen → l0.length * 8 ≤ 140737488351232 → (∀ x ∈ l0, (Lit.int .i64 x).wf = true) → (Lit.int .i64 a1).wf = true → ∃ k, dowserlaw04_IdsSets.f k l0 a1 = some true
theorem dowserlaw04_IdsSets.walk (P : dowserlaw04_IdsSets.Pure) (a0 : Option Addr) (len0 cap0 : Nat) (z0 : List Int) (a1 : Int) (w : World) (w0 : (a0 = none ∧ len0 = 0 ∧ cap0 = 0 ∧ z0 = []) ∨ ∃ x, a0 = some x ∧ len0 ≤ cap0 ∧ cap0 ≤ maxLen ∧ z0.length = cap0 ∧ (∀ i, i < z0.length → w.cell? (x.add i) = some (.int .i64 (z0.getD i 0))) ∧ ∀ n ∈ z0, (Lit.int .i64 n).wf = true) (y0 : len0 * 8 ≤ 140737488351232) (w1 : (Lit.int .i64 a1).wf = true) :
    Calls Try.prog 5 #[.slice a0 len0 cap0, .int .i64 a1] w fun e w' => e = .returned (.bool true) ∧ Below w.heap.size w w' := by
  obtain ⟨l0, rfl, hr0, hm0, hw0, hc0⟩ := ReadsInt.ofRowC w0
  obtain ⟨k, h⟩ := P l0 a1 hm0 y0 hw0 w1
  refine (dowserlaw04_IdsSets.calls k _ _ l0 a1 true w (Kd.C_of_reads (d := (0 : Int)) (h1 := fun _ => rfl) hr0) hc0 h).mono ?_
  rintro e w' ⟨rfl, hd⟩
  exact ⟨rfl, hd⟩

end Go.Proofs.Ytgjncbnjgmfjeaa.PA

-- Written by this session's own program wip/bin/dprint.py, over the kit's print.py, with own texts for some functions: no print of print.sh's
import Derived.Test.YtiikmomjggcdfaaPAx0
import Derived.Test.YtiikmomjggcdfaaPAx2
import Derived.Test.YtiikmomjggcdfaaPAx4
import Derived.Test.YtiikmomjggcdfaaPAx6
namespace Go.Proofs.Ytiikmomjggcdfaa.PA
open Go.RowKit Go.Proofs.YtiikmomjggcdfaaW.PrintWords Go.Proofs.YtiikmomjggcdfaaW.PrintLast Go.Proofs.YtiikmomjggcdfaaW.PrintMore
attribute [local go_sem] max2_int min2_int max_two min_two max_three min_three max_four min_four   -- for this text's walks alone
set_option linter.unusedVariables false
set_option linter.unusedSimpArgs false

/-! ### dowserlaw03_HeatOrders: function 3 -/
def dowserlaw03_HeatOrders.f (k : Nat) (a0 : Int) (a1 : Int) (a2 : Int) : Option (Bool) := (dowserlaw03_awake.f).bind fun t130 => (if t130 = true then ((heat_Compare.f a0.toNat a1.toNat).bind fun t131 => ((heat_Compare.f a1.toNat a2.toNat).bind fun t132 => ((dowserref03_Compare.f k a0.toNat a1.toNat).bind fun t133 => (if t131 = t133 then ((heat_Compare.f a1.toNat a0.toNat).bind fun t134 => (if t134 = (wrap64 (-t131)) then ((heat_Compare.f a0.toNat a0.toNat).bind fun t135 => (if t135 = 0 then ((dowserref03_Bits.f a0.toNat).bind fun t136 => ((dowserref03_Bits.f a1.toNat).bind fun t137 => (if ((t131 == 0) != (t136 == t137)) = true then (none) else (if t131 ≤ 0 then (if t132 ≤ 0 then ((heat_Compare.f a0.toNat a2.toNat).bind fun t138 => (some (!(decide (t138 > 0))))) else (some (!false))) else (some (!false)))))) else (none))) else (none))) else (none))))) else (none))
theorem dowserlaw03_HeatOrders.mono : ∀ a0 a1 a2 k, LeO (dowserlaw03_HeatOrders.f k a0 a1 a2) (dowserlaw03_HeatOrders.f (k + 1) a0 a1 a2) := by
  intro a0 a1 a2 k
  unfold dowserlaw03_HeatOrders.f
  repeat' first
      | (with_reducible exact dowserref03_Compare.mono _ _ _)
      | (with_reducible exact LeO.refl _)
      | (with_reducible exact LeO.none _)
      | (with_reducible refine LeO.ite ?_ ?_)
      | (with_reducible refine LeO.bind ?_ (fun _ => ?_))
      | exact dowserref03_Compare.mono _ _ _
      | exact LeO.none _
      | refine LeO.ite ?_ ?_
      | refine LeO.bind ?_ (fun _ => ?_)
set_option maxHeartbeats 40000000 in
set_option maxRecDepth 100000 in
theorem dowserlaw03_HeatOrders.calls (k : Nat) (a0 : Int) (a1 : Int) (a2 : Int) (r : Bool) (w : World) (h : dowserlaw03_HeatOrders.f k a0 a1 a2 = some r) :
    Calls Try.prog 3 #[.int .u64 a0, .int .u64 a1, .int .u64 a2] w fun e w' => e = .returned (.bool r) ∧ Below w.heap.size w w' := by
  have HB := Aside0.mk (Below.refl w.heap.size w)
  have H : ((dowserlaw03_awake.f).bind fun t130 => (if t130 = true then ((heat_Compare.f a0.toNat a1.toNat).bind fun t131 => ((heat_Compare.f a1.toNat a2.toNat).bind fun t132 => ((dowserref03_Compare.f k a0.toNat a1.toNat).bind fun t133 => (if t131 = t133 then ((heat_Compare.f a1.toNat a0.toNat).bind fun t134 => (if t134 = (wrap64 (-t131)) then ((heat_Compare.f a0.toNat a0.toNat).bind fun t135 => (if t135 = 0 then ((dowserref03_Bits.f a0.toNat).bind fun t136 => ((dowserref03_Bits.f a1.toNat).bind fun t137 => (if ((t131 == 0) != (t136 == t137)) = true then (none) else (if t131 ≤ 0 then (if t132 ≤ 0 then ((heat_Compare.f a0.toNat a2.toNat).bind fun t138 => (some (!(decide (t138 > 0))))) else (some (!false))) else (some (!false)))))) else (none))) else (none))) else (none))))) else (none))) = some r := h
  clear h
  replace H := Option.bind_eq_some_iff.mp H
  obtain ⟨t130, A40, H⟩ := H
  replace H : (if t130 = true then ((heat_Compare.f a0.toNat a1.toNat).bind fun t131 => ((heat_Compare.f a1.toNat a2.toNat).bind fun t132 => ((dowserref03_Compare.f k a0.toNat a1.toNat).bind fun t133 => (if t131 = t133 then ((heat_Compare.f a1.toNat a0.toNat).bind fun t134 => (if t134 = (wrap64 (-t131)) then ((heat_Compare.f a0.toNat a0.toNat).bind fun t135 => (if t135 = 0 then ((dowserref03_Bits.f a0.toNat).bind fun t136 => ((dowserref03_Bits.f a1.toNat).bind fun t137 => (if ((t131 == 0) != (t136 == t137)) = true then (none) else (if t131 ≤ 0 then (if t132 ≤ 0 then ((heat_Compare.f a0.toNat a2.toNat).bind fun t138 => (some (!(decide (t138 > 0))))) else (some (!false))) else (some (!false)))))) else (none))) else (none))) else (none))))) else (none)) = some r := H
  have A4 := Aside0.mk A40
  clear A40
  by_cases c5 : t130 = true
  · subst c5
    have H1 : ((heat_Compare.f a0.toNat a1.toNat).bind fun t131 => ((heat_Compare.f a1.toNat a2.toNat).bind fun t132 => ((dowserref03_Compare.f k a0.toNat a1.toNat).bind fun t133 => (if t131 = t133 then ((heat_Compare.f a1.toNat a0.toNat).bind fun t134 => (if t134 = (wrap64 (-t131)) then ((heat_Compare.f a0.toNat a0.toNat).bind fun t135 => (if t135 = 0 then ((dowserref03_Bits.f a0.toNat).bind fun t136 => ((dowserref03_Bits.f a1.toNat).bind fun t137 => (if ((t131 == 0) != (t136 == t137)) = true then (none) else (if t131 ≤ 0 then (if t132 ≤ 0 then ((heat_Compare.f a0.toNat a2.toNat).bind fun t138 => (some (!(decide (t138 > 0))))) else (some (!false))) else (some (!false)))))) else (none))) else (none))) else (none))))) = some r := by rw [if_pos rfl] at H; exact H
    clear H
    have H := H1
    clear H1
    replace H := Option.bind_eq_some_iff.mp H
    obtain ⟨t131, A60, H⟩ := H
    replace H : ((heat_Compare.f a1.toNat a2.toNat).bind fun t132 => ((dowserref03_Compare.f k a0.toNat a1.toNat).bind fun t133 => (if t131 = t133 then ((heat_Compare.f a1.toNat a0.toNat).bind fun t134 => (if t134 = (wrap64 (-t131)) then ((heat_Compare.f a0.toNat a0.toNat).bind fun t135 => (if t135 = 0 then ((dowserref03_Bits.f a0.toNat).bind fun t136 => ((dowserref03_Bits.f a1.toNat).bind fun t137 => (if ((t131 == 0) != (t136 == t137)) = true then (none) else (if t131 ≤ 0 then (if t132 ≤ 0 then ((heat_Compare.f a0.toNat a2.toNat).bind fun t138 => (some (!(decide (t138 > 0))))) else (some (!false))) else (some (!false)))))) else (none))) else (none))) else (none)))) = some r := H
    have A6 := Aside0.mk A60
    clear A60
    replace H := Option.bind_eq_some_iff.mp H
    obtain ⟨t132, A70, H⟩ := H
    replace H : ((dowserref03_Compare.f k a0.toNat a1.toNat).bind fun t133 => (if t131 = t133 then ((heat_Compare.f a1.toNat a0.toNat).bind fun t134 => (if t134 = (wrap64 (-t131)) then ((heat_Compare.f a0.toNat a0.toNat).bind fun t135 => (if t135 = 0 then ((dowserref03_Bits.f a0.toNat).bind fun t136 => ((dowserref03_Bits.f a1.toNat).bind fun t137 => (if ((t131 == 0) != (t136 == t137)) = true then (none) else (if t131 ≤ 0 then (if t132 ≤ 0 then ((heat_Compare.f a0.toNat a2.toNat).bind fun t138 => (some (!(decide (t138 > 0))))) else (some (!false))) else (some (!false)))))) else (none))) else (none))) else (none))) = some r := H
    have A7 := Aside0.mk A70
    clear A70
    replace H := Option.bind_eq_some_iff.mp H
    obtain ⟨t133, A80, H⟩ := H
    replace H : (if t131 = t133 then ((heat_Compare.f a1.toNat a0.toNat).bind fun t134 => (if t134 = (wrap64 (-t131)) then ((heat_Compare.f a0.toNat a0.toNat).bind fun t135 => (if t135 = 0 then ((dowserref03_Bits.f a0.toNat).bind fun t136 => ((dowserref03_Bits.f a1.toNat).bind fun t137 => (if ((t131 == 0) != (t136 == t137)) = true then (none) else (if t131 ≤ 0 then (if t132 ≤ 0 then ((heat_Compare.f a0.toNat a2.toNat).bind fun t138 => (some (!(decide (t138 > 0))))) else (some (!false))) else (some (!false)))))) else (none))) else (none))) else (none)) = some r := H
    have A8 := Aside0.mk A80
    clear A80
    by_cases c9 : t131 = t133
    · rw [if_pos c9] at H
      have c9b0 : (t131 == t133) = true := beq_iff_eq.mpr c9
      have c9b1 : (t131 != t133) = false := bne_eq_false_iff_eq.mpr c9
      clear c9
      replace H := Option.bind_eq_some_iff.mp H
      obtain ⟨t134, A100, H⟩ := H
      replace H : (if t134 = (wrap64 (-t131)) then ((heat_Compare.f a0.toNat a0.toNat).bind fun t135 => (if t135 = 0 then ((dowserref03_Bits.f a0.toNat).bind fun t136 => ((dowserref03_Bits.f a1.toNat).bind fun t137 => (if ((t131 == 0) != (t136 == t137)) = true then (none) else (if t131 ≤ 0 then (if t132 ≤ 0 then ((heat_Compare.f a0.toNat a2.toNat).bind fun t138 => (some (!(decide (t138 > 0))))) else (some (!false))) else (some (!false)))))) else (none))) else (none)) = some r := H
      have A10 := Aside0.mk A100
      clear A100
      by_cases c11 : t134 = (wrap64 (-t131))
      · rw [if_pos c11] at H
        have c11b0 : (t134 == (wrap64 (-t131))) = true := beq_iff_eq.mpr c11
        have c11b1 : (t134 != (wrap64 (-t131))) = false := bne_eq_false_iff_eq.mpr c11
        clear c11
        replace H := Option.bind_eq_some_iff.mp H
        obtain ⟨t135, A120, H⟩ := H
        replace H : (if t135 = 0 then ((dowserref03_Bits.f a0.toNat).bind fun t136 => ((dowserref03_Bits.f a1.toNat).bind fun t137 => (if ((t131 == 0) != (t136 == t137)) = true then (none) else (if t131 ≤ 0 then (if t132 ≤ 0 then ((heat_Compare.f a0.toNat a2.toNat).bind fun t138 => (some (!(decide (t138 > 0))))) else (some (!false))) else (some (!false)))))) else (none)) = some r := H
        have A12 := Aside0.mk A120
        clear A120
        by_cases c13 : t135 = 0
        · rw [if_pos c13] at H
          have c13b0 : (t135 == 0) = true := beq_iff_eq.mpr c13
          have c13b1 : (t135 != 0) = false := bne_eq_false_iff_eq.mpr c13
          clear c13
          replace H := Option.bind_eq_some_iff.mp H
          obtain ⟨t136, A140, H⟩ := H
          replace H : ((dowserref03_Bits.f a1.toNat).bind fun t137 => (if ((t131 == 0) != (t136 == t137)) = true then (none) else (if t131 ≤ 0 then (if t132 ≤ 0 then ((heat_Compare.f a0.toNat a2.toNat).bind fun t138 => (some (!(decide (t138 > 0))))) else (some (!false))) else (some (!false))))) = some r := H
          have A14 := Aside0.mk A140
          clear A140
          replace H := Option.bind_eq_some_iff.mp H
          obtain ⟨t137, A150, H⟩ := H
          replace H : (if ((t131 == 0) != (t136 == t137)) = true then (none) else (if t131 ≤ 0 then (if t132 ≤ 0 then ((heat_Compare.f a0.toNat a2.toNat).bind fun t138 => (some (!(decide (t138 > 0))))) else (some (!false))) else (some (!false)))) = some r := H
          have A15 := Aside0.mk A150
          clear A150
          by_cases c16 : ((t131 == 0) != (t136 == t137)) = true
          · rw [if_pos c16] at H
            exact absurd H (by simp)
          · rw [if_neg c16] at H
            have c16b0 : ((t131 == 0) != (t136 == t137)) = false := by simpa using c16
            (try (have c16b1 : decide ((t131 == 0) = (t136 == t137)) = true := by simpa using c16))
            (try (have c16b2 : ((t131 == 0) == (t136 == t137)) = true := by simpa using c16))
            clear c16
            by_cases c17 : t131 ≤ 0
            · rw [if_pos c17] at H
              have c17b0 : decide (t131 ≤ 0) = true := decide_eq_true c17
              clear c17
              by_cases c18 : t132 ≤ 0
              · rw [if_pos c18] at H
                have c18b0 : decide (t132 ≤ 0) = true := decide_eq_true c18
                clear c18
                replace H := Option.bind_eq_some_iff.mp H
                obtain ⟨t138, A190, H⟩ := H
                replace H : (some (!(decide (t138 > 0)))) = some r := H
                have A19 := Aside0.mk A190
                clear A190
                obtain rfl := Option.some.inj H
                have hxt10 : ∀ (b_ : Int) (w_ : World), (callFunc 10 #[.int .u64 b_]).run Try.prog w_ = .ok (.value (.float .f64 b_.toNat)) w_ := fun b_ w_ => by rw [run_callFunc_extern (fn := Try.f10) (e := Extern.MathFloatBits.float64frombits) (by kernel_rfl) (by rfl) (by rfl) (by kernel_rfl) (by kernel_rfl)]; rfl
                go_enter Try.func3, Try.ntmps3
                go_wp2_with (first | ((with_reducible refine gate_callee (f := 9) rfl ?_); refine goesL_ (some 12) rfl rfl Try.func9 (by kernel_rfl) rfl #[] rfl (by (try simp only [List.map_toArray, List.map_cons, List.map_nil]); first | done | rfl | (simp only [List.length_drop, List.length_take]; rfl)) ?_; (with_reducible refine (dowserlaw03_awake.calls  true _ A4.out).mono ?_); rintro e w20 ⟨rfl, hb⟩; refine ⟨_, rfl, ?_⟩; have n0_ := Aside0.mk (below_step (by repeat (first | (with_reducible first | exact HB.out | apply below_alloc | apply pw_below_drewN | apply below_drew1) | exact HB.out)) hb); clear HB; have HB := n0_; clear n0_; (try clear hb); (try clear hb2); (try clear hk); (try clear hi)) | ((with_reducible refine gate_callee (f := 11) rfl ?_); refine goesL_ (some 22) rfl rfl Try.func11 (by kernel_rfl) rfl #[.float .f64 a0.toNat, .float .f64 a1.toNat] rfl (by (try simp only [List.map_toArray, List.map_cons, List.map_nil]); first | done | rfl | (simp only [List.length_drop, List.length_take]; rfl)) ?_; (with_reducible refine (heat_Compare.calls a0.toNat a1.toNat t131 _ A6.out).mono ?_); rintro e w' ⟨rfl, ⟨nd, rfl⟩⟩; refine ⟨_, rfl, ?_⟩) | ((with_reducible refine gate_callee (f := 11) rfl ?_); refine goesL_ (some 25) rfl rfl Try.func11 (by kernel_rfl) rfl #[.float .f64 a1.toNat, .float .f64 a2.toNat] rfl (by (try simp only [List.map_toArray, List.map_cons, List.map_nil]); first | done | rfl | (simp only [List.length_drop, List.length_take]; rfl)) ?_; (with_reducible refine (heat_Compare.calls a1.toNat a2.toNat t132 _ A7.out).mono ?_); rintro e w' ⟨rfl, ⟨nd, rfl⟩⟩; refine ⟨_, rfl, ?_⟩) | ((with_reducible refine gate_callee (f := 12) rfl ?_); refine goesL_ (some 29) rfl rfl Try.func12 (by kernel_rfl) rfl #[.float .f64 a0.toNat, .float .f64 a1.toNat] rfl (by (try simp only [List.map_toArray, List.map_cons, List.map_nil]); first | done | rfl | (simp only [List.length_drop, List.length_take]; rfl)) ?_; (with_reducible refine (dowserref03_Compare.calls k a0.toNat a1.toNat t133 _ A8.out).mono ?_); rintro e w' ⟨rfl, ⟨nd, rfl⟩⟩; refine ⟨_, rfl, ?_⟩) | (go_at_call 11; (with_reducible refine (heat_Compare.calls a1.toNat a0.toNat t134 _ A10.out).mono ?_); rintro e w' ⟨rfl, ⟨nd, rfl⟩⟩) | (go_at_call 11; (with_reducible refine (heat_Compare.calls a0.toNat a0.toNat t135 _ A12.out).mono ?_); rintro e w' ⟨rfl, ⟨nd, rfl⟩⟩) | (go_at_call 13; (with_reducible refine (dowserref03_Bits.calls a0.toNat t136 _ A14.out).mono ?_); rintro e w' ⟨rfl, ⟨nd, rfl⟩⟩) | (go_at_call 13; (with_reducible refine (dowserref03_Bits.calls a1.toNat t137 _ A15.out).mono ?_); rintro e w' ⟨rfl, ⟨nd, rfl⟩⟩) | (go_at_call 11; (with_reducible refine (heat_Compare.calls a0.toNat a2.toNat t138 _ A19.out).mono ?_); rintro e w' ⟨rfl, ⟨nd, rfl⟩⟩))
                go_ret
                exact ⟨by first | rfl | (simp [errW_none, errW_some] <;> rfl) | (simp [*, errW_none, errW_some] <;> rfl), by repeat (first | (with_reducible first | exact HB.out | apply below_alloc | apply pw_below_drewN | apply below_drew1) | exact HB.out)⟩
              · rw [if_neg c18] at H
                have c18b0 : decide (t132 ≤ 0) = false := decide_eq_false c18
                clear c18
                obtain rfl := Option.some.inj H
                have hxt10 : ∀ (b_ : Int) (w_ : World), (callFunc 10 #[.int .u64 b_]).run Try.prog w_ = .ok (.value (.float .f64 b_.toNat)) w_ := fun b_ w_ => by rw [run_callFunc_extern (fn := Try.f10) (e := Extern.MathFloatBits.float64frombits) (by kernel_rfl) (by rfl) (by rfl) (by kernel_rfl) (by kernel_rfl)]; rfl
                go_enter Try.func3, Try.ntmps3
                go_wp2_with (first | ((with_reducible refine gate_callee (f := 9) rfl ?_); refine goesL_ (some 12) rfl rfl Try.func9 (by kernel_rfl) rfl #[] rfl (by (try simp only [List.map_toArray, List.map_cons, List.map_nil]); first | done | rfl | (simp only [List.length_drop, List.length_take]; rfl)) ?_; (with_reducible refine (dowserlaw03_awake.calls  true _ A4.out).mono ?_); rintro e w21 ⟨rfl, hb⟩; refine ⟨_, rfl, ?_⟩; have n0_ := Aside0.mk (below_step (by repeat (first | (with_reducible first | exact HB.out | apply below_alloc | apply pw_below_drewN | apply below_drew1) | exact HB.out)) hb); clear HB; have HB := n0_; clear n0_; (try clear hb); (try clear hb2); (try clear hk); (try clear hi)) | ((with_reducible refine gate_callee (f := 11) rfl ?_); refine goesL_ (some 22) rfl rfl Try.func11 (by kernel_rfl) rfl #[.float .f64 a0.toNat, .float .f64 a1.toNat] rfl (by (try simp only [List.map_toArray, List.map_cons, List.map_nil]); first | done | rfl | (simp only [List.length_drop, List.length_take]; rfl)) ?_; (with_reducible refine (heat_Compare.calls a0.toNat a1.toNat t131 _ A6.out).mono ?_); rintro e w' ⟨rfl, ⟨nd, rfl⟩⟩; refine ⟨_, rfl, ?_⟩) | ((with_reducible refine gate_callee (f := 11) rfl ?_); refine goesL_ (some 25) rfl rfl Try.func11 (by kernel_rfl) rfl #[.float .f64 a1.toNat, .float .f64 a2.toNat] rfl (by (try simp only [List.map_toArray, List.map_cons, List.map_nil]); first | done | rfl | (simp only [List.length_drop, List.length_take]; rfl)) ?_; (with_reducible refine (heat_Compare.calls a1.toNat a2.toNat t132 _ A7.out).mono ?_); rintro e w' ⟨rfl, ⟨nd, rfl⟩⟩; refine ⟨_, rfl, ?_⟩) | ((with_reducible refine gate_callee (f := 12) rfl ?_); refine goesL_ (some 29) rfl rfl Try.func12 (by kernel_rfl) rfl #[.float .f64 a0.toNat, .float .f64 a1.toNat] rfl (by (try simp only [List.map_toArray, List.map_cons, List.map_nil]); first | done | rfl | (simp only [List.length_drop, List.length_take]; rfl)) ?_; (with_reducible refine (dowserref03_Compare.calls k a0.toNat a1.toNat t133 _ A8.out).mono ?_); rintro e w' ⟨rfl, ⟨nd, rfl⟩⟩; refine ⟨_, rfl, ?_⟩) | (go_at_call 11; (with_reducible refine (heat_Compare.calls a1.toNat a0.toNat t134 _ A10.out).mono ?_); rintro e w' ⟨rfl, ⟨nd, rfl⟩⟩) | (go_at_call 11; (with_reducible refine (heat_Compare.calls a0.toNat a0.toNat t135 _ A12.out).mono ?_); rintro e w' ⟨rfl, ⟨nd, rfl⟩⟩) | (go_at_call 13; (with_reducible refine (dowserref03_Bits.calls a0.toNat t136 _ A14.out).mono ?_); rintro e w' ⟨rfl, ⟨nd, rfl⟩⟩) | (go_at_call 13; (with_reducible refine (dowserref03_Bits.calls a1.toNat t137 _ A15.out).mono ?_); rintro e w' ⟨rfl, ⟨nd, rfl⟩⟩))
                go_ret
                exact ⟨by first | rfl | (simp [errW_none, errW_some] <;> rfl) | (simp [*, errW_none, errW_some] <;> rfl), by repeat (first | (with_reducible first | exact HB.out | apply below_alloc | apply pw_below_drewN | apply below_drew1) | exact HB.out)⟩
            · rw [if_neg c17] at H
              have c17b0 : decide (t131 ≤ 0) = false := decide_eq_false c17
              clear c17
              obtain rfl := Option.some.inj H
              have hxt10 : ∀ (b_ : Int) (w_ : World), (callFunc 10 #[.int .u64 b_]).run Try.prog w_ = .ok (.value (.float .f64 b_.toNat)) w_ := fun b_ w_ => by rw [run_callFunc_extern (fn := Try.f10) (e := Extern.MathFloatBits.float64frombits) (by kernel_rfl) (by rfl) (by rfl) (by kernel_rfl) (by kernel_rfl)]; rfl
              go_enter Try.func3, Try.ntmps3
              go_wp2_with (first | ((with_reducible refine gate_callee (f := 9) rfl ?_); refine goesL_ (some 12) rfl rfl Try.func9 (by kernel_rfl) rfl #[] rfl (by (try simp only [List.map_toArray, List.map_cons, List.map_nil]); first | done | rfl | (simp only [List.length_drop, List.length_take]; rfl)) ?_; (with_reducible refine (dowserlaw03_awake.calls  true _ A4.out).mono ?_); rintro e w22 ⟨rfl, hb⟩; refine ⟨_, rfl, ?_⟩; have n0_ := Aside0.mk (below_step (by repeat (first | (with_reducible first | exact HB.out | apply below_alloc | apply pw_below_drewN | apply below_drew1) | exact HB.out)) hb); clear HB; have HB := n0_; clear n0_; (try clear hb); (try clear hb2); (try clear hk); (try clear hi)) | ((with_reducible refine gate_callee (f := 11) rfl ?_); refine goesL_ (some 22) rfl rfl Try.func11 (by kernel_rfl) rfl #[.float .f64 a0.toNat, .float .f64 a1.toNat] rfl (by (try simp only [List.map_toArray, List.map_cons, List.map_nil]); first | done | rfl | (simp only [List.length_drop, List.length_take]; rfl)) ?_; (with_reducible refine (heat_Compare.calls a0.toNat a1.toNat t131 _ A6.out).mono ?_); rintro e w' ⟨rfl, ⟨nd, rfl⟩⟩; refine ⟨_, rfl, ?_⟩) | ((with_reducible refine gate_callee (f := 11) rfl ?_); refine goesL_ (some 25) rfl rfl Try.func11 (by kernel_rfl) rfl #[.float .f64 a1.toNat, .float .f64 a2.toNat] rfl (by (try simp only [List.map_toArray, List.map_cons, List.map_nil]); first | done | rfl | (simp only [List.length_drop, List.length_take]; rfl)) ?_; (with_reducible refine (heat_Compare.calls a1.toNat a2.toNat t132 _ A7.out).mono ?_); rintro e w' ⟨rfl, ⟨nd, rfl⟩⟩; refine ⟨_, rfl, ?_⟩) | ((with_reducible refine gate_callee (f := 12) rfl ?_); refine goesL_ (some 29) rfl rfl Try.func12 (by kernel_rfl) rfl #[.float .f64 a0.toNat, .float .f64 a1.toNat] rfl (by (try simp only [List.map_toArray, List.map_cons, List.map_nil]); first | done | rfl | (simp only [List.length_drop, List.length_take]; rfl)) ?_; (with_reducible refine (dowserref03_Compare.calls k a0.toNat a1.toNat t133 _ A8.out).mono ?_); rintro e w' ⟨rfl, ⟨nd, rfl⟩⟩; refine ⟨_, rfl, ?_⟩) | (go_at_call 11; (with_reducible refine (heat_Compare.calls a1.toNat a0.toNat t134 _ A10.out).mono ?_); rintro e w' ⟨rfl, ⟨nd, rfl⟩⟩) | (go_at_call 11; (with_reducible refine (heat_Compare.calls a0.toNat a0.toNat t135 _ A12.out).mono ?_); rintro e w' ⟨rfl, ⟨nd, rfl⟩⟩) | (go_at_call 13; (with_reducible refine (dowserref03_Bits.calls a0.toNat t136 _ A14.out).mono ?_); rintro e w' ⟨rfl, ⟨nd, rfl⟩⟩) | (go_at_call 13; (with_reducible refine (dowserref03_Bits.calls a1.toNat t137 _ A15.out).mono ?_); rintro e w' ⟨rfl, ⟨nd, rfl⟩⟩))
              go_ret
              exact ⟨by first | rfl | (simp [errW_none, errW_some] <;> rfl) | (simp [*, errW_none, errW_some] <;> rfl), by repeat (first | (with_reducible first | exact HB.out | apply below_alloc | apply pw_below_drewN | apply below_drew1) | exact HB.out)⟩
        · rw [if_neg c13] at H
          exact absurd H (by simp)
      · rw [if_neg c11] at H
        exact absurd H (by simp)
    · rw [if_neg c9] at H
      exact absurd H (by simp)
  · replace c5 := Bool.eq_false_iff.mpr c5
    subst c5
    have H1 : (none) = some r := by rw [if_neg (show ¬ (false = true) by decide)] at H; exact H
    clear H
    have H := H1
    clear H1
    exact absurd H (by simp)

/-- THE ONE PURE STATEMENT of dowserlaw03_HeatOrders: yours. -/
def dowserlaw03_HeatOrders.Pure : Prop := ∀ (a0 : Int) (a1 : Int) (a2 : Int), (Lit.int .u64 a0).wf = true → (Lit.int .u64 a1).wf = true → (Lit.int .u64 a2).wf = true → ∃ k, dowserlaw03_HeatOrders.f k a0 a1 a2 = some true
theorem dowserlaw03_HeatOrders.walk (P : dowserlaw03_HeatOrders.Pure) (a0 : Int) (a1 : Int) (a2 : Int) (w : World) (w0 : (Lit.int .u64 a0).wf = true) (w1 : (Lit.int .u64 a1).wf = true) (w2 : (Lit.int .u64 a2).wf = true) :
    Calls Try.prog 3 #[.int .u64 a0, .int .u64 a1, .int .u64 a2] w fun e w' => e = .returned (.bool true) ∧ Below w.heap.size w w' := by
  obtain ⟨k, h⟩ := P a0 a1 a2 w0 w1 w2
  refine (dowserlaw03_HeatOrders.calls k a0 a1 a2 true w h).mono ?_
  rintro e w' ⟨rfl, hd⟩
  exact ⟨rfl, hd⟩

end Go.Proofs.Ytiikmomjggcdfaa.PA

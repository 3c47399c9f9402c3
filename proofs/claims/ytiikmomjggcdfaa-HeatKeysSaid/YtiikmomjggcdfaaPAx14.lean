-- Written by this session's own program wip/bin/dprint.py, over the kit's print.py, with own texts for some functions: no print of print.sh's
import Derived.Test.YtiikmomjggcdfaaPAx0
import Derived.Test.YtiikmomjggcdfaaPAx1
import Derived.Test.YtiikmomjggcdfaaPAx4
import Derived.Test.YtiikmomjggcdfaaPAx6
import Derived.Test.YtiikmomjggcdfaaPAx11
import Derived.Test.YtiikmomjggcdfaaPAx12
import Derived.Test.YtiikmomjggcdfaaPAx13
namespace Go.Proofs.Ytiikmomjggcdfaa.PA
open Go.RowKit Go.Proofs.YtiikmomjggcdfaaW.PrintWords Go.Proofs.YtiikmomjggcdfaaW.PrintLast Go.Proofs.YtiikmomjggcdfaaW.PrintMore
attribute [local go_sem] max2_int min2_int max_two min_two max_three min_three max_four min_four   -- for this text's walks alone
set_option linter.unusedVariables false
set_option linter.unusedSimpArgs false

/-! ### dowserlaw03_HeatKeys: function 7 -/
def dowserlaw03_HeatKeys.f (k : Nat) (a0 : Int) (a1 : Int) : Option (Bool) := (dowserlaw03_awake.f).bind fun t187 => (if t187 = true then ((heat_Bits.f a0.toNat).bind fun t188 => ((dowserref03_Bits.f a0.toNat).bind fun t189 => (if t188 = t189 then ((heat_Canon.f a0.toNat).bind fun t190 => (if (t190 : Int) = t189 then ((heat_Of.f a0).bind fun t191 => (if (t191 : Int) = t189 then ((heat_Key.f a0.toNat).bind fun t192 => ((dowserref03_Key.f a0.toNat).bind fun t193 => (if t192 = t193 then ((heat_From.f k t192).bind fun t194 => ((heat_Bits.f t194).bind fun t195 => (if t195 = t189 then ((heat_From.f k a1).bind fun t201 => ((heat_Key.f t201).bind fun t202 => (if t202 = a1 then (some true) else ((dowserref03_Not.f t201).bind fun t203 => (if t203 = true then ((math_Inf.f 1).bind fun t204 => ((dowserref03_Key.f t204).bind fun t205 => (some (decide (a1 > t205))))) else (none)))))) else (none)))) else (none)))) else (none))) else (none))) else (none)))) else (none))
theorem dowserlaw03_HeatKeys.mono : ∀ a0 a1 k, LeO (dowserlaw03_HeatKeys.f k a0 a1) (dowserlaw03_HeatKeys.f (k + 1) a0 a1) := by
  intro a0 a1 k
  unfold dowserlaw03_HeatKeys.f
  repeat' first
      | (with_reducible exact heat_From.mono _ _)
      | (with_reducible exact LeO.refl _)
      | (with_reducible exact LeO.none _)
      | (with_reducible refine LeO.ite ?_ ?_)
      | (with_reducible refine LeO.bind ?_ (fun _ => ?_))
      | exact heat_From.mono _ _
      | exact LeO.none _
      | refine LeO.ite ?_ ?_
      | refine LeO.bind ?_ (fun _ => ?_)
set_option maxHeartbeats 40000000 in
set_option maxRecDepth 100000 in
theorem dowserlaw03_HeatKeys.calls (k : Nat) (a0 : Int) (a1 : Int) (r : Bool) (w : World) (h : dowserlaw03_HeatKeys.f k a0 a1 = some r) :
    Calls Try.prog 7 #[.int .u64 a0, .int .u64 a1] w fun e w' => e = .returned (.bool r) ∧ Below w.heap.size w w' := by
  have HB := Aside0.mk (Below.refl w.heap.size w)
  have H : ((dowserlaw03_awake.f).bind fun t187 => (if t187 = true then ((heat_Bits.f a0.toNat).bind fun t188 => ((dowserref03_Bits.f a0.toNat).bind fun t189 => (if t188 = t189 then ((heat_Canon.f a0.toNat).bind fun t190 => (if (t190 : Int) = t189 then ((heat_Of.f a0).bind fun t191 => (if (t191 : Int) = t189 then ((heat_Key.f a0.toNat).bind fun t192 => ((dowserref03_Key.f a0.toNat).bind fun t193 => (if t192 = t193 then ((heat_From.f k t192).bind fun t194 => ((heat_Bits.f t194).bind fun t195 => (if t195 = t189 then ((heat_From.f k a1).bind fun t201 => ((heat_Key.f t201).bind fun t202 => (if t202 = a1 then (some true) else ((dowserref03_Not.f t201).bind fun t203 => (if t203 = true then ((math_Inf.f 1).bind fun t204 => ((dowserref03_Key.f t204).bind fun t205 => (some (decide (a1 > t205))))) else (none)))))) else (none)))) else (none)))) else (none))) else (none))) else (none)))) else (none))) = some r := h
  clear h
  replace H := Option.bind_eq_some_iff.mp H
  obtain ⟨t187, A30, H⟩ := H
  replace H : (if t187 = true then ((heat_Bits.f a0.toNat).bind fun t188 => ((dowserref03_Bits.f a0.toNat).bind fun t189 => (if t188 = t189 then ((heat_Canon.f a0.toNat).bind fun t190 => (if (t190 : Int) = t189 then ((heat_Of.f a0).bind fun t191 => (if (t191 : Int) = t189 then ((heat_Key.f a0.toNat).bind fun t192 => ((dowserref03_Key.f a0.toNat).bind fun t193 => (if t192 = t193 then ((heat_From.f k t192).bind fun t194 => ((heat_Bits.f t194).bind fun t195 => (if t195 = t189 then ((heat_From.f k a1).bind fun t201 => ((heat_Key.f t201).bind fun t202 => (if t202 = a1 then (some true) else ((dowserref03_Not.f t201).bind fun t203 => (if t203 = true then ((math_Inf.f 1).bind fun t204 => ((dowserref03_Key.f t204).bind fun t205 => (some (decide (a1 > t205))))) else (none)))))) else (none)))) else (none)))) else (none))) else (none))) else (none)))) else (none)) = some r := H
  have A3 := Aside0.mk A30
  clear A30
  by_cases c4 : t187 = true
  · subst c4
    have H1 : ((heat_Bits.f a0.toNat).bind fun t188 => ((dowserref03_Bits.f a0.toNat).bind fun t189 => (if t188 = t189 then ((heat_Canon.f a0.toNat).bind fun t190 => (if (t190 : Int) = t189 then ((heat_Of.f a0).bind fun t191 => (if (t191 : Int) = t189 then ((heat_Key.f a0.toNat).bind fun t192 => ((dowserref03_Key.f a0.toNat).bind fun t193 => (if t192 = t193 then ((heat_From.f k t192).bind fun t194 => ((heat_Bits.f t194).bind fun t195 => (if t195 = t189 then ((heat_From.f k a1).bind fun t201 => ((heat_Key.f t201).bind fun t202 => (if t202 = a1 then (some true) else ((dowserref03_Not.f t201).bind fun t203 => (if t203 = true then ((math_Inf.f 1).bind fun t204 => ((dowserref03_Key.f t204).bind fun t205 => (some (decide (a1 > t205))))) else (none)))))) else (none)))) else (none)))) else (none))) else (none))) else (none)))) = some r := by rw [if_pos rfl] at H; exact H
    clear H
    have H := H1
    clear H1
    replace H := Option.bind_eq_some_iff.mp H
    obtain ⟨t188, A50, H⟩ := H
    replace H : ((dowserref03_Bits.f a0.toNat).bind fun t189 => (if t188 = t189 then ((heat_Canon.f a0.toNat).bind fun t190 => (if (t190 : Int) = t189 then ((heat_Of.f a0).bind fun t191 => (if (t191 : Int) = t189 then ((heat_Key.f a0.toNat).bind fun t192 => ((dowserref03_Key.f a0.toNat).bind fun t193 => (if t192 = t193 then ((heat_From.f k t192).bind fun t194 => ((heat_Bits.f t194).bind fun t195 => (if t195 = t189 then ((heat_From.f k a1).bind fun t201 => ((heat_Key.f t201).bind fun t202 => (if t202 = a1 then (some true) else ((dowserref03_Not.f t201).bind fun t203 => (if t203 = true then ((math_Inf.f 1).bind fun t204 => ((dowserref03_Key.f t204).bind fun t205 => (some (decide (a1 > t205))))) else (none)))))) else (none)))) else (none)))) else (none))) else (none))) else (none))) = some r := H
    have A5 := Aside0.mk A50
    clear A50
    replace H := Option.bind_eq_some_iff.mp H
    obtain ⟨t189, A60, H⟩ := H
    replace H : (if t188 = t189 then ((heat_Canon.f a0.toNat).bind fun t190 => (if (t190 : Int) = t189 then ((heat_Of.f a0).bind fun t191 => (if (t191 : Int) = t189 then ((heat_Key.f a0.toNat).bind fun t192 => ((dowserref03_Key.f a0.toNat).bind fun t193 => (if t192 = t193 then ((heat_From.f k t192).bind fun t194 => ((heat_Bits.f t194).bind fun t195 => (if t195 = t189 then ((heat_From.f k a1).bind fun t201 => ((heat_Key.f t201).bind fun t202 => (if t202 = a1 then (some true) else ((dowserref03_Not.f t201).bind fun t203 => (if t203 = true then ((math_Inf.f 1).bind fun t204 => ((dowserref03_Key.f t204).bind fun t205 => (some (decide (a1 > t205))))) else (none)))))) else (none)))) else (none)))) else (none))) else (none))) else (none)) = some r := H
    have A6 := Aside0.mk A60
    clear A60
    by_cases c7 : t188 = t189
    · rw [if_pos c7] at H
      have c7b0 : (t188 == t189) = true := beq_iff_eq.mpr c7
      have c7b1 : (t188 != t189) = false := bne_eq_false_iff_eq.mpr c7
      clear c7
      replace H := Option.bind_eq_some_iff.mp H
      obtain ⟨t190, A80, H⟩ := H
      replace H : (if (t190 : Int) = t189 then ((heat_Of.f a0).bind fun t191 => (if (t191 : Int) = t189 then ((heat_Key.f a0.toNat).bind fun t192 => ((dowserref03_Key.f a0.toNat).bind fun t193 => (if t192 = t193 then ((heat_From.f k t192).bind fun t194 => ((heat_Bits.f t194).bind fun t195 => (if t195 = t189 then ((heat_From.f k a1).bind fun t201 => ((heat_Key.f t201).bind fun t202 => (if t202 = a1 then (some true) else ((dowserref03_Not.f t201).bind fun t203 => (if t203 = true then ((math_Inf.f 1).bind fun t204 => ((dowserref03_Key.f t204).bind fun t205 => (some (decide (a1 > t205))))) else (none)))))) else (none)))) else (none)))) else (none))) else (none)) = some r := H
      have A8 := Aside0.mk A80
      clear A80
      by_cases c9 : (t190 : Int) = t189
      · rw [if_pos c9] at H
        have c9b0 : ((t190 : Int) == t189) = true := beq_iff_eq.mpr c9
        have c9b1 : ((t190 : Int) != t189) = false := bne_eq_false_iff_eq.mpr c9
        clear c9
        replace H := Option.bind_eq_some_iff.mp H
        obtain ⟨t191, A100, H⟩ := H
        replace H : (if (t191 : Int) = t189 then ((heat_Key.f a0.toNat).bind fun t192 => ((dowserref03_Key.f a0.toNat).bind fun t193 => (if t192 = t193 then ((heat_From.f k t192).bind fun t194 => ((heat_Bits.f t194).bind fun t195 => (if t195 = t189 then ((heat_From.f k a1).bind fun t201 => ((heat_Key.f t201).bind fun t202 => (if t202 = a1 then (some true) else ((dowserref03_Not.f t201).bind fun t203 => (if t203 = true then ((math_Inf.f 1).bind fun t204 => ((dowserref03_Key.f t204).bind fun t205 => (some (decide (a1 > t205))))) else (none)))))) else (none)))) else (none)))) else (none)) = some r := H
        have A10 := Aside0.mk A100
        clear A100
        by_cases c11 : (t191 : Int) = t189
        · rw [if_pos c11] at H
          have c11b0 : ((t191 : Int) == t189) = true := beq_iff_eq.mpr c11
          have c11b1 : ((t191 : Int) != t189) = false := bne_eq_false_iff_eq.mpr c11
          clear c11
          replace H := Option.bind_eq_some_iff.mp H
          obtain ⟨t192, A120, H⟩ := H
          replace H : ((dowserref03_Key.f a0.toNat).bind fun t193 => (if t192 = t193 then ((heat_From.f k t192).bind fun t194 => ((heat_Bits.f t194).bind fun t195 => (if t195 = t189 then ((heat_From.f k a1).bind fun t201 => ((heat_Key.f t201).bind fun t202 => (if t202 = a1 then (some true) else ((dowserref03_Not.f t201).bind fun t203 => (if t203 = true then ((math_Inf.f 1).bind fun t204 => ((dowserref03_Key.f t204).bind fun t205 => (some (decide (a1 > t205))))) else (none)))))) else (none)))) else (none))) = some r := H
          have A12 := Aside0.mk A120
          clear A120
          replace H := Option.bind_eq_some_iff.mp H
          obtain ⟨t193, A130, H⟩ := H
          replace H : (if t192 = t193 then ((heat_From.f k t192).bind fun t194 => ((heat_Bits.f t194).bind fun t195 => (if t195 = t189 then ((heat_From.f k a1).bind fun t201 => ((heat_Key.f t201).bind fun t202 => (if t202 = a1 then (some true) else ((dowserref03_Not.f t201).bind fun t203 => (if t203 = true then ((math_Inf.f 1).bind fun t204 => ((dowserref03_Key.f t204).bind fun t205 => (some (decide (a1 > t205))))) else (none)))))) else (none)))) else (none)) = some r := H
          have A13 := Aside0.mk A130
          clear A130
          by_cases c14 : t192 = t193
          · rw [if_pos c14] at H
            have c14b0 : (t192 == t193) = true := beq_iff_eq.mpr c14
            have c14b1 : (t192 != t193) = false := bne_eq_false_iff_eq.mpr c14
            clear c14
            replace H := Option.bind_eq_some_iff.mp H
            obtain ⟨t194, A150, H⟩ := H
            replace H : ((heat_Bits.f t194).bind fun t195 => (if t195 = t189 then ((heat_From.f k a1).bind fun t201 => ((heat_Key.f t201).bind fun t202 => (if t202 = a1 then (some true) else ((dowserref03_Not.f t201).bind fun t203 => (if t203 = true then ((math_Inf.f 1).bind fun t204 => ((dowserref03_Key.f t204).bind fun t205 => (some (decide (a1 > t205))))) else (none)))))) else (none))) = some r := H
            have A15 := Aside0.mk A150
            clear A150
            replace H := Option.bind_eq_some_iff.mp H
            obtain ⟨t195, A160, H⟩ := H
            replace H : (if t195 = t189 then ((heat_From.f k a1).bind fun t201 => ((heat_Key.f t201).bind fun t202 => (if t202 = a1 then (some true) else ((dowserref03_Not.f t201).bind fun t203 => (if t203 = true then ((math_Inf.f 1).bind fun t204 => ((dowserref03_Key.f t204).bind fun t205 => (some (decide (a1 > t205))))) else (none)))))) else (none)) = some r := H
            have A16 := Aside0.mk A160
            clear A160
            by_cases c17 : t195 = t189
            · rw [if_pos c17] at H
              have c17b0 : (t195 == t189) = true := beq_iff_eq.mpr c17
              have c17b1 : (t195 != t189) = false := bne_eq_false_iff_eq.mpr c17
              clear c17
              replace H := Option.bind_eq_some_iff.mp H
              obtain ⟨t201, A180, H⟩ := H
              replace H : ((heat_Key.f t201).bind fun t202 => (if t202 = a1 then (some true) else ((dowserref03_Not.f t201).bind fun t203 => (if t203 = true then ((math_Inf.f 1).bind fun t204 => ((dowserref03_Key.f t204).bind fun t205 => (some (decide (a1 > t205))))) else (none))))) = some r := H
              have A18 := Aside0.mk A180
              clear A180
              replace H := Option.bind_eq_some_iff.mp H
              obtain ⟨t202, A190, H⟩ := H
              replace H : (if t202 = a1 then (some true) else ((dowserref03_Not.f t201).bind fun t203 => (if t203 = true then ((math_Inf.f 1).bind fun t204 => ((dowserref03_Key.f t204).bind fun t205 => (some (decide (a1 > t205))))) else (none)))) = some r := H
              have A19 := Aside0.mk A190
              clear A190
              by_cases c20 : t202 = a1
              · rw [if_pos c20] at H
                have c20b0 : (t202 == a1) = true := beq_iff_eq.mpr c20
                have c20b1 : (t202 != a1) = false := bne_eq_false_iff_eq.mpr c20
                clear c20
                obtain rfl := Option.some.inj H
                have hxt10 : ∀ (b_ : Int) (w_ : World), (callFunc 10 #[.int .u64 b_]).run Try.prog w_ = .ok (.value (.float .f64 b_.toNat)) w_ := fun b_ w_ => by rw [run_callFunc_extern (fn := Try.f10) (e := Extern.MathFloatBits.float64frombits) (by kernel_rfl) (by rfl) (by rfl) (by kernel_rfl) (by kernel_rfl)]; rfl
                have hxt20 : ∀ (b_ : Nat) (w_ : World), (callFunc 20 #[.float .f64 b_]).run Try.prog w_ = .ok (.value (.int .u64 (b_ : Int))) w_ := fun b_ w_ => by rw [run_callFunc_extern (fn := Try.f20) (e := Extern.MathFloatBits.float64bits) (by kernel_rfl) (by rfl) (by rfl) (by kernel_rfl) (by kernel_rfl)]; rfl
                go_enter Try.func7, Try.ntmps7
                go_wp2_with (first | ((with_reducible refine gate_callee (f := 9) rfl ?_); refine goesL_ (some 7) rfl rfl Try.func9 (by kernel_rfl) rfl #[] rfl (by (try simp only [List.map_toArray, List.map_cons, List.map_nil]); first | done | rfl | (simp only [List.length_drop, List.length_take]; rfl)) ?_; (with_reducible refine (dowserlaw03_awake.calls  true _ A3.out).mono ?_); rintro e w21 ⟨rfl, hb⟩; refine ⟨_, rfl, ?_⟩; have n0_ := Aside0.mk (below_step (by repeat (first | (with_reducible first | exact HB.out | apply below_alloc | apply pw_below_drewN | apply below_drew1) | exact HB.out)) hb); clear HB; have HB := n0_; clear n0_; (try clear hb); (try clear hb2); (try clear hk); (try clear hi)) | ((with_reducible refine gate_callee (f := 22) rfl ?_); refine goesL_ (some 12) rfl rfl Try.func22 (by kernel_rfl) rfl #[.float .f64 a0.toNat] rfl (by (try simp only [List.map_toArray, List.map_cons, List.map_nil]); first | done | rfl | (simp only [List.length_drop, List.length_take]; rfl)) ?_; (with_reducible refine (heat_Bits.calls a0.toNat t188 _ A5.out).mono ?_); rintro e w' ⟨rfl, ⟨nd, rfl⟩⟩; refine ⟨_, rfl, ?_⟩) | ((with_reducible refine gate_callee (f := 13) rfl ?_); refine goesL_ (some 14) rfl rfl Try.func13 (by kernel_rfl) rfl #[.float .f64 a0.toNat] rfl (by (try simp only [List.map_toArray, List.map_cons, List.map_nil]); first | done | rfl | (simp only [List.length_drop, List.length_take]; rfl)) ?_; (with_reducible refine (dowserref03_Bits.calls a0.toNat t189 _ A6.out).mono ?_); rintro e w' ⟨rfl, ⟨nd, rfl⟩⟩; refine ⟨_, rfl, ?_⟩) | (go_at_call 23; (with_reducible refine (heat_Canon.calls a0.toNat t190 _ A8.out).mono ?_); rintro e w' ⟨rfl, ⟨nd, rfl⟩⟩) | (go_at_call 13; (with_reducible refine (dowserref03_Bits.calls a0.toNat t189 _ A6.out).mono ?_); rintro e w' ⟨rfl, ⟨nd, rfl⟩⟩) | (go_at_call 24; (with_reducible refine (heat_Of.calls a0 t191 _ A10.out).mono ?_); rintro e w' ⟨rfl, ⟨nd, rfl⟩⟩) | (go_at_call 13; (with_reducible refine (dowserref03_Bits.calls a0.toNat t189 _ A6.out).mono ?_); rintro e w' ⟨rfl, ⟨nd, rfl⟩⟩) | (go_at_call 17; (with_reducible refine (heat_Key.calls a0.toNat t192 _ A12.out).mono ?_); rintro e w' ⟨rfl, ⟨nd, rfl⟩⟩) | (go_at_call 25; (with_reducible refine (dowserref03_Key.calls a0.toNat t193 _ A13.out).mono ?_); rintro e w' ⟨rfl, ⟨nd, rfl⟩⟩) | (go_at_call 17; (with_reducible refine (heat_Key.calls a0.toNat t192 _ A12.out).mono ?_); rintro e w' ⟨rfl, ⟨nd, rfl⟩⟩) | (go_at_call 26; (with_reducible refine (heat_From.calls k t192 t194 _ A15.out).mono ?_); rintro e w' ⟨rfl, ⟨nd, rfl⟩⟩) | (go_at_call 22; (with_reducible refine (heat_Bits.calls t194 t195 _ A16.out).mono ?_); rintro e w' ⟨rfl, ⟨nd, rfl⟩⟩) | (go_at_call 13; (with_reducible refine (dowserref03_Bits.calls a0.toNat t189 _ A6.out).mono ?_); rintro e w' ⟨rfl, ⟨nd, rfl⟩⟩) | ((with_reducible refine gate_callee (f := 26) rfl ?_); refine goesL_ (some 49) rfl rfl Try.func26 (by kernel_rfl) rfl #[.int .u64 a1] rfl (by (try simp only [List.map_toArray, List.map_cons, List.map_nil]); first | done | rfl | (simp only [List.length_drop, List.length_take]; rfl)) ?_; (with_reducible refine (heat_From.calls k a1 t201 _ A18.out).mono ?_); rintro e w' ⟨rfl, ⟨nd, rfl⟩⟩; refine ⟨_, rfl, ?_⟩) | ((with_reducible refine gate_callee (f := 17) rfl ?_); refine goesL_ (some 51) rfl rfl Try.func17 (by kernel_rfl) rfl #[.float .f64 t201] rfl (by (try simp only [List.map_toArray, List.map_cons, List.map_nil]); first | done | rfl | (simp only [List.length_drop, List.length_take]; rfl)) ?_; (with_reducible refine (heat_Key.calls t201 t202 _ A19.out).mono ?_); rintro e w' ⟨rfl, ⟨nd, rfl⟩⟩; refine ⟨_, rfl, ?_⟩))
                go_ret
                exact ⟨by first | rfl | (simp [errW_none, errW_some] <;> rfl) | (simp [*, errW_none, errW_some] <;> rfl), by repeat (first | (with_reducible first | exact HB.out | apply below_alloc | apply pw_below_drewN | apply below_drew1) | exact HB.out)⟩
              · rw [if_neg c20] at H
                have c20b0 : (t202 == a1) = false := beq_eq_false_iff_ne.mpr c20
                have c20b1 : (t202 != a1) = true := bne_iff_ne.mpr c20
                replace H := Option.bind_eq_some_iff.mp H
                obtain ⟨t203, A220, H⟩ := H
                replace H : (if t203 = true then ((math_Inf.f 1).bind fun t204 => ((dowserref03_Key.f t204).bind fun t205 => (some (decide (a1 > t205))))) else (none)) = some r := H
                have A22 := Aside0.mk A220
                clear A220
                by_cases c23 : t203 = true
                · subst c23
                  have H1 : ((math_Inf.f 1).bind fun t204 => ((dowserref03_Key.f t204).bind fun t205 => (some (decide (a1 > t205))))) = some r := by rw [if_pos rfl] at H; exact H
                  clear H
                  have H := H1
                  clear H1
                  replace H := Option.bind_eq_some_iff.mp H
                  obtain ⟨t204, A240, H⟩ := H
                  replace H : ((dowserref03_Key.f t204).bind fun t205 => (some (decide (a1 > t205)))) = some r := H
                  have A24 := Aside0.mk A240
                  clear A240
                  replace H := Option.bind_eq_some_iff.mp H
                  obtain ⟨t205, A250, H⟩ := H
                  replace H : (some (decide (a1 > t205))) = some r := H
                  have A25 := Aside0.mk A250
                  clear A250
                  obtain rfl := Option.some.inj H
                  have hxt10 : ∀ (b_ : Int) (w_ : World), (callFunc 10 #[.int .u64 b_]).run Try.prog w_ = .ok (.value (.float .f64 b_.toNat)) w_ := fun b_ w_ => by rw [run_callFunc_extern (fn := Try.f10) (e := Extern.MathFloatBits.float64frombits) (by kernel_rfl) (by rfl) (by rfl) (by kernel_rfl) (by kernel_rfl)]; rfl
                  have hxt20 : ∀ (b_ : Nat) (w_ : World), (callFunc 20 #[.float .f64 b_]).run Try.prog w_ = .ok (.value (.int .u64 (b_ : Int))) w_ := fun b_ w_ => by rw [run_callFunc_extern (fn := Try.f20) (e := Extern.MathFloatBits.float64bits) (by kernel_rfl) (by rfl) (by rfl) (by kernel_rfl) (by kernel_rfl)]; rfl
                  go_enter Try.func7, Try.ntmps7
                  go_wp2_with (first | ((with_reducible refine gate_callee (f := 9) rfl ?_); refine goesL_ (some 7) rfl rfl Try.func9 (by kernel_rfl) rfl #[] rfl (by (try simp only [List.map_toArray, List.map_cons, List.map_nil]); first | done | rfl | (simp only [List.length_drop, List.length_take]; rfl)) ?_; (with_reducible refine (dowserlaw03_awake.calls  true _ A3.out).mono ?_); rintro e w26 ⟨rfl, hb⟩; refine ⟨_, rfl, ?_⟩; have n0_ := Aside0.mk (below_step (by repeat (first | (with_reducible first | exact HB.out | apply below_alloc | apply pw_below_drewN | apply below_drew1) | exact HB.out)) hb); clear HB; have HB := n0_; clear n0_; (try clear hb); (try clear hb2); (try clear hk); (try clear hi)) | ((with_reducible refine gate_callee (f := 22) rfl ?_); refine goesL_ (some 12) rfl rfl Try.func22 (by kernel_rfl) rfl #[.float .f64 a0.toNat] rfl (by (try simp only [List.map_toArray, List.map_cons, List.map_nil]); first | done | rfl | (simp only [List.length_drop, List.length_take]; rfl)) ?_; (with_reducible refine (heat_Bits.calls a0.toNat t188 _ A5.out).mono ?_); rintro e w' ⟨rfl, ⟨nd, rfl⟩⟩; refine ⟨_, rfl, ?_⟩) | ((with_reducible refine gate_callee (f := 13) rfl ?_); refine goesL_ (some 14) rfl rfl Try.func13 (by kernel_rfl) rfl #[.float .f64 a0.toNat] rfl (by (try simp only [List.map_toArray, List.map_cons, List.map_nil]); first | done | rfl | (simp only [List.length_drop, List.length_take]; rfl)) ?_; (with_reducible refine (dowserref03_Bits.calls a0.toNat t189 _ A6.out).mono ?_); rintro e w' ⟨rfl, ⟨nd, rfl⟩⟩; refine ⟨_, rfl, ?_⟩) | (go_at_call 23; (with_reducible refine (heat_Canon.calls a0.toNat t190 _ A8.out).mono ?_); rintro e w' ⟨rfl, ⟨nd, rfl⟩⟩) | (go_at_call 13; (with_reducible refine (dowserref03_Bits.calls a0.toNat t189 _ A6.out).mono ?_); rintro e w' ⟨rfl, ⟨nd, rfl⟩⟩) | (go_at_call 24; (with_reducible refine (heat_Of.calls a0 t191 _ A10.out).mono ?_); rintro e w' ⟨rfl, ⟨nd, rfl⟩⟩) | (go_at_call 13; (with_reducible refine (dowserref03_Bits.calls a0.toNat t189 _ A6.out).mono ?_); rintro e w' ⟨rfl, ⟨nd, rfl⟩⟩) | (go_at_call 17; (with_reducible refine (heat_Key.calls a0.toNat t192 _ A12.out).mono ?_); rintro e w' ⟨rfl, ⟨nd, rfl⟩⟩) | (go_at_call 25; (with_reducible refine (dowserref03_Key.calls a0.toNat t193 _ A13.out).mono ?_); rintro e w' ⟨rfl, ⟨nd, rfl⟩⟩) | (go_at_call 17; (with_reducible refine (heat_Key.calls a0.toNat t192 _ A12.out).mono ?_); rintro e w' ⟨rfl, ⟨nd, rfl⟩⟩) | (go_at_call 26; (with_reducible refine (heat_From.calls k t192 t194 _ A15.out).mono ?_); rintro e w' ⟨rfl, ⟨nd, rfl⟩⟩) | (go_at_call 22; (with_reducible refine (heat_Bits.calls t194 t195 _ A16.out).mono ?_); rintro e w' ⟨rfl, ⟨nd, rfl⟩⟩) | (go_at_call 13; (with_reducible refine (dowserref03_Bits.calls a0.toNat t189 _ A6.out).mono ?_); rintro e w' ⟨rfl, ⟨nd, rfl⟩⟩) | ((with_reducible refine gate_callee (f := 26) rfl ?_); refine goesL_ (some 49) rfl rfl Try.func26 (by kernel_rfl) rfl #[.int .u64 a1] rfl (by (try simp only [List.map_toArray, List.map_cons, List.map_nil]); first | done | rfl | (simp only [List.length_drop, List.length_take]; rfl)) ?_; (with_reducible refine (heat_From.calls k a1 t201 _ A18.out).mono ?_); rintro e w' ⟨rfl, ⟨nd, rfl⟩⟩; refine ⟨_, rfl, ?_⟩) | ((with_reducible refine gate_callee (f := 17) rfl ?_); refine goesL_ (some 51) rfl rfl Try.func17 (by kernel_rfl) rfl #[.float .f64 t201] rfl (by (try simp only [List.map_toArray, List.map_cons, List.map_nil]); first | done | rfl | (simp only [List.length_drop, List.length_take]; rfl)) ?_; (with_reducible refine (heat_Key.calls t201 t202 _ A19.out).mono ?_); rintro e w' ⟨rfl, ⟨nd, rfl⟩⟩; refine ⟨_, rfl, ?_⟩) | (go_at_call 27; (with_reducible refine (dowserref03_Not.calls t201 true _ A22.out).mono ?_); rintro e w' ⟨rfl, ⟨nd, rfl⟩⟩) | (go_at_call 18; (with_reducible refine (math_Inf.calls 1 t204 _ A24.out).mono ?_); rintro e w' ⟨rfl, ⟨nd, rfl⟩⟩) | (go_at_call 25; (with_reducible refine (dowserref03_Key.calls t204 t205 _ A25.out).mono ?_); rintro e w' ⟨rfl, ⟨nd, rfl⟩⟩))
                  go_ret
                  exact ⟨by first | rfl | (simp [errW_none, errW_some] <;> rfl) | (simp [*, errW_none, errW_some] <;> rfl), by repeat (first | (with_reducible first | exact HB.out | apply below_alloc | apply pw_below_drewN | apply below_drew1) | exact HB.out)⟩
                · replace c23 := Bool.eq_false_iff.mpr c23
                  subst c23
                  have H1 : (none) = some r := by rw [if_neg (show ¬ (false = true) by decide)] at H; exact H
                  clear H
                  have H := H1
                  clear H1
                  exact absurd H (by simp)
            · rw [if_neg c17] at H
              exact absurd H (by simp)
          · rw [if_neg c14] at H
            exact absurd H (by simp)
        · rw [if_neg c11] at H
          exact absurd H (by simp)
      · rw [if_neg c9] at H
        exact absurd H (by simp)
    · rw [if_neg c7] at H
      exact absurd H (by simp)
  · replace c4 := Bool.eq_false_iff.mpr c4
    subst c4
    have H1 : (none) = some r := by rw [if_neg (show ¬ (false = true) by decide)] at H; exact H
    clear H
    have H := H1
    clear H1
    exact absurd H (by simp)

/-- THE ONE PURE STATEMENT of dowserlaw03_HeatKeys: yours. -/
def dowserlaw03_HeatKeys.Pure : Prop := ∀ (a0 : Int) (a1 : Int), (Lit.int .u64 a0).wf = true → (Lit.int .u64 a1).wf = true → ∃ k, dowserlaw03_HeatKeys.f k a0 a1 = some true
theorem dowserlaw03_HeatKeys.walk (P : dowserlaw03_HeatKeys.Pure) (a0 : Int) (a1 : Int) (w : World) (w0 : (Lit.int .u64 a0).wf = true) (w1 : (Lit.int .u64 a1).wf = true) :
    Calls Try.prog 7 #[.int .u64 a0, .int .u64 a1] w fun e w' => e = .returned (.bool true) ∧ Below w.heap.size w w' := by
  obtain ⟨k, h⟩ := P a0 a1 w0 w1
  refine (dowserlaw03_HeatKeys.calls k a0 a1 true w h).mono ?_
  rintro e w' ⟨rfl, hd⟩
  exact ⟨rfl, hd⟩

/-! ### math_Copysign: function 29 -/
def math_Copysign.f (a0 : Nat) (a1 : Nat) : Option (Nat) := some ((Go.bits .or .u64 (Go.bits .andNot .u64 (a0 : Int) 9223372036854775808) (Go.bits .and .u64 (a1 : Int) 9223372036854775808)).toNat)
set_option maxHeartbeats 40000000 in
set_option maxRecDepth 100000 in
theorem math_Copysign.calls (a0 : Nat) (a1 : Nat) (r : Nat) (w : World) (h : math_Copysign.f a0 a1 = some r) :
    Calls Try.prog 29 #[.float .f64 a0, .float .f64 a1] w fun e w' => e = .returned (.float .f64 r) ∧ Drawn0 w w' := by
  have H : (some ((Go.bits .or .u64 (Go.bits .andNot .u64 (a0 : Int) 9223372036854775808) (Go.bits .and .u64 (a1 : Int) 9223372036854775808)).toNat)) = some r := h
  clear h
  obtain rfl := Option.some.inj H
  have hxt10 : ∀ (b_ : Int) (w_ : World), (callFunc 10 #[.int .u64 b_]).run Try.prog w_ = .ok (.value (.float .f64 b_.toNat)) w_ := fun b_ w_ => by rw [run_callFunc_extern (fn := Try.f10) (e := Extern.MathFloatBits.float64frombits) (by kernel_rfl) (by rfl) (by rfl) (by kernel_rfl) (by kernel_rfl)]; rfl
  have hxt20 : ∀ (b_ : Nat) (w_ : World), (callFunc 20 #[.float .f64 b_]).run Try.prog w_ = .ok (.value (.int .u64 (b_ : Int))) w_ := fun b_ w_ => by rw [run_callFunc_extern (fn := Try.f20) (e := Extern.MathFloatBits.float64bits) (by kernel_rfl) (by rfl) (by rfl) (by kernel_rfl) (by kernel_rfl)]; rfl
  go_enter Try.func29, Try.ntmps29
  go_wp2
  go_ret
  exact ⟨by first | rfl | (simp; done) | (simp [*]; done) | (simp; rw [Bool.eq_iff_iff]; simp; done), by repeat (first | exact Drawn0.refl _ | apply Drawn0.step)⟩

end Go.Proofs.Ytiikmomjggcdfaa.PA

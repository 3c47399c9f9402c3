-- Written by this session's own program wip/bin/dprint.py, over the kit's print.py, with own texts for some functions: no print of print.sh's
import Derived.Test.YtiikmomjggcdfaaPAx0
import Derived.Test.YtiikmomjggcdfaaPAx1
import Derived.Test.YtiikmomjggcdfaaPAx3
namespace Go.Proofs.Ytiikmomjggcdfaa.PA
open Go.RowKit Go.Proofs.YtiikmomjggcdfaaW.PrintWords Go.Proofs.YtiikmomjggcdfaaW.PrintLast Go.Proofs.YtiikmomjggcdfaaW.PrintMore
attribute [local go_sem] max2_int min2_int max_two min_two max_three min_three max_four min_four   -- for this text's walks alone
set_option linter.unusedVariables false
set_option linter.unusedSimpArgs false

-- NOT PRINTED: function 10 (math_Float64frombits)

/-! ### math_Inf: function 18 -/
def math_Inf.f (a0 : Int) : Option (Nat) := if a0 ≥ 0 then (some ((9218868437227405312 : Int).toNat)) else (some ((18442240474082181120 : Int).toNat))
set_option maxHeartbeats 40000000 in
set_option maxRecDepth 100000 in
theorem math_Inf.calls (a0 : Int) (r : Nat) (w : World) (h : math_Inf.f a0 = some r) :
    Calls Try.prog 18 #[.int .i64 a0] w fun e w' => e = .returned (.float .f64 r) ∧ Drawn0 w w' := by
  have H : (if a0 ≥ 0 then (some ((9218868437227405312 : Int).toNat)) else (some ((18442240474082181120 : Int).toNat))) = some r := h
  clear h
  by_cases c2 : a0 ≥ 0
  · rw [if_pos c2] at H
    have c2b0 : decide (0 ≤ a0) = true := decide_eq_true c2
    clear c2
    obtain rfl := Option.some.inj H
    have hxt10 : ∀ (b_ : Int) (w_ : World), (callFunc 10 #[.int .u64 b_]).run Try.prog w_ = .ok (.value (.float .f64 b_.toNat)) w_ := fun b_ w_ => by rw [run_callFunc_extern (fn := Try.f10) (e := Extern.MathFloatBits.float64frombits) (by kernel_rfl) (by rfl) (by rfl) (by kernel_rfl) (by kernel_rfl)]; rfl
    go_enter Try.func18, Try.ntmps18
    go_wp2
    go_ret
    exact ⟨by first | rfl | (simp; done) | (simp [*]; done) | (simp; rw [Bool.eq_iff_iff]; simp; done), by repeat (first | exact Drawn0.refl _ | apply Drawn0.step)⟩
  · rw [if_neg c2] at H
    have c2b0 : decide (0 ≤ a0) = false := decide_eq_false c2
    clear c2
    obtain rfl := Option.some.inj H
    have hxt10 : ∀ (b_ : Int) (w_ : World), (callFunc 10 #[.int .u64 b_]).run Try.prog w_ = .ok (.value (.float .f64 b_.toNat)) w_ := fun b_ w_ => by rw [run_callFunc_extern (fn := Try.f10) (e := Extern.MathFloatBits.float64frombits) (by kernel_rfl) (by rfl) (by rfl) (by kernel_rfl) (by kernel_rfl)]; rfl
    go_enter Try.func18, Try.ntmps18
    go_wp2
    go_ret
    exact ⟨by first | rfl | (simp; done) | (simp [*]; done) | (simp; rw [Bool.eq_iff_iff]; simp; done), by repeat (first | exact Drawn0.refl _ | apply Drawn0.step)⟩

/-! ### math_NaN: function 30 -/
def math_NaN.f  : Option (Nat) := some ((9221120237041090561 : Int).toNat)
set_option maxHeartbeats 40000000 in
set_option maxRecDepth 100000 in
theorem math_NaN.calls  (r : Nat) (w : World) (h : math_NaN.f  = some r) :
    Calls Try.prog 30 #[] w fun e w' => e = .returned (.float .f64 r) ∧ Drawn0 w w' := by
  have H : (some ((9221120237041090561 : Int).toNat)) = some r := h
  clear h
  obtain rfl := Option.some.inj H
  have hxt10 : ∀ (b_ : Int) (w_ : World), (callFunc 10 #[.int .u64 b_]).run Try.prog w_ = .ok (.value (.float .f64 b_.toNat)) w_ := fun b_ w_ => by rw [run_callFunc_extern (fn := Try.f10) (e := Extern.MathFloatBits.float64frombits) (by kernel_rfl) (by rfl) (by rfl) (by kernel_rfl) (by kernel_rfl)]; rfl
  go_enter Try.func30, Try.ntmps30
  go_wp2
  go_ret
  exact ⟨by first | rfl | (simp; done) | (simp [*]; done) | (simp; rw [Bool.eq_iff_iff]; simp; done), by repeat (first | exact Drawn0.refl _ | apply Drawn0.step)⟩

/-! ### dowserlaw03_awake: function 9 -/
def dowserlaw03_awake.f  : Option (Bool) := (math_NaN.f).bind fun t107 => ((math_Inf.f 1).bind fun t108 => ((heat_Rank.f (([4607182418800017408, t107, t108, 4607182418800017408] : List Nat))).bind fun t112 => (if (t112.length : Int) = 4 then (if 0 < (t112.length : Int) then (if (rd t112 0) = 2 then (if 1 < (t112.length : Int) then (if (rd t112 1) = 0 then (if 2 < (t112.length : Int) then (if (rd t112 2) = 3 then (if 3 < (t112.length : Int) then (if (rd t112 3) = 1 then ((math_Inf.f (-1)).bind fun t119 => ((heat_Key.f t119).bind fun t120 => (some (t120 == 1)))) else (none)) else (none)) else (none)) else (none)) else (none)) else (none)) else (none)) else (none)) else (none))))
set_option maxHeartbeats 40000000 in
set_option maxRecDepth 100000 in
theorem dowserlaw03_awake.calls  (r : Bool) (w : World) (h : dowserlaw03_awake.f  = some r) :
    Calls Try.prog 9 #[] w fun e w' => e = .returned (.bool r) ∧ Below w.heap.size w w' := by
  have HB := Aside0.mk (Below.refl w.heap.size w)
  have H : ((math_NaN.f).bind fun t107 => ((math_Inf.f 1).bind fun t108 => ((heat_Rank.f (([4607182418800017408, t107, t108, 4607182418800017408] : List Nat))).bind fun t112 => (if (t112.length : Int) = 4 then (if 0 < (t112.length : Int) then (if (rd t112 0) = 2 then (if 1 < (t112.length : Int) then (if (rd t112 1) = 0 then (if 2 < (t112.length : Int) then (if (rd t112 2) = 3 then (if 3 < (t112.length : Int) then (if (rd t112 3) = 1 then ((math_Inf.f (-1)).bind fun t119 => ((heat_Key.f t119).bind fun t120 => (some (t120 == 1)))) else (none)) else (none)) else (none)) else (none)) else (none)) else (none)) else (none)) else (none)) else (none))))) = some r := h
  clear h
  replace H := Option.bind_eq_some_iff.mp H
  obtain ⟨t107, A10, H⟩ := H
  replace H : ((math_Inf.f 1).bind fun t108 => ((heat_Rank.f (([4607182418800017408, t107, t108, 4607182418800017408] : List Nat))).bind fun t112 => (if (t112.length : Int) = 4 then (if 0 < (t112.length : Int) then (if (rd t112 0) = 2 then (if 1 < (t112.length : Int) then (if (rd t112 1) = 0 then (if 2 < (t112.length : Int) then (if (rd t112 2) = 3 then (if 3 < (t112.length : Int) then (if (rd t112 3) = 1 then ((math_Inf.f (-1)).bind fun t119 => ((heat_Key.f t119).bind fun t120 => (some (t120 == 1)))) else (none)) else (none)) else (none)) else (none)) else (none)) else (none)) else (none)) else (none)) else (none)))) = some r := H
  have A1 := Aside0.mk A10
  clear A10
  replace H := Option.bind_eq_some_iff.mp H
  obtain ⟨t108, A20, H⟩ := H
  replace H : ((heat_Rank.f (([4607182418800017408, t107, t108, 4607182418800017408] : List Nat))).bind fun t112 => (if (t112.length : Int) = 4 then (if 0 < (t112.length : Int) then (if (rd t112 0) = 2 then (if 1 < (t112.length : Int) then (if (rd t112 1) = 0 then (if 2 < (t112.length : Int) then (if (rd t112 2) = 3 then (if 3 < (t112.length : Int) then (if (rd t112 3) = 1 then ((math_Inf.f (-1)).bind fun t119 => ((heat_Key.f t119).bind fun t120 => (some (t120 == 1)))) else (none)) else (none)) else (none)) else (none)) else (none)) else (none)) else (none)) else (none)) else (none))) = some r := H
  have A2 := Aside0.mk A20
  clear A20
  obtain ⟨y109, hy109⟩ : ∃ y_ : List Nat, y_ = (([4607182418800017408, t107, t108, 4607182418800017408] : List Nat)) := ⟨_, rfl⟩
  replace H : ((heat_Rank.f y109).bind fun t112 => (if (t112.length : Int) = 4 then (if 0 < (t112.length : Int) then (if (rd t112 0) = 2 then (if 1 < (t112.length : Int) then (if (rd t112 1) = 0 then (if 2 < (t112.length : Int) then (if (rd t112 2) = 3 then (if 3 < (t112.length : Int) then (if (rd t112 3) = 1 then ((math_Inf.f (-1)).bind fun t119 => ((heat_Key.f t119).bind fun t120 => (some (t120 == 1)))) else (none)) else (none)) else (none)) else (none)) else (none)) else (none)) else (none)) else (none)) else (none))) = some r := by first | (rw [hy109]; with_reducible exact H) | (have H2_ := (Option.bind_some _ _).symm.trans H; rw [hy109]; with_reducible exact H2_) | (have H2_ := (Option.bind_some _ _).symm.trans H; with_reducible exact H2_) | with_reducible exact H | (rw [hy109]; exact H) | exact H
  have Ny109 := Aside0.mk hy109
  clear hy109
  replace H := Option.bind_eq_some_iff.mp H
  obtain ⟨t112, A30, H⟩ := H
  replace H : (if (t112.length : Int) = 4 then (if 0 < (t112.length : Int) then (if (rd t112 0) = 2 then (if 1 < (t112.length : Int) then (if (rd t112 1) = 0 then (if 2 < (t112.length : Int) then (if (rd t112 2) = 3 then (if 3 < (t112.length : Int) then (if (rd t112 3) = 1 then ((math_Inf.f (-1)).bind fun t119 => ((heat_Key.f t119).bind fun t120 => (some (t120 == 1)))) else (none)) else (none)) else (none)) else (none)) else (none)) else (none)) else (none)) else (none)) else (none)) = some r := H
  have A3 := Aside0.mk A30
  clear A30
  by_cases c4 : (t112.length : Int) = 4
  · rw [if_pos c4] at H
    have c4b0 : ((t112.length : Int) == 4) = true := beq_iff_eq.mpr c4
    have c4b1 : ((t112.length : Int) != 4) = false := bne_eq_false_iff_eq.mpr c4
    clear c4
    by_cases c5 : 0 < (t112.length : Int)
    · rw [if_pos c5] at H
      have c5b0 : decide (0 < (t112.length : Int)) = true := decide_eq_true c5
      have c5b1 : decide (0 < t112.length) = true := decide_eq_true (by omega)
      clear c5
      by_cases c6 : (rd t112 0) = 2
      · rw [if_pos c6] at H
        have c6b0 : ((rd t112 0) == 2) = true := beq_iff_eq.mpr c6
        have c6b1 : ((rd t112 0) != 2) = false := bne_eq_false_iff_eq.mpr c6
        clear c6
        by_cases c7 : 1 < (t112.length : Int)
        · rw [if_pos c7] at H
          have c7b0 : decide (1 < (t112.length : Int)) = true := decide_eq_true c7
          have c7b1 : decide (1 < t112.length) = true := decide_eq_true (by omega)
          clear c7
          by_cases c8 : (rd t112 1) = 0
          · rw [if_pos c8] at H
            have c8b0 : ((rd t112 1) == 0) = true := beq_iff_eq.mpr c8
            have c8b1 : ((rd t112 1) != 0) = false := bne_eq_false_iff_eq.mpr c8
            clear c8
            by_cases c9 : 2 < (t112.length : Int)
            · rw [if_pos c9] at H
              have c9b0 : decide (2 < (t112.length : Int)) = true := decide_eq_true c9
              have c9b1 : decide (2 < t112.length) = true := decide_eq_true (by omega)
              clear c9
              by_cases c10 : (rd t112 2) = 3
              · rw [if_pos c10] at H
                have c10b0 : ((rd t112 2) == 3) = true := beq_iff_eq.mpr c10
                have c10b1 : ((rd t112 2) != 3) = false := bne_eq_false_iff_eq.mpr c10
                clear c10
                by_cases c11 : 3 < (t112.length : Int)
                · rw [if_pos c11] at H
                  have c11b0 : decide (3 < (t112.length : Int)) = true := decide_eq_true c11
                  have c11b1 : decide (3 < t112.length) = true := decide_eq_true (by omega)
                  clear c11
                  by_cases c12 : (rd t112 3) = 1
                  · rw [if_pos c12] at H
                    have c12b0 : ((rd t112 3) == 1) = true := beq_iff_eq.mpr c12
                    have c12b1 : ((rd t112 3) != 1) = false := bne_eq_false_iff_eq.mpr c12
                    clear c12
                    replace H := Option.bind_eq_some_iff.mp H
                    obtain ⟨t119, A130, H⟩ := H
                    replace H : ((heat_Key.f t119).bind fun t120 => (some (t120 == 1))) = some r := H
                    have A13 := Aside0.mk A130
                    clear A130
                    replace H := Option.bind_eq_some_iff.mp H
                    obtain ⟨t120, A140, H⟩ := H
                    replace H : (some (t120 == 1)) = some r := H
                    have A14 := Aside0.mk A140
                    clear A140
                    obtain rfl := Option.some.inj H
                    go_enter Try.func9, Try.ntmps9
                    go_wp2_with (first | ((with_reducible refine gate_callee (f := 30) rfl ?_); refine goesL_ (some 2) rfl rfl Try.func30 (by kernel_rfl) rfl #[] rfl (by (try simp only [List.map_toArray, List.map_cons, List.map_nil]); first | done | rfl | (simp only [List.length_drop, List.length_take]; rfl)) ?_; (with_reducible refine (math_NaN.calls  t107 _ A1.out).mono ?_); rintro e w' ⟨rfl, ⟨nd, rfl⟩⟩; refine ⟨_, rfl, ?_⟩) | ((with_reducible refine gate_callee (f := 18) rfl ?_); refine goesL_ (some 3) rfl rfl Try.func18 (by kernel_rfl) rfl #[.int .i64 1] rfl (by (try simp only [List.map_toArray, List.map_cons, List.map_nil]); first | done | rfl | (simp only [List.length_drop, List.length_take]; rfl)) ?_; (with_reducible refine (math_Inf.calls 1 t108 _ A2.out).mono ?_); rintro e w' ⟨rfl, ⟨nd, rfl⟩⟩; refine ⟨_, rfl, ?_⟩) | ((with_reducible refine gate_dst (N := 4) rfl ?_); refine Kd.R_lit kFloat _ 24 ?hg (N := 4) ?hd (xs := ([4607182418800017408, t107, t108, 4607182418800017408] : List Nat)) (inner := [.float .f64 4607182418800017408, .float .f64 t107, .float .f64 t108, .float .f64 4607182418800017408]) (ok := fun _ => True) (okp := fun _ => True) ?hr ?hp (fun _ hk => hk) trivial (Below.refl _ _) (Nat.le_refl _) (by simp) ?_; (case hd => rfl); (case hg => rfl); (case hr => first | (go_simp; done) | (go_simp; rfl)); (case hp => exact (Reps.one (show Kd.M kFloat _ _ _ 4607182418800017408 [.float .f64 4607182418800017408] from rfl) (Reps.one (show Kd.M kFloat _ _ _ t107 [.float .f64 t107] from rfl) (Reps.one (show Kd.M kFloat _ _ _ t108 [.float .f64 t108] from rfl) (Reps.one (show Kd.M kFloat _ _ _ 4607182418800017408 [.float .f64 4607182418800017408] from rfl) (Reps.none _ _)))))); intro v110 w15 ho16 hb hg_ hnew_; clear hg_ hnew_; (first | rw [← Ny109.out] at ho16 | (simp only [Int.reduceToNat] at ho16; rw [← Ny109.out] at ho16)); have n0_ := Aside0.mk (Kd.R_lower ho16 (below_size (by repeat (first | (with_reducible first | exact HB.out | apply below_alloc | apply pw_below_drewN | apply below_drew1) | exact HB.out)))); have n1_ := Aside0.mk (below_step (by repeat (first | (with_reducible first | exact HB.out | apply below_alloc | apply pw_below_drewN | apply below_drew1) | exact HB.out)) hb); clear HB; have HO111 := n0_; have HB := n1_; clear n0_ n1_; clear hb ho16; obtain ⟨Ao17, co17, eo17⟩ := Kd.R_slice HO111.out; subst eo17) | ((with_reducible refine gate_callee (f := 15) rfl ?_); refine goesL_ (some 5) rfl rfl Try.func15 (by kernel_rfl) rfl #[.slice Ao17 y109.length co17] rfl (by (try simp only [List.map_toArray, List.map_cons, List.map_nil]); first | done | rfl | (simp only [List.length_drop, List.length_take]; rfl)) ?_; (with_reducible refine (heat_Rank.calls _ _ y109 t112 _ ?side1 ?side2 A3.out).mono ?_); (case side1 => repeat (first | exact (Kd.R_reads' HO111.out).2.2 | (with_reducible refine Kd.C_alloc ?_ _) | (with_reducible refine Kd.C_drewN ?_ _) | (with_reducible refine Kd.C_drew ?_))); (case side2 => exact (Kd.R_reads' HO111.out).2.1); rintro e w18 ⟨v113, rfl, ho0, hb⟩; refine ⟨_, rfl, ?_⟩; have n0_ := Aside0.mk (Kd.R_below (by (with_reducible repeat (first | apply Kd.R_alloc | apply Kd.R_drewN | apply Kd.R_drew)); exact HO111.out) hb); have n1_ := Aside0.mk (Kd.R_lower ho0 (below_size (by repeat (first | (with_reducible first | exact HB.out | apply below_alloc | apply pw_below_drewN | apply below_drew1) | exact HB.out)))); have n2_ := Aside0.mk (below_step (by repeat (first | (with_reducible first | exact HB.out | apply below_alloc | apply pw_below_drewN | apply below_drew1) | exact HB.out)) hb); clear HO111; clear HB; have HO111 := n0_; have HO114 := n1_; have HB := n2_; clear n0_ n1_ n2_; (try clear hb); (try clear hb2); (try clear hk); (try clear hi); (try clear ho0); obtain ⟨Ao19, co19, eo19⟩ := Kd.R_slice HO114.out; subst eo19; have p115 : 0 ≤ (0 : Int) := (by omega); have q115 : 0 < (t112.length : Int) := of_decide_eq_true (by first | (with_reducible assumption) | assumption); obtain ⟨ad115, e115, hx115_0⟩ := Kd.at_int (Kd.R_reads' HO114.out).2.2 0 p115 q115; cases e115; have qi115 : (0 < t112.length) = True := eq_true (by omega); (try rw [show ((0 : Int)).toNat = 0 from rfl] at hx115_0); (try rw [Addr.add_zero'] at hx115_0); replace p115 := eq_true p115; replace q115 := eq_true q115; have p116 : 0 ≤ (1 : Int) := (by omega); have q116 : 1 < (t112.length : Int) := of_decide_eq_true (by first | (with_reducible assumption) | assumption); obtain ⟨ad116, e116, hx116_0⟩ := Kd.at_int (Kd.R_reads' HO114.out).2.2 1 p116 q116; obtain rfl : ad115 = ad116 := (by injection e116); (try simp only [show (1 : Int).toNat = 1 from rfl, Nat.reduceMul, Nat.reduceEqDiff, Go.Addr.add, ↓reduceIte] at hx116_0); have qi116 : (1 < t112.length) = True := eq_true (by omega); (try rw [show ((1 : Int)).toNat = 1 from rfl] at hx116_0); replace p116 := eq_true p116; replace q116 := eq_true q116; have p117 : 0 ≤ (2 : Int) := (by omega); have q117 : 2 < (t112.length : Int) := of_decide_eq_true (by first | (with_reducible assumption) | assumption); obtain ⟨ad117, e117, hx117_0⟩ := Kd.at_int (Kd.R_reads' HO114.out).2.2 2 p117 q117; obtain rfl : ad115 = ad117 := (by injection e117); (try simp only [show (2 : Int).toNat = 2 from rfl, Nat.reduceMul, Nat.reduceEqDiff, Go.Addr.add, ↓reduceIte] at hx117_0); have qi117 : (2 < t112.length) = True := eq_true (by omega); (try rw [show ((2 : Int)).toNat = 2 from rfl] at hx117_0); replace p117 := eq_true p117; replace q117 := eq_true q117; have p118 : 0 ≤ (3 : Int) := (by omega); have q118 : 3 < (t112.length : Int) := of_decide_eq_true (by first | (with_reducible assumption) | assumption); obtain ⟨ad118, e118, hx118_0⟩ := Kd.at_int (Kd.R_reads' HO114.out).2.2 3 p118 q118; obtain rfl : ad115 = ad118 := (by injection e118); (try simp only [show (3 : Int).toNat = 3 from rfl, Nat.reduceMul, Nat.reduceEqDiff, Go.Addr.add, ↓reduceIte] at hx118_0); have qi118 : (3 < t112.length) = True := eq_true (by omega); (try rw [show ((3 : Int)).toNat = 3 from rfl] at hx118_0); replace p118 := eq_true p118; replace q118 := eq_true q118) | (go_at_call 18; (with_reducible refine (math_Inf.calls (-1) t119 _ A13.out).mono ?_); rintro e w' ⟨rfl, ⟨nd, rfl⟩⟩) | (go_at_call 17; (with_reducible refine (heat_Key.calls t119 t120 _ A14.out).mono ?_); rintro e w' ⟨rfl, ⟨nd, rfl⟩⟩))
                    go_ret
                    exact ⟨by first | rfl | (simp [errW_none, errW_some] <;> rfl) | (simp [*, errW_none, errW_some] <;> rfl), by repeat (first | (with_reducible first | exact HB.out | apply below_alloc | apply pw_below_drewN | apply below_drew1) | exact HB.out)⟩
                  · rw [if_neg c12] at H
                    exact absurd H (by simp)
                · rw [if_neg c11] at H
                  exact absurd H (by simp)
              · rw [if_neg c10] at H
                exact absurd H (by simp)
            · rw [if_neg c9] at H
              exact absurd H (by simp)
          · rw [if_neg c8] at H
            exact absurd H (by simp)
        · rw [if_neg c7] at H
          exact absurd H (by simp)
      · rw [if_neg c6] at H
        exact absurd H (by simp)
    · rw [if_neg c5] at H
      exact absurd H (by simp)
  · rw [if_neg c4] at H
    exact absurd H (by simp)

/-! ### dowserref03_Not: function 27 -/
def dowserref03_Not.f (a0 : Nat) : Option (Bool) := if (Int.tmod (IntKind.u64.wrap ((a0 : Int) / 4503599627370496)) 2048) = 2047 then (some (decide (((a0 : Int) % 4503599627370496) > 0))) else (some false)
set_option maxHeartbeats 40000000 in
set_option maxRecDepth 100000 in
theorem dowserref03_Not.calls (a0 : Nat) (r : Bool) (w : World) (h : dowserref03_Not.f a0 = some r) :
    Calls Try.prog 27 #[.float .f64 a0] w fun e w' => e = .returned (.bool r) ∧ Drawn0 w w' := by
  have H : (if (Int.tmod (IntKind.u64.wrap ((a0 : Int) / 4503599627370496)) 2048) = 2047 then (some (decide (((a0 : Int) % 4503599627370496) > 0))) else (some false)) = some r := h
  clear h
  by_cases c2 : (Int.tmod (IntKind.u64.wrap ((a0 : Int) / 4503599627370496)) 2048) = 2047
  · rw [if_pos c2] at H
    have c2b0 : ((Int.tmod (IntKind.u64.wrap ((a0 : Int) / 4503599627370496)) 2048) == 2047) = true := beq_iff_eq.mpr c2
    have c2b1 : ((Int.tmod (IntKind.u64.wrap ((a0 : Int) / 4503599627370496)) 2048) != 2047) = false := bne_eq_false_iff_eq.mpr c2
    clear c2
    obtain rfl := Option.some.inj H
    have hxt20 : ∀ (b_ : Nat) (w_ : World), (callFunc 20 #[.float .f64 b_]).run Try.prog w_ = .ok (.value (.int .u64 (b_ : Int))) w_ := fun b_ w_ => by rw [run_callFunc_extern (fn := Try.f20) (e := Extern.MathFloatBits.float64bits) (by kernel_rfl) (by rfl) (by rfl) (by kernel_rfl) (by kernel_rfl)]; rfl
    go_enter Try.func27, Try.ntmps27
    go_wp2
    go_ret
    exact ⟨by first | rfl | (simp; done) | (simp [*]; done) | (simp; rw [Bool.eq_iff_iff]; simp; done), by repeat (first | exact Drawn0.refl _ | apply Drawn0.step)⟩
  · rw [if_neg c2] at H
    have c2b0 : ((Int.tmod (IntKind.u64.wrap ((a0 : Int) / 4503599627370496)) 2048) == 2047) = false := beq_eq_false_iff_ne.mpr c2
    have c2b1 : ((Int.tmod (IntKind.u64.wrap ((a0 : Int) / 4503599627370496)) 2048) != 2047) = true := bne_iff_ne.mpr c2
    obtain rfl := Option.some.inj H
    have hxt20 : ∀ (b_ : Nat) (w_ : World), (callFunc 20 #[.float .f64 b_]).run Try.prog w_ = .ok (.value (.int .u64 (b_ : Int))) w_ := fun b_ w_ => by rw [run_callFunc_extern (fn := Try.f20) (e := Extern.MathFloatBits.float64bits) (by kernel_rfl) (by rfl) (by rfl) (by kernel_rfl) (by kernel_rfl)]; rfl
    go_enter Try.func27, Try.ntmps27
    go_wp2
    go_ret
    exact ⟨by first | rfl | (simp; done) | (simp [*]; done) | (simp; rw [Bool.eq_iff_iff]; simp; done), by repeat (first | exact Drawn0.refl _ | apply Drawn0.step)⟩

/-! ### dowserref03_minus: function 40 -/
def dowserref03_minus.f (a0 : Nat) : Option (Bool) := some (decide ((a0 : Int) ≥ 9223372036854775808))
set_option maxHeartbeats 40000000 in
set_option maxRecDepth 100000 in
theorem dowserref03_minus.calls (a0 : Nat) (r : Bool) (w : World) (h : dowserref03_minus.f a0 = some r) :
    Calls Try.prog 40 #[.float .f64 a0] w fun e w' => e = .returned (.bool r) ∧ Drawn0 w w' := by
  have H : (some (decide ((a0 : Int) ≥ 9223372036854775808))) = some r := h
  clear h
  obtain rfl := Option.some.inj H
  have hxt20 : ∀ (b_ : Nat) (w_ : World), (callFunc 20 #[.float .f64 b_]).run Try.prog w_ = .ok (.value (.int .u64 (b_ : Int))) w_ := fun b_ w_ => by rw [run_callFunc_extern (fn := Try.f20) (e := Extern.MathFloatBits.float64bits) (by kernel_rfl) (by rfl) (by rfl) (by kernel_rfl) (by kernel_rfl)]; rfl
  go_enter Try.func40, Try.ntmps40
  go_wp2
  go_ret
  exact ⟨by first | rfl | (simp; done) | (simp [*]; done) | (simp; rw [Bool.eq_iff_iff]; simp; done), by repeat (first | exact Drawn0.refl _ | apply Drawn0.step)⟩

end Go.Proofs.Ytiikmomjggcdfaa.PA

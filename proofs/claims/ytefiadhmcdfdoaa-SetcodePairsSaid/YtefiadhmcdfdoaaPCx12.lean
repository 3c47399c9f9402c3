-- Written by this session's own program wip/bin/dprint.py, over the kit's print.py, with own texts for some functions: no print of print.sh's
import Derived.Test.YtefiadhmcdfdoaaPCx0
import Derived.Test.YtefiadhmcdfdoaaPCx4
import Derived.Test.YtefiadhmcdfdoaaPCx9
import Derived.Test.YtefiadhmcdfdoaaPCx10
import Derived.Test.YtefiadhmcdfdoaaPCx11
namespace Go.Proofs.Ytefiadhmcdfdoaa.PC
open Go.RowKit Go.Proofs.YtefiadhmcdfdoaaW.PrintWords Go.Proofs.YtefiadhmcdfdoaaW.PrintLast Go.Proofs.YtefiadhmcdfdoaaW.PrintMore
attribute [local go_sem] max2_int min2_int max_two min_two max_three min_three max_four min_four   -- for this text's walks alone
set_option linter.unusedVariables false
set_option linter.unusedSimpArgs false

/-! ### dowserlaw13_SetcodePairs: function 7 -/
def dowserlaw13_SetcodePairs.f (k : Nat) (l0 : List (S76)) : Option (Bool) := (dowserlaw13_awake.f k).bind fun t322 => (if t322 = true then (if (l0.length : Int) > 30 then (if 30 ≤ (l0.length : Int) then ((some (l0.take 30 : List (S76))).bind fun y323 => ((setcode_Pairs.f k y323).bind fun bt327 => ((dowserref13_Rise.f k y323).bind fun t329 => (if t329 = true then ((setcode_FromPairs.f k bt327.1).bind fun bt330 => (if bt327.2 = 0 then ((dowserref13_Pairs.f k y323).bind fun t334 => (if bt327.1.toList = t334.toList then (if bt330.2 = 0 then ((dowserlaw13_same.f k bt330.1 y323).bind fun t335 => (some t335)) else (none)) else (none))) else (none))) else (if bt327.2 = 1 then (some (bt327.1.toList == ([] : List UInt8))) else (none)))))) else (none)) else ((setcode_Pairs.f k l0).bind fun bt336 => ((dowserref13_Rise.f k l0).bind fun t338 => (if t338 = true then ((setcode_FromPairs.f k bt336.1).bind fun bt339 => (if bt336.2 = 0 then ((dowserref13_Pairs.f k l0).bind fun t343 => (if bt336.1.toList = t343.toList then (if bt339.2 = 0 then ((dowserlaw13_same.f k bt339.1 l0).bind fun t344 => (some t344)) else (none)) else (none))) else (none))) else (if bt336.2 = 1 then (some (bt336.1.toList == ([] : List UInt8))) else (none)))))) else (none))
theorem dowserlaw13_SetcodePairs.mono : ∀ a0 k, LeO (dowserlaw13_SetcodePairs.f k a0) (dowserlaw13_SetcodePairs.f (k + 1) a0) := by
  intro a0 k
  unfold dowserlaw13_SetcodePairs.f
  repeat' first
      | (with_reducible exact dowserlaw13_awake.mono _)
      | (with_reducible exact dowserlaw13_same.mono _ _ _)
      | (with_reducible exact dowserref13_Pairs.mono _ _)
      | (with_reducible exact dowserref13_Rise.mono _ _)
      | (with_reducible exact setcode_FromPairs.mono _ _)
      | (with_reducible exact setcode_Pairs.mono _ _)
      | (with_reducible exact LeO.refl _)
      | (with_reducible exact LeO.none _)
      | (with_reducible refine LeO.ite ?_ ?_)
      | (with_reducible refine LeO.bind ?_ (fun _ => ?_))
      | exact dowserlaw13_awake.mono _
      | exact dowserlaw13_same.mono _ _ _
      | exact dowserref13_Pairs.mono _ _
      | exact dowserref13_Rise.mono _ _
      | exact setcode_FromPairs.mono _ _
      | exact setcode_Pairs.mono _ _
      | exact LeO.none _
      | refine LeO.ite ?_ ?_
      | refine LeO.bind ?_ (fun _ => ?_)
set_option maxHeartbeats 40000000 in
set_option maxRecDepth 100000 in
theorem dowserlaw13_SetcodePairs.calls (k : Nat) (A0 : Option Addr) (c0 : Nat) (l0 : List (S76)) (r : Bool) (w : World) (hr0 : Kd.C k76 w A0 l0.length l0) (hc0 : l0.length ≤ c0) (h : dowserlaw13_SetcodePairs.f k l0 = some r) :
    Calls Try.prog 7 #[.slice A0 l0.length c0] w fun e w' => e = .returned (.bool r) ∧ Below w.heap.size w w' := by
  have HR0 := Aside0.mk hr0
  have HC0 := Aside0.mk hc0
  clear hr0 hc0
  have HB := Aside0.mk (Below.refl w.heap.size w)
  have H : ((dowserlaw13_awake.f k).bind fun t322 => (if t322 = true then (if (l0.length : Int) > 30 then (if 30 ≤ (l0.length : Int) then ((some (l0.take 30 : List (S76))).bind fun y323 => ((setcode_Pairs.f k y323).bind fun bt327 => ((dowserref13_Rise.f k y323).bind fun t329 => (if t329 = true then ((setcode_FromPairs.f k bt327.1).bind fun bt330 => (if bt327.2 = 0 then ((dowserref13_Pairs.f k y323).bind fun t334 => (if bt327.1.toList = t334.toList then (if bt330.2 = 0 then ((dowserlaw13_same.f k bt330.1 y323).bind fun t335 => (some t335)) else (none)) else (none))) else (none))) else (if bt327.2 = 1 then (some (bt327.1.toList == ([] : List UInt8))) else (none)))))) else (none)) else ((setcode_Pairs.f k l0).bind fun bt336 => ((dowserref13_Rise.f k l0).bind fun t338 => (if t338 = true then ((setcode_FromPairs.f k bt336.1).bind fun bt339 => (if bt336.2 = 0 then ((dowserref13_Pairs.f k l0).bind fun t343 => (if bt336.1.toList = t343.toList then (if bt339.2 = 0 then ((dowserlaw13_same.f k bt339.1 l0).bind fun t344 => (some t344)) else (none)) else (none))) else (none))) else (if bt336.2 = 1 then (some (bt336.1.toList == ([] : List UInt8))) else (none)))))) else (none))) = some r := h
  clear h
  replace H := Option.bind_eq_some_iff.mp H
  obtain ⟨t322, A20, H⟩ := H
  replace H : (if t322 = true then (if (l0.length : Int) > 30 then (if 30 ≤ (l0.length : Int) then ((some (l0.take 30 : List (S76))).bind fun y323 => ((setcode_Pairs.f k y323).bind fun bt327 => ((dowserref13_Rise.f k y323).bind fun t329 => (if t329 = true then ((setcode_FromPairs.f k bt327.1).bind fun bt330 => (if bt327.2 = 0 then ((dowserref13_Pairs.f k y323).bind fun t334 => (if bt327.1.toList = t334.toList then (if bt330.2 = 0 then ((dowserlaw13_same.f k bt330.1 y323).bind fun t335 => (some t335)) else (none)) else (none))) else (none))) else (if bt327.2 = 1 then (some (bt327.1.toList == ([] : List UInt8))) else (none)))))) else (none)) else ((setcode_Pairs.f k l0).bind fun bt336 => ((dowserref13_Rise.f k l0).bind fun t338 => (if t338 = true then ((setcode_FromPairs.f k bt336.1).bind fun bt339 => (if bt336.2 = 0 then ((dowserref13_Pairs.f k l0).bind fun t343 => (if bt336.1.toList = t343.toList then (if bt339.2 = 0 then ((dowserlaw13_same.f k bt339.1 l0).bind fun t344 => (some t344)) else (none)) else (none))) else (none))) else (if bt336.2 = 1 then (some (bt336.1.toList == ([] : List UInt8))) else (none)))))) else (none)) = some r := H
  have A2 := Aside0.mk A20
  clear A20
  by_cases c3 : t322 = true
  · subst c3
    have H1 : (if (l0.length : Int) > 30 then (if 30 ≤ (l0.length : Int) then ((some (l0.take 30 : List (S76))).bind fun y323 => ((setcode_Pairs.f k y323).bind fun bt327 => ((dowserref13_Rise.f k y323).bind fun t329 => (if t329 = true then ((setcode_FromPairs.f k bt327.1).bind fun bt330 => (if bt327.2 = 0 then ((dowserref13_Pairs.f k y323).bind fun t334 => (if bt327.1.toList = t334.toList then (if bt330.2 = 0 then ((dowserlaw13_same.f k bt330.1 y323).bind fun t335 => (some t335)) else (none)) else (none))) else (none))) else (if bt327.2 = 1 then (some (bt327.1.toList == ([] : List UInt8))) else (none)))))) else (none)) else ((setcode_Pairs.f k l0).bind fun bt336 => ((dowserref13_Rise.f k l0).bind fun t338 => (if t338 = true then ((setcode_FromPairs.f k bt336.1).bind fun bt339 => (if bt336.2 = 0 then ((dowserref13_Pairs.f k l0).bind fun t343 => (if bt336.1.toList = t343.toList then (if bt339.2 = 0 then ((dowserlaw13_same.f k bt339.1 l0).bind fun t344 => (some t344)) else (none)) else (none))) else (none))) else (if bt336.2 = 1 then (some (bt336.1.toList == ([] : List UInt8))) else (none)))))) = some r := by rw [if_pos rfl] at H; exact H
    clear H
    have H := H1
    clear H1
    by_cases c4 : (l0.length : Int) > 30
    · rw [if_pos c4] at H
      have c4b0 : decide (30 < (l0.length : Int)) = true := decide_eq_true c4
      have c4b1 : decide (30 < l0.length) = true := decide_eq_true (by omega)
      clear c4
      by_cases c5 : 30 ≤ (l0.length : Int)
      · rw [if_pos c5] at H
        have c5b0 := eq_true c5
        have c5b1 : decide (30 ≤ (l0.length : Int)) = true := decide_eq_true c5
        clear c5
        obtain ⟨y323, hy323⟩ : ∃ y_ : List (S76), y_ = (l0.take 30) := ⟨_, rfl⟩
        replace H : ((setcode_Pairs.f k y323).bind fun bt327 => ((dowserref13_Rise.f k y323).bind fun t329 => (if t329 = true then ((setcode_FromPairs.f k bt327.1).bind fun bt330 => (if bt327.2 = 0 then ((dowserref13_Pairs.f k y323).bind fun t334 => (if bt327.1.toList = t334.toList then (if bt330.2 = 0 then ((dowserlaw13_same.f k bt330.1 y323).bind fun t335 => (some t335)) else (none)) else (none))) else (none))) else (if bt327.2 = 1 then (some (bt327.1.toList == ([] : List UInt8))) else (none))))) = some r := by first | (rw [hy323]; with_reducible exact H) | (have H2_ := (Option.bind_some _ _).symm.trans H; rw [hy323]; with_reducible exact H2_) | (have H2_ := (Option.bind_some _ _).symm.trans H; with_reducible exact H2_) | with_reducible exact H | (rw [hy323]; exact H) | exact H
        have Ny323 := Aside0.mk hy323
        clear hy323
        replace H := Option.bind_eq_some_iff.mp H
        obtain ⟨⟨t327, t328⟩, A60, H⟩ := H
        replace H : ((dowserref13_Rise.f k y323).bind fun t329 => (if t329 = true then ((setcode_FromPairs.f k t327).bind fun bt330 => (if t328 = 0 then ((dowserref13_Pairs.f k y323).bind fun t334 => (if t327.toList = t334.toList then (if bt330.2 = 0 then ((dowserlaw13_same.f k bt330.1 y323).bind fun t335 => (some t335)) else (none)) else (none))) else (none))) else (if t328 = 1 then (some (t327.toList == ([] : List UInt8))) else (none)))) = some r := H
        have A6 := Aside0.mk A60
        clear A60
        replace H := Option.bind_eq_some_iff.mp H
        obtain ⟨t329, A70, H⟩ := H
        replace H : (if t329 = true then ((setcode_FromPairs.f k t327).bind fun bt330 => (if t328 = 0 then ((dowserref13_Pairs.f k y323).bind fun t334 => (if t327.toList = t334.toList then (if bt330.2 = 0 then ((dowserlaw13_same.f k bt330.1 y323).bind fun t335 => (some t335)) else (none)) else (none))) else (none))) else (if t328 = 1 then (some (t327.toList == ([] : List UInt8))) else (none))) = some r := H
        have A7 := Aside0.mk A70
        clear A70
        by_cases c8 : t329 = true
        · subst c8
          have H1 : ((setcode_FromPairs.f k t327).bind fun bt330 => (if t328 = 0 then ((dowserref13_Pairs.f k y323).bind fun t334 => (if t327.toList = t334.toList then (if bt330.2 = 0 then ((dowserlaw13_same.f k bt330.1 y323).bind fun t335 => (some t335)) else (none)) else (none))) else (none))) = some r := by rw [if_pos rfl] at H; exact H
          clear H
          have H := H1
          clear H1
          replace H := Option.bind_eq_some_iff.mp H
          obtain ⟨⟨t330, t331⟩, A90, H⟩ := H
          replace H : (if t328 = 0 then ((dowserref13_Pairs.f k y323).bind fun t334 => (if t327.toList = t334.toList then (if t331 = 0 then ((dowserlaw13_same.f k t330 y323).bind fun t335 => (some t335)) else (none)) else (none))) else (none)) = some r := H
          have A9 := Aside0.mk A90
          clear A90
          by_cases c10 : t328 = 0
          · rw [if_pos c10] at H
            have c10b0 : (t328 == 0) = true := beq_iff_eq.mpr c10
            have c10b1 : (t328 != 0) = false := bne_eq_false_iff_eq.mpr c10
            clear c10
            replace H := Option.bind_eq_some_iff.mp H
            obtain ⟨t334, A110, H⟩ := H
            replace H : (if t327.toList = t334.toList then (if t331 = 0 then ((dowserlaw13_same.f k t330 y323).bind fun t335 => (some t335)) else (none)) else (none)) = some r := H
            have A11 := Aside0.mk A110
            clear A110
            by_cases c12 : t327.toList = t334.toList
            · rw [if_pos c12] at H
              have c12b0 : (t327.toList == t334.toList) = true := beq_iff_eq.mpr c12
              have c12b1 : (t327.toList != t334.toList) = false := bne_eq_false_iff_eq.mpr c12
              clear c12
              by_cases c13 : t331 = 0
              · rw [if_pos c13] at H
                have c13b0 : (t331 == 0) = true := beq_iff_eq.mpr c13
                have c13b1 : (t331 != 0) = false := bne_eq_false_iff_eq.mpr c13
                clear c13
                replace H := Option.bind_eq_some_iff.mp H
                obtain ⟨t335, A140, H⟩ := H
                replace H : (some t335) = some r := H
                have A14 := Aside0.mk A140
                clear A140
                obtain rfl := Option.some.inj H
                go_enter Try.func7, Try.ntmps7
                go_wp2_with (first | ((with_reducible refine gate_callee (f := 8) rfl ?_); refine goesL_ (some 7) rfl rfl Try.func8 (by kernel_rfl) rfl #[] rfl (by (try simp only [List.map_toArray, List.map_cons, List.map_nil]); first | done | rfl | (simp only [List.length_drop, List.length_take]; rfl)) ?_; (with_reducible refine (dowserlaw13_awake.calls k  true _ A2.out).mono ?_); rintro e w15 ⟨rfl, hb⟩; refine ⟨_, rfl, ?_⟩; have n0_ := Aside0.mk (below_step (by repeat (first | (with_reducible first | exact HB.out | apply below_alloc | apply pw_below_drewN | apply below_drew1) | exact HB.out)) hb); clear HB; have HB := n0_; clear n0_; (try clear hb); (try clear hb2); (try clear hk); (try clear hi); have q16 : (30 : Int) ≤ ((l0.length : Int) : Int) := of_decide_eq_true (by first | (with_reducible assumption) | assumption); obtain ⟨i016, hi016, _, hsz16, _⟩ := info_parts info76; have hroom16 : l0.length ≤ c0 := HC0.out; have hC16 : Kd.C k76 _ A0 l0.length l0 := HR0.out; have hcut16 := cut_to (P := Try.prog) 45 76 .i64 Try.underlying45 hi016 A0 l0.length c0 30 (by omega) q16 hroom16; have hr16 := Kd.C_take (m := 30) hC16 (by omega); have hy16 : y323.length = (30 : Int).toNat := (by rw [Ny323.out, List.length_take]; omega); rw [← Ny323.out] at hr16; rw [← hy16] at hcut16; have HR326 := Aside0.mk hr16; have HC326 := Aside0.mk (show y323.length ≤ c0 from by omega); clear hr16 hC16 hroom16 hi016 hsz16; have KY16 := Aside0.mk hy16; clear hy16; replace q16 := eq_true q16) | ((with_reducible refine gate_callee (f := 24) rfl ?_); refine goesL_ (some 16) rfl rfl Try.func24 (by kernel_rfl) rfl #[.slice A0 y323.length c0] rfl (by (try simp only [List.map_toArray, List.map_cons, List.map_nil]); first | done | rfl | (simp only [List.length_drop, List.length_take]; rfl)) ?_; (with_reducible refine (setcode_Pairs.calls k _ _ y323 t327 t328 _ ?side1 ?side2 A6.out).mono ?_); (case side1 => repeat (first | exact (Kd.C_below HR326.out HB.out) | (with_reducible refine Kd.C_alloc ?_ _) | (with_reducible refine Kd.C_drewN ?_ _) | (with_reducible refine Kd.C_drew ?_))); (case side2 => exact HC326.out); rintro e w17 ⟨rfl, hb⟩; refine ⟨_, rfl, ?_⟩; have n0_ := Aside0.mk (below_step (by repeat (first | (with_reducible first | exact HB.out | apply below_alloc | apply pw_below_drewN | apply below_drew1) | exact HB.out)) hb); clear HB; have HB := n0_; clear n0_; (try clear hb); (try clear hb2); (try clear hk); (try clear hi)) | ((with_reducible refine gate_callee (f := 25) rfl ?_); refine goesL_ (some 20) rfl rfl Try.func25 (by kernel_rfl) rfl #[.slice A0 y323.length c0] rfl (by (try simp only [List.map_toArray, List.map_cons, List.map_nil]); first | done | rfl | (simp only [List.length_drop, List.length_take]; rfl)) ?_; (with_reducible refine (dowserref13_Rise.calls k _ _ y323 true _ ?side1 ?side2 A7.out).mono ?_); (case side1 => repeat (first | exact (Kd.C_below HR326.out HB.out) | (with_reducible refine Kd.C_alloc ?_ _) | (with_reducible refine Kd.C_drewN ?_ _) | (with_reducible refine Kd.C_drew ?_))); (case side2 => exact HC326.out); rintro e w18 ⟨rfl, hb⟩; refine ⟨_, rfl, ?_⟩; have n0_ := Aside0.mk (below_step (by repeat (first | (with_reducible first | exact HB.out | apply below_alloc | apply pw_below_drewN | apply below_drew1) | exact HB.out)) hb); clear HB; have HB := n0_; clear n0_; (try clear hb); (try clear hb2); (try clear hk); (try clear hi)) | ((with_reducible refine gate_callee (f := 21) rfl ?_); refine goesL_ (some 30) rfl rfl Try.func21 (by kernel_rfl) rfl #[.string t327] rfl (by (try simp only [List.map_toArray, List.map_cons, List.map_nil]); first | done | rfl | (simp only [List.length_drop, List.length_take]; rfl)) ?_; (with_reducible refine (setcode_FromPairs.calls k t327 t330 t331 _ A9.out).mono ?_); rintro e w19 ⟨v332, rfl, ho0, hb⟩; refine ⟨_, rfl, ?_⟩; have n0_ := Aside0.mk (Kd.R_lower ho0 (below_size (by repeat (first | (with_reducible first | exact HB.out | apply below_alloc | apply pw_below_drewN | apply below_drew1) | exact HB.out)))); have n1_ := Aside0.mk (below_step (by repeat (first | (with_reducible first | exact HB.out | apply below_alloc | apply pw_below_drewN | apply below_drew1) | exact HB.out)) hb); clear HB; have HO333 := n0_; have HB := n1_; clear n0_ n1_; (try clear hb); (try clear hb2); (try clear hk); (try clear hi); (try clear ho0)) | (go_at_call 26; (with_reducible refine (dowserref13_Pairs.calls k _ _ y323 t334 _ ?side1 ?side2 A11.out).mono ?_); (case side1 => repeat (first | exact (Kd.C_below HR326.out HB.out) | (with_reducible refine Kd.C_alloc ?_ _) | (with_reducible refine Kd.C_drewN ?_ _) | (with_reducible refine Kd.C_drew ?_))); (case side2 => exact HC326.out); (try clear A11); rintro e w20 ⟨rfl, hb⟩; have n0_ := Aside0.mk (Kd.R_below (by (with_reducible repeat (first | apply Kd.R_alloc | apply Kd.R_drewN | apply Kd.R_drew)); exact HO333.out) hb); have n1_ := Aside0.mk (below_step (by repeat (first | (with_reducible first | exact HB.out | apply below_alloc | apply pw_below_drewN | apply below_drew1) | exact HB.out)) hb); clear HO333; clear HB; have HO333 := n0_; have HB := n1_; clear n0_ n1_; (try clear hb); (try clear hb2); (try clear hk); (try clear hi); obtain ⟨Ao21, co21, eo21⟩ := Kd.R_slice HO333.out; subst eo21) | (go_at_call 23; (with_reducible refine (dowserlaw13_same.calls k _ _ t330 _ _ y323 t335 _ ?side1 ?side2 ?side3 ?side4 A14.out).mono ?_); (case side1 => repeat (first | exact (Kd.R_reads' HO333.out).2.2 | (with_reducible refine Kd.C_alloc ?_ _) | (with_reducible refine Kd.C_drewN ?_ _) | (with_reducible refine Kd.C_drew ?_))); (case side2 => exact (Kd.R_reads' HO333.out).2.1); (case side3 => repeat (first | exact (Kd.C_below HR326.out HB.out) | (with_reducible refine Kd.C_alloc ?_ _) | (with_reducible refine Kd.C_drewN ?_ _) | (with_reducible refine Kd.C_drew ?_))); (case side4 => exact HC326.out); rintro e w' ⟨rfl, ⟨nd, rfl⟩⟩))
                go_ret
                exact ⟨by first | rfl | (simp [errW_none, errW_some] <;> rfl) | (simp [*, errW_none, errW_some] <;> rfl), by repeat (first | (with_reducible first | exact HB.out | apply below_alloc | apply pw_below_drewN | apply below_drew1) | exact HB.out)⟩
              · rw [if_neg c13] at H
                exact absurd H (by simp)
            · rw [if_neg c12] at H
              exact absurd H (by simp)
          · rw [if_neg c10] at H
            exact absurd H (by simp)
        · replace c8 := Bool.eq_false_iff.mpr c8
          subst c8
          have H1 : (if t328 = 1 then (some (t327.toList == ([] : List UInt8))) else (none)) = some r := by rw [if_neg (show ¬ (false = true) by decide)] at H; exact H
          clear H
          have H := H1
          clear H1
          by_cases c22 : t328 = 1
          · rw [if_pos c22] at H
            have c22b0 : (t328 == 1) = true := beq_iff_eq.mpr c22
            have c22b1 : (t328 != 1) = false := bne_eq_false_iff_eq.mpr c22
            clear c22
            obtain rfl := Option.some.inj H
            go_enter Try.func7, Try.ntmps7
            go_wp2_with (first | ((with_reducible refine gate_callee (f := 8) rfl ?_); refine goesL_ (some 7) rfl rfl Try.func8 (by kernel_rfl) rfl #[] rfl (by (try simp only [List.map_toArray, List.map_cons, List.map_nil]); first | done | rfl | (simp only [List.length_drop, List.length_take]; rfl)) ?_; (with_reducible refine (dowserlaw13_awake.calls k  true _ A2.out).mono ?_); rintro e w23 ⟨rfl, hb⟩; refine ⟨_, rfl, ?_⟩; have n0_ := Aside0.mk (below_step (by repeat (first | (with_reducible first | exact HB.out | apply below_alloc | apply pw_below_drewN | apply below_drew1) | exact HB.out)) hb); clear HB; have HB := n0_; clear n0_; (try clear hb); (try clear hb2); (try clear hk); (try clear hi); have q24 : (30 : Int) ≤ ((l0.length : Int) : Int) := of_decide_eq_true (by first | (with_reducible assumption) | assumption); obtain ⟨i024, hi024, _, hsz24, _⟩ := info_parts info76; have hroom24 : l0.length ≤ c0 := HC0.out; have hC24 : Kd.C k76 _ A0 l0.length l0 := HR0.out; have hcut24 := cut_to (P := Try.prog) 45 76 .i64 Try.underlying45 hi024 A0 l0.length c0 30 (by omega) q24 hroom24; have hr24 := Kd.C_take (m := 30) hC24 (by omega); have hy24 : y323.length = (30 : Int).toNat := (by rw [Ny323.out, List.length_take]; omega); rw [← Ny323.out] at hr24; rw [← hy24] at hcut24; have HR326 := Aside0.mk hr24; have HC326 := Aside0.mk (show y323.length ≤ c0 from by omega); clear hr24 hC24 hroom24 hi024 hsz24; have KY24 := Aside0.mk hy24; clear hy24; replace q24 := eq_true q24) | ((with_reducible refine gate_callee (f := 24) rfl ?_); refine goesL_ (some 16) rfl rfl Try.func24 (by kernel_rfl) rfl #[.slice A0 y323.length c0] rfl (by (try simp only [List.map_toArray, List.map_cons, List.map_nil]); first | done | rfl | (simp only [List.length_drop, List.length_take]; rfl)) ?_; (with_reducible refine (setcode_Pairs.calls k _ _ y323 t327 t328 _ ?side1 ?side2 A6.out).mono ?_); (case side1 => repeat (first | exact (Kd.C_below HR326.out HB.out) | (with_reducible refine Kd.C_alloc ?_ _) | (with_reducible refine Kd.C_drewN ?_ _) | (with_reducible refine Kd.C_drew ?_))); (case side2 => exact HC326.out); rintro e w25 ⟨rfl, hb⟩; refine ⟨_, rfl, ?_⟩; have n0_ := Aside0.mk (below_step (by repeat (first | (with_reducible first | exact HB.out | apply below_alloc | apply pw_below_drewN | apply below_drew1) | exact HB.out)) hb); clear HB; have HB := n0_; clear n0_; (try clear hb); (try clear hb2); (try clear hk); (try clear hi)) | ((with_reducible refine gate_callee (f := 25) rfl ?_); refine goesL_ (some 20) rfl rfl Try.func25 (by kernel_rfl) rfl #[.slice A0 y323.length c0] rfl (by (try simp only [List.map_toArray, List.map_cons, List.map_nil]); first | done | rfl | (simp only [List.length_drop, List.length_take]; rfl)) ?_; (with_reducible refine (dowserref13_Rise.calls k _ _ y323 false _ ?side1 ?side2 A7.out).mono ?_); (case side1 => repeat (first | exact (Kd.C_below HR326.out HB.out) | (with_reducible refine Kd.C_alloc ?_ _) | (with_reducible refine Kd.C_drewN ?_ _) | (with_reducible refine Kd.C_drew ?_))); (case side2 => exact HC326.out); rintro e w26 ⟨rfl, hb⟩; refine ⟨_, rfl, ?_⟩; have n0_ := Aside0.mk (below_step (by repeat (first | (with_reducible first | exact HB.out | apply below_alloc | apply pw_below_drewN | apply below_drew1) | exact HB.out)) hb); clear HB; have HB := n0_; clear n0_; (try clear hb); (try clear hb2); (try clear hk); (try clear hi)))
            go_ret
            exact ⟨by first | rfl | (simp [errW_none, errW_some] <;> rfl) | (simp [*, errW_none, errW_some] <;> rfl), by repeat (first | (with_reducible first | exact HB.out | apply below_alloc | apply pw_below_drewN | apply below_drew1) | exact HB.out)⟩
          · rw [if_neg c22] at H
            exact absurd H (by simp)
      · rw [if_neg c5] at H
        exact absurd H (by simp)
    · rw [if_neg c4] at H
      have c4b0 : decide (30 < (l0.length : Int)) = false := decide_eq_false c4
      have c4b1 : decide (30 < l0.length) = false := decide_eq_false (by omega)
      clear c4
      replace H := Option.bind_eq_some_iff.mp H
      obtain ⟨⟨t336, t337⟩, A270, H⟩ := H
      replace H : ((dowserref13_Rise.f k l0).bind fun t338 => (if t338 = true then ((setcode_FromPairs.f k t336).bind fun bt339 => (if t337 = 0 then ((dowserref13_Pairs.f k l0).bind fun t343 => (if t336.toList = t343.toList then (if bt339.2 = 0 then ((dowserlaw13_same.f k bt339.1 l0).bind fun t344 => (some t344)) else (none)) else (none))) else (none))) else (if t337 = 1 then (some (t336.toList == ([] : List UInt8))) else (none)))) = some r := H
      have A27 := Aside0.mk A270
      clear A270
      replace H := Option.bind_eq_some_iff.mp H
      obtain ⟨t338, A280, H⟩ := H
      replace H : (if t338 = true then ((setcode_FromPairs.f k t336).bind fun bt339 => (if t337 = 0 then ((dowserref13_Pairs.f k l0).bind fun t343 => (if t336.toList = t343.toList then (if bt339.2 = 0 then ((dowserlaw13_same.f k bt339.1 l0).bind fun t344 => (some t344)) else (none)) else (none))) else (none))) else (if t337 = 1 then (some (t336.toList == ([] : List UInt8))) else (none))) = some r := H
      have A28 := Aside0.mk A280
      clear A280
      by_cases c29 : t338 = true
      · subst c29
        have H1 : ((setcode_FromPairs.f k t336).bind fun bt339 => (if t337 = 0 then ((dowserref13_Pairs.f k l0).bind fun t343 => (if t336.toList = t343.toList then (if bt339.2 = 0 then ((dowserlaw13_same.f k bt339.1 l0).bind fun t344 => (some t344)) else (none)) else (none))) else (none))) = some r := by rw [if_pos rfl] at H; exact H
        clear H
        have H := H1
        clear H1
        replace H := Option.bind_eq_some_iff.mp H
        obtain ⟨⟨t339, t340⟩, A300, H⟩ := H
        replace H : (if t337 = 0 then ((dowserref13_Pairs.f k l0).bind fun t343 => (if t336.toList = t343.toList then (if t340 = 0 then ((dowserlaw13_same.f k t339 l0).bind fun t344 => (some t344)) else (none)) else (none))) else (none)) = some r := H
        have A30 := Aside0.mk A300
        clear A300
        by_cases c31 : t337 = 0
        · rw [if_pos c31] at H
          have c31b0 : (t337 == 0) = true := beq_iff_eq.mpr c31
          have c31b1 : (t337 != 0) = false := bne_eq_false_iff_eq.mpr c31
          clear c31
          replace H := Option.bind_eq_some_iff.mp H
          obtain ⟨t343, A320, H⟩ := H
          replace H : (if t336.toList = t343.toList then (if t340 = 0 then ((dowserlaw13_same.f k t339 l0).bind fun t344 => (some t344)) else (none)) else (none)) = some r := H
          have A32 := Aside0.mk A320
          clear A320
          by_cases c33 : t336.toList = t343.toList
          · rw [if_pos c33] at H
            have c33b0 : (t336.toList == t343.toList) = true := beq_iff_eq.mpr c33
            have c33b1 : (t336.toList != t343.toList) = false := bne_eq_false_iff_eq.mpr c33
            clear c33
            by_cases c34 : t340 = 0
            · rw [if_pos c34] at H
              have c34b0 : (t340 == 0) = true := beq_iff_eq.mpr c34
              have c34b1 : (t340 != 0) = false := bne_eq_false_iff_eq.mpr c34
              clear c34
              replace H := Option.bind_eq_some_iff.mp H
              obtain ⟨t344, A350, H⟩ := H
              replace H : (some t344) = some r := H
              have A35 := Aside0.mk A350
              clear A350
              obtain rfl := Option.some.inj H
              go_enter Try.func7, Try.ntmps7
              go_wp2_with (first | ((with_reducible refine gate_callee (f := 8) rfl ?_); refine goesL_ (some 7) rfl rfl Try.func8 (by kernel_rfl) rfl #[] rfl (by (try simp only [List.map_toArray, List.map_cons, List.map_nil]); first | done | rfl | (simp only [List.length_drop, List.length_take]; rfl)) ?_; (with_reducible refine (dowserlaw13_awake.calls k  true _ A2.out).mono ?_); rintro e w36 ⟨rfl, hb⟩; refine ⟨_, rfl, ?_⟩; have n0_ := Aside0.mk (below_step (by repeat (first | (with_reducible first | exact HB.out | apply below_alloc | apply pw_below_drewN | apply below_drew1) | exact HB.out)) hb); clear HB; have HB := n0_; clear n0_; (try clear hb); (try clear hb2); (try clear hk); (try clear hi)) | ((with_reducible refine gate_callee (f := 24) rfl ?_); refine goesL_ (some 16) rfl rfl Try.func24 (by kernel_rfl) rfl #[.slice A0 l0.length c0] rfl (by (try simp only [List.map_toArray, List.map_cons, List.map_nil]); first | done | rfl | (simp only [List.length_drop, List.length_take]; rfl)) ?_; (with_reducible refine (setcode_Pairs.calls k _ _ l0 t336 t337 _ ?side1 ?side2 A27.out).mono ?_); (case side1 => repeat (first | exact (Kd.C_below HR0.out HB.out) | (with_reducible refine Kd.C_alloc ?_ _) | (with_reducible refine Kd.C_drewN ?_ _) | (with_reducible refine Kd.C_drew ?_))); (case side2 => exact HC0.out); rintro e w37 ⟨rfl, hb⟩; refine ⟨_, rfl, ?_⟩; have n0_ := Aside0.mk (below_step (by repeat (first | (with_reducible first | exact HB.out | apply below_alloc | apply pw_below_drewN | apply below_drew1) | exact HB.out)) hb); clear HB; have HB := n0_; clear n0_; (try clear hb); (try clear hb2); (try clear hk); (try clear hi)) | ((with_reducible refine gate_callee (f := 25) rfl ?_); refine goesL_ (some 20) rfl rfl Try.func25 (by kernel_rfl) rfl #[.slice A0 l0.length c0] rfl (by (try simp only [List.map_toArray, List.map_cons, List.map_nil]); first | done | rfl | (simp only [List.length_drop, List.length_take]; rfl)) ?_; (with_reducible refine (dowserref13_Rise.calls k _ _ l0 true _ ?side1 ?side2 A28.out).mono ?_); (case side1 => repeat (first | exact (Kd.C_below HR0.out HB.out) | (with_reducible refine Kd.C_alloc ?_ _) | (with_reducible refine Kd.C_drewN ?_ _) | (with_reducible refine Kd.C_drew ?_))); (case side2 => exact HC0.out); rintro e w38 ⟨rfl, hb⟩; refine ⟨_, rfl, ?_⟩; have n0_ := Aside0.mk (below_step (by repeat (first | (with_reducible first | exact HB.out | apply below_alloc | apply pw_below_drewN | apply below_drew1) | exact HB.out)) hb); clear HB; have HB := n0_; clear n0_; (try clear hb); (try clear hb2); (try clear hk); (try clear hi)) | ((with_reducible refine gate_callee (f := 21) rfl ?_); refine goesL_ (some 30) rfl rfl Try.func21 (by kernel_rfl) rfl #[.string t336] rfl (by (try simp only [List.map_toArray, List.map_cons, List.map_nil]); first | done | rfl | (simp only [List.length_drop, List.length_take]; rfl)) ?_; (with_reducible refine (setcode_FromPairs.calls k t336 t339 t340 _ A30.out).mono ?_); rintro e w39 ⟨v341, rfl, ho0, hb⟩; refine ⟨_, rfl, ?_⟩; have n0_ := Aside0.mk (Kd.R_lower ho0 (below_size (by repeat (first | (with_reducible first | exact HB.out | apply below_alloc | apply pw_below_drewN | apply below_drew1) | exact HB.out)))); have n1_ := Aside0.mk (below_step (by repeat (first | (with_reducible first | exact HB.out | apply below_alloc | apply pw_below_drewN | apply below_drew1) | exact HB.out)) hb); clear HB; have HO342 := n0_; have HB := n1_; clear n0_ n1_; (try clear hb); (try clear hb2); (try clear hk); (try clear hi); (try clear ho0)) | (go_at_call 26; (with_reducible refine (dowserref13_Pairs.calls k _ _ l0 t343 _ ?side1 ?side2 A32.out).mono ?_); (case side1 => repeat (first | exact (Kd.C_below HR0.out HB.out) | (with_reducible refine Kd.C_alloc ?_ _) | (with_reducible refine Kd.C_drewN ?_ _) | (with_reducible refine Kd.C_drew ?_))); (case side2 => exact HC0.out); (try clear A32); rintro e w40 ⟨rfl, hb⟩; have n0_ := Aside0.mk (Kd.R_below (by (with_reducible repeat (first | apply Kd.R_alloc | apply Kd.R_drewN | apply Kd.R_drew)); exact HO342.out) hb); have n1_ := Aside0.mk (below_step (by repeat (first | (with_reducible first | exact HB.out | apply below_alloc | apply pw_below_drewN | apply below_drew1) | exact HB.out)) hb); clear HO342; clear HB; have HO342 := n0_; have HB := n1_; clear n0_ n1_; (try clear hb); (try clear hb2); (try clear hk); (try clear hi); obtain ⟨Ao41, co41, eo41⟩ := Kd.R_slice HO342.out; subst eo41) | (go_at_call 23; (with_reducible refine (dowserlaw13_same.calls k _ _ t339 _ _ l0 t344 _ ?side1 ?side2 ?side3 ?side4 A35.out).mono ?_); (case side1 => repeat (first | exact (Kd.R_reads' HO342.out).2.2 | (with_reducible refine Kd.C_alloc ?_ _) | (with_reducible refine Kd.C_drewN ?_ _) | (with_reducible refine Kd.C_drew ?_))); (case side2 => exact (Kd.R_reads' HO342.out).2.1); (case side3 => repeat (first | exact (Kd.C_below HR0.out HB.out) | (with_reducible refine Kd.C_alloc ?_ _) | (with_reducible refine Kd.C_drewN ?_ _) | (with_reducible refine Kd.C_drew ?_))); (case side4 => exact HC0.out); rintro e w' ⟨rfl, ⟨nd, rfl⟩⟩))
              go_ret
              exact ⟨by first | rfl | (simp [errW_none, errW_some] <;> rfl) | (simp [*, errW_none, errW_some] <;> rfl), by repeat (first | (with_reducible first | exact HB.out | apply below_alloc | apply pw_below_drewN | apply below_drew1) | exact HB.out)⟩
            · rw [if_neg c34] at H
              exact absurd H (by simp)
          · rw [if_neg c33] at H
            exact absurd H (by simp)
        · rw [if_neg c31] at H
          exact absurd H (by simp)
      · replace c29 := Bool.eq_false_iff.mpr c29
        subst c29
        have H1 : (if t337 = 1 then (some (t336.toList == ([] : List UInt8))) else (none)) = some r := by rw [if_neg (show ¬ (false = true) by decide)] at H; exact H
        clear H
        have H := H1
        clear H1
        by_cases c42 : t337 = 1
        · rw [if_pos c42] at H
          have c42b0 : (t337 == 1) = true := beq_iff_eq.mpr c42
          have c42b1 : (t337 != 1) = false := bne_eq_false_iff_eq.mpr c42
          clear c42
          obtain rfl := Option.some.inj H
          go_enter Try.func7, Try.ntmps7
          go_wp2_with (first | ((with_reducible refine gate_callee (f := 8) rfl ?_); refine goesL_ (some 7) rfl rfl Try.func8 (by kernel_rfl) rfl #[] rfl (by (try simp only [List.map_toArray, List.map_cons, List.map_nil]); first | done | rfl | (simp only [List.length_drop, List.length_take]; rfl)) ?_; (with_reducible refine (dowserlaw13_awake.calls k  true _ A2.out).mono ?_); rintro e w43 ⟨rfl, hb⟩; refine ⟨_, rfl, ?_⟩; have n0_ := Aside0.mk (below_step (by repeat (first | (with_reducible first | exact HB.out | apply below_alloc | apply pw_below_drewN | apply below_drew1) | exact HB.out)) hb); clear HB; have HB := n0_; clear n0_; (try clear hb); (try clear hb2); (try clear hk); (try clear hi)) | ((with_reducible refine gate_callee (f := 24) rfl ?_); refine goesL_ (some 16) rfl rfl Try.func24 (by kernel_rfl) rfl #[.slice A0 l0.length c0] rfl (by (try simp only [List.map_toArray, List.map_cons, List.map_nil]); first | done | rfl | (simp only [List.length_drop, List.length_take]; rfl)) ?_; (with_reducible refine (setcode_Pairs.calls k _ _ l0 t336 t337 _ ?side1 ?side2 A27.out).mono ?_); (case side1 => repeat (first | exact (Kd.C_below HR0.out HB.out) | (with_reducible refine Kd.C_alloc ?_ _) | (with_reducible refine Kd.C_drewN ?_ _) | (with_reducible refine Kd.C_drew ?_))); (case side2 => exact HC0.out); rintro e w44 ⟨rfl, hb⟩; refine ⟨_, rfl, ?_⟩; have n0_ := Aside0.mk (below_step (by repeat (first | (with_reducible first | exact HB.out | apply below_alloc | apply pw_below_drewN | apply below_drew1) | exact HB.out)) hb); clear HB; have HB := n0_; clear n0_; (try clear hb); (try clear hb2); (try clear hk); (try clear hi)) | ((with_reducible refine gate_callee (f := 25) rfl ?_); refine goesL_ (some 20) rfl rfl Try.func25 (by kernel_rfl) rfl #[.slice A0 l0.length c0] rfl (by (try simp only [List.map_toArray, List.map_cons, List.map_nil]); first | done | rfl | (simp only [List.length_drop, List.length_take]; rfl)) ?_; (with_reducible refine (dowserref13_Rise.calls k _ _ l0 false _ ?side1 ?side2 A28.out).mono ?_); (case side1 => repeat (first | exact (Kd.C_below HR0.out HB.out) | (with_reducible refine Kd.C_alloc ?_ _) | (with_reducible refine Kd.C_drewN ?_ _) | (with_reducible refine Kd.C_drew ?_))); (case side2 => exact HC0.out); rintro e w45 ⟨rfl, hb⟩; refine ⟨_, rfl, ?_⟩; have n0_ := Aside0.mk (below_step (by repeat (first | (with_reducible first | exact HB.out | apply below_alloc | apply pw_below_drewN | apply below_drew1) | exact HB.out)) hb); clear HB; have HB := n0_; clear n0_; (try clear hb); (try clear hb2); (try clear hk); (try clear hi)))
          go_ret
          exact ⟨by first | rfl | (simp [errW_none, errW_some] <;> rfl) | (simp [*, errW_none, errW_some] <;> rfl), by repeat (first | (with_reducible first | exact HB.out | apply below_alloc | apply pw_below_drewN | apply below_drew1) | exact HB.out)⟩
        · rw [if_neg c42] at H
          exact absurd H (by simp)
  · replace c3 := Bool.eq_false_iff.mpr c3
    subst c3
    have H1 : (none) = some r := by rw [if_neg (show ¬ (false = true) by decide)] at H; exact H
    clear H
    have H := H1
    clear H1
    exact absurd H (by simp)

def dowserlaw13_SetcodePairs.Pure : Prop := ∀ (l0 : List (S76)), (l0.length ≤ maxLen ∧ ∀ y345 ∈ l0, ((Lit.int .i64 y345.f0).wf = true ∧ (Lit.int .i64 y345.f1).wf = true)) → ∃ k, dowserlaw13_SetcodePairs.f k l0 = some true

end Go.Proofs.Ytefiadhmcdfdoaa.PC

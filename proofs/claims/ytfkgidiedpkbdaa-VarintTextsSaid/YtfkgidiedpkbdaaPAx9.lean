-- Written by this session's own program wip/bin/dprint.py, over the kit's print.py, with own texts for some functions: no print of print.sh's
import Derived.Test.YtfkgidiedpkbdaaPAx0
import Derived.Test.YtfkgidiedpkbdaaPAx1
import Derived.Test.YtfkgidiedpkbdaaPAx2
import Derived.Test.YtfkgidiedpkbdaaPAx5
import Derived.Test.YtfkgidiedpkbdaaPAx7
import Derived.Test.YtfkgidiedpkbdaaPAx8
namespace Go.Proofs.Ytfkgidiedpkbdaa.PA
open Go.RowKit Go.Proofs.YtfkgidiedpkbdaaW.PrintWords Go.Proofs.YtfkgidiedpkbdaaW.PrintLast Go.Proofs.YtfkgidiedpkbdaaW.PrintMore
attribute [local go_sem] max2_int min2_int max_two min_two max_three min_three max_four min_four   -- for this text's walks alone
set_option linter.unusedVariables false
set_option linter.unusedSimpArgs false

/-! ### dowserlaw01_VarintTexts: function 11 -/
def dowserlaw01_VarintTexts.j0 : Nat → ByteArray → Int → Bool → Option (Bool)
  | 0, _, _, _ => none
  | k + 1, x0, x2, x64 => if x64 = true then (some false) else ((varint_Text.f k x0).bind fun t171 => ((varint_Of.f t171).bind fun bt172 => ((varint_In_Text.f k bt172.1 bt172.2 x2).bind fun bt175 => (if (x0.size : Int) > (mx x2 0) then (if bt175.1.toList = ([] : List UInt8) then ((varint_In_Err.f bt175.2.1 bt175.2.2).bind fun bt178 => (some (bt178.1 == 4))) else (some false)) else (if bt175.1.toList = x0.toList then ((varint_In_Err.f bt175.2.1 bt175.2.2).bind fun bt181 => (some (bt181.1 == 0))) else (some false))))))
def dowserlaw01_VarintTexts.f (k : Nat) (a0 : ByteArray) (a1 : ByteArray) (a2 : Int) : Option (Bool) := (dowserlaw01_awake.f k).bind fun t153 => (if t153 = true then ((dowserlaw01_Cut.f a0 200).bind fun t154 => ((dowserlaw01_Cut.f a1 200).bind fun t155 => ((varint_Text.f k t154).bind fun t156 => ((varint_Text.f k t155).bind fun t157 => (if t156.size + t157.size ≤ 9223372036854775807 then ((varint_Of.f (t156 ++ t157)).bind fun bt158 => ((varint_In_Text.f k bt158.1 bt158.2 200).bind fun bt161 => ((varint_In_Text.f k bt161.2.1 bt161.2.2 200).bind fun bt164 => (if bt161.1.toList = t154.toList then (if bt164.1.toList = t155.toList then ((varint_In_End.f bt164.2.1 bt164.2.2).bind fun bt167 => (if bt167.1 = 0 then ((dowserref01_Text.f k t154).bind fun t170 => (if t156.toList = t170.toList then (if t157.size + t156.size ≤ 9223372036854775807 then (dowserlaw01_VarintTexts.j0 k t154 a2 (((t156 ++ t157).toList == (t157 ++ t156).toList) != (t154.toList == t155.toList))) else (none)) else (dowserlaw01_VarintTexts.j0 k t154 a2 true))) else (dowserlaw01_VarintTexts.j0 k t154 a2 true))) else (dowserlaw01_VarintTexts.j0 k t154 a2 true)) else (dowserlaw01_VarintTexts.j0 k t154 a2 true))))) else (none)))))) else (some false))
theorem dowserlaw01_VarintTexts.mono_l : ∀ k, (∀ y0 y1 y2, LeO (dowserlaw01_VarintTexts.j0 k y0 y1 y2) (dowserlaw01_VarintTexts.j0 (k + 1) y0 y1 y2))
  | 0 => fun _ _ _ r h => by simp [dowserlaw01_VarintTexts.j0] at h
  | k + 1 => by
    have ih0 := dowserlaw01_VarintTexts.mono_l k
    · intro y0 y1 y2
      unfold dowserlaw01_VarintTexts.j0
      repeat' first
      | (with_reducible exact ih0 _ _ _)
      | (with_reducible exact dowserlaw01_awake.mono _)
      | (with_reducible exact dowserref01_Text.mono _ _)
      | (with_reducible exact varint_In_Text.mono _ _ _ _)
      | (with_reducible exact varint_Text.mono _ _)
      | (with_reducible exact LeO.refl _)
      | (with_reducible exact LeO.none _)
      | (with_reducible refine LeO.ite ?_ ?_)
      | (with_reducible refine LeO.bind ?_ (fun _ => ?_))
      | exact ih0 _ _ _
      | exact dowserlaw01_awake.mono _
      | exact dowserref01_Text.mono _ _
      | exact varint_In_Text.mono _ _ _ _
      | exact varint_Text.mono _ _
      | exact LeO.none _
      | refine LeO.ite ?_ ?_
      | refine LeO.bind ?_ (fun _ => ?_)
theorem dowserlaw01_VarintTexts.mono : ∀ a0 a1 a2 k, LeO (dowserlaw01_VarintTexts.f k a0 a1 a2) (dowserlaw01_VarintTexts.f (k + 1) a0 a1 a2) := by
  intro a0 a1 a2 k
  have ih0 := dowserlaw01_VarintTexts.mono_l k
  unfold dowserlaw01_VarintTexts.f
  repeat' first
      | (with_reducible exact ih0 _ _ _)
      | (with_reducible exact dowserlaw01_awake.mono _)
      | (with_reducible exact dowserref01_Text.mono _ _)
      | (with_reducible exact varint_In_Text.mono _ _ _ _)
      | (with_reducible exact varint_Text.mono _ _)
      | (with_reducible exact LeO.refl _)
      | (with_reducible exact LeO.none _)
      | (with_reducible refine LeO.ite ?_ ?_)
      | (with_reducible refine LeO.bind ?_ (fun _ => ?_))
      | exact ih0 _ _ _
      | exact dowserlaw01_awake.mono _
      | exact dowserref01_Text.mono _ _
      | exact varint_In_Text.mono _ _ _ _
      | exact varint_Text.mono _ _
      | exact LeO.none _
      | refine LeO.ite ?_ ?_
      | refine LeO.bind ?_ (fun _ => ?_)
set_option maxHeartbeats 8000000 in
set_option maxRecDepth 100000 in
theorem dowserlaw01_VarintTexts.calls (k : Nat) (a0 : ByteArray) (a1 : ByteArray) (a2 : Int) (r : Bool) (w : World) (h : dowserlaw01_VarintTexts.f k a0 a1 a2 = some r) :
    Calls Try.prog 11 #[.string a0, .string a1, .int .i64 a2] w fun e w' => e = .returned (.bool r) ∧ Below w.heap.size w w' := by
  have HB := Aside0.mk (Below.refl w.heap.size w)
  have H : ((dowserlaw01_awake.f k).bind fun t153 => (if t153 = true then ((dowserlaw01_Cut.f a0 200).bind fun t154 => ((dowserlaw01_Cut.f a1 200).bind fun t155 => ((varint_Text.f k t154).bind fun t156 => ((varint_Text.f k t155).bind fun t157 => (if t156.size + t157.size ≤ 9223372036854775807 then ((varint_Of.f (t156 ++ t157)).bind fun bt158 => ((varint_In_Text.f k bt158.1 bt158.2 200).bind fun bt161 => ((varint_In_Text.f k bt161.2.1 bt161.2.2 200).bind fun bt164 => (if bt161.1.toList = t154.toList then (if bt164.1.toList = t155.toList then ((varint_In_End.f bt164.2.1 bt164.2.2).bind fun bt167 => (if bt167.1 = 0 then ((dowserref01_Text.f k t154).bind fun t170 => (if t156.toList = t170.toList then (if t157.size + t156.size ≤ 9223372036854775807 then (dowserlaw01_VarintTexts.j0 k t154 a2 (((t156 ++ t157).toList == (t157 ++ t156).toList) != (t154.toList == t155.toList))) else (none)) else (dowserlaw01_VarintTexts.j0 k t154 a2 true))) else (dowserlaw01_VarintTexts.j0 k t154 a2 true))) else (dowserlaw01_VarintTexts.j0 k t154 a2 true)) else (dowserlaw01_VarintTexts.j0 k t154 a2 true))))) else (none)))))) else (some false))) = some r := h
  clear h
  replace H := Option.bind_eq_some_iff.mp H
  obtain ⟨t153, A40, H⟩ := H
  replace H : (if t153 = true then ((dowserlaw01_Cut.f a0 200).bind fun t154 => ((dowserlaw01_Cut.f a1 200).bind fun t155 => ((varint_Text.f k t154).bind fun t156 => ((varint_Text.f k t155).bind fun t157 => (if t156.size + t157.size ≤ 9223372036854775807 then ((varint_Of.f (t156 ++ t157)).bind fun bt158 => ((varint_In_Text.f k bt158.1 bt158.2 200).bind fun bt161 => ((varint_In_Text.f k bt161.2.1 bt161.2.2 200).bind fun bt164 => (if bt161.1.toList = t154.toList then (if bt164.1.toList = t155.toList then ((varint_In_End.f bt164.2.1 bt164.2.2).bind fun bt167 => (if bt167.1 = 0 then ((dowserref01_Text.f k t154).bind fun t170 => (if t156.toList = t170.toList then (if t157.size + t156.size ≤ 9223372036854775807 then (dowserlaw01_VarintTexts.j0 k t154 a2 (((t156 ++ t157).toList == (t157 ++ t156).toList) != (t154.toList == t155.toList))) else (none)) else (dowserlaw01_VarintTexts.j0 k t154 a2 true))) else (dowserlaw01_VarintTexts.j0 k t154 a2 true))) else (dowserlaw01_VarintTexts.j0 k t154 a2 true)) else (dowserlaw01_VarintTexts.j0 k t154 a2 true))))) else (none)))))) else (some false)) = some r := H
  have A4 := Aside0.mk A40
  clear A40
  by_cases c5 : t153 = true
  · subst c5
    have H1 : ((dowserlaw01_Cut.f a0 200).bind fun t154 => ((dowserlaw01_Cut.f a1 200).bind fun t155 => ((varint_Text.f k t154).bind fun t156 => ((varint_Text.f k t155).bind fun t157 => (if t156.size + t157.size ≤ 9223372036854775807 then ((varint_Of.f (t156 ++ t157)).bind fun bt158 => ((varint_In_Text.f k bt158.1 bt158.2 200).bind fun bt161 => ((varint_In_Text.f k bt161.2.1 bt161.2.2 200).bind fun bt164 => (if bt161.1.toList = t154.toList then (if bt164.1.toList = t155.toList then ((varint_In_End.f bt164.2.1 bt164.2.2).bind fun bt167 => (if bt167.1 = 0 then ((dowserref01_Text.f k t154).bind fun t170 => (if t156.toList = t170.toList then (if t157.size + t156.size ≤ 9223372036854775807 then (dowserlaw01_VarintTexts.j0 k t154 a2 (((t156 ++ t157).toList == (t157 ++ t156).toList) != (t154.toList == t155.toList))) else (none)) else (dowserlaw01_VarintTexts.j0 k t154 a2 true))) else (dowserlaw01_VarintTexts.j0 k t154 a2 true))) else (dowserlaw01_VarintTexts.j0 k t154 a2 true)) else (dowserlaw01_VarintTexts.j0 k t154 a2 true))))) else (none)))))) = some r := by rw [if_pos rfl] at H; exact H
    clear H
    have H := H1
    clear H1
    replace H := Option.bind_eq_some_iff.mp H
    obtain ⟨t154, A60, H⟩ := H
    replace H : ((dowserlaw01_Cut.f a1 200).bind fun t155 => ((varint_Text.f k t154).bind fun t156 => ((varint_Text.f k t155).bind fun t157 => (if t156.size + t157.size ≤ 9223372036854775807 then ((varint_Of.f (t156 ++ t157)).bind fun bt158 => ((varint_In_Text.f k bt158.1 bt158.2 200).bind fun bt161 => ((varint_In_Text.f k bt161.2.1 bt161.2.2 200).bind fun bt164 => (if bt161.1.toList = t154.toList then (if bt164.1.toList = t155.toList then ((varint_In_End.f bt164.2.1 bt164.2.2).bind fun bt167 => (if bt167.1 = 0 then ((dowserref01_Text.f k t154).bind fun t170 => (if t156.toList = t170.toList then (if t157.size + t156.size ≤ 9223372036854775807 then (dowserlaw01_VarintTexts.j0 k t154 a2 (((t156 ++ t157).toList == (t157 ++ t156).toList) != (t154.toList == t155.toList))) else (none)) else (dowserlaw01_VarintTexts.j0 k t154 a2 true))) else (dowserlaw01_VarintTexts.j0 k t154 a2 true))) else (dowserlaw01_VarintTexts.j0 k t154 a2 true)) else (dowserlaw01_VarintTexts.j0 k t154 a2 true))))) else (none))))) = some r := H
    have A6 := Aside0.mk A60
    clear A60
    replace H := Option.bind_eq_some_iff.mp H
    obtain ⟨t155, A70, H⟩ := H
    replace H : ((varint_Text.f k t154).bind fun t156 => ((varint_Text.f k t155).bind fun t157 => (if t156.size + t157.size ≤ 9223372036854775807 then ((varint_Of.f (t156 ++ t157)).bind fun bt158 => ((varint_In_Text.f k bt158.1 bt158.2 200).bind fun bt161 => ((varint_In_Text.f k bt161.2.1 bt161.2.2 200).bind fun bt164 => (if bt161.1.toList = t154.toList then (if bt164.1.toList = t155.toList then ((varint_In_End.f bt164.2.1 bt164.2.2).bind fun bt167 => (if bt167.1 = 0 then ((dowserref01_Text.f k t154).bind fun t170 => (if t156.toList = t170.toList then (if t157.size + t156.size ≤ 9223372036854775807 then (dowserlaw01_VarintTexts.j0 k t154 a2 (((t156 ++ t157).toList == (t157 ++ t156).toList) != (t154.toList == t155.toList))) else (none)) else (dowserlaw01_VarintTexts.j0 k t154 a2 true))) else (dowserlaw01_VarintTexts.j0 k t154 a2 true))) else (dowserlaw01_VarintTexts.j0 k t154 a2 true)) else (dowserlaw01_VarintTexts.j0 k t154 a2 true))))) else (none)))) = some r := H
    have A7 := Aside0.mk A70
    clear A70
    replace H := Option.bind_eq_some_iff.mp H
    obtain ⟨t156, A80, H⟩ := H
    replace H : ((varint_Text.f k t155).bind fun t157 => (if t156.size + t157.size ≤ 9223372036854775807 then ((varint_Of.f (t156 ++ t157)).bind fun bt158 => ((varint_In_Text.f k bt158.1 bt158.2 200).bind fun bt161 => ((varint_In_Text.f k bt161.2.1 bt161.2.2 200).bind fun bt164 => (if bt161.1.toList = t154.toList then (if bt164.1.toList = t155.toList then ((varint_In_End.f bt164.2.1 bt164.2.2).bind fun bt167 => (if bt167.1 = 0 then ((dowserref01_Text.f k t154).bind fun t170 => (if t156.toList = t170.toList then (if t157.size + t156.size ≤ 9223372036854775807 then (dowserlaw01_VarintTexts.j0 k t154 a2 (((t156 ++ t157).toList == (t157 ++ t156).toList) != (t154.toList == t155.toList))) else (none)) else (dowserlaw01_VarintTexts.j0 k t154 a2 true))) else (dowserlaw01_VarintTexts.j0 k t154 a2 true))) else (dowserlaw01_VarintTexts.j0 k t154 a2 true)) else (dowserlaw01_VarintTexts.j0 k t154 a2 true))))) else (none))) = some r := H
    have A8 := Aside0.mk A80
    clear A80
    replace H := Option.bind_eq_some_iff.mp H
    obtain ⟨t157, A90, H⟩ := H
    replace H : (if t156.size + t157.size ≤ 9223372036854775807 then ((varint_Of.f (t156 ++ t157)).bind fun bt158 => ((varint_In_Text.f k bt158.1 bt158.2 200).bind fun bt161 => ((varint_In_Text.f k bt161.2.1 bt161.2.2 200).bind fun bt164 => (if bt161.1.toList = t154.toList then (if bt164.1.toList = t155.toList then ((varint_In_End.f bt164.2.1 bt164.2.2).bind fun bt167 => (if bt167.1 = 0 then ((dowserref01_Text.f k t154).bind fun t170 => (if t156.toList = t170.toList then (if t157.size + t156.size ≤ 9223372036854775807 then (dowserlaw01_VarintTexts.j0 k t154 a2 (((t156 ++ t157).toList == (t157 ++ t156).toList) != (t154.toList == t155.toList))) else (none)) else (dowserlaw01_VarintTexts.j0 k t154 a2 true))) else (dowserlaw01_VarintTexts.j0 k t154 a2 true))) else (dowserlaw01_VarintTexts.j0 k t154 a2 true)) else (dowserlaw01_VarintTexts.j0 k t154 a2 true))))) else (none)) = some r := H
    have A9 := Aside0.mk A90
    clear A90
    by_cases c10 : t156.size + t157.size ≤ 9223372036854775807
    · rw [if_pos c10] at H
      have c10b0 := eq_true c10
      have c10b1 : decide (t156.size + t157.size ≤ 9223372036854775807) = true := decide_eq_true c10
      try have c10b2 : (9223372036854775807 < t156.size + t157.size) = False := eq_false (Nat.not_lt.2 c10)
      replace H := Option.bind_eq_some_iff.mp H
      obtain ⟨⟨t158, t159⟩, A110, H⟩ := H
      replace H : ((varint_In_Text.f k t158 t159 200).bind fun bt161 => ((varint_In_Text.f k bt161.2.1 bt161.2.2 200).bind fun bt164 => (if bt161.1.toList = t154.toList then (if bt164.1.toList = t155.toList then ((varint_In_End.f bt164.2.1 bt164.2.2).bind fun bt167 => (if bt167.1 = 0 then ((dowserref01_Text.f k t154).bind fun t170 => (if t156.toList = t170.toList then (if t157.size + t156.size ≤ 9223372036854775807 then (dowserlaw01_VarintTexts.j0 k t154 a2 (((t156 ++ t157).toList == (t157 ++ t156).toList) != (t154.toList == t155.toList))) else (none)) else (dowserlaw01_VarintTexts.j0 k t154 a2 true))) else (dowserlaw01_VarintTexts.j0 k t154 a2 true))) else (dowserlaw01_VarintTexts.j0 k t154 a2 true)) else (dowserlaw01_VarintTexts.j0 k t154 a2 true)))) = some r := H
      have A11 := Aside0.mk A110
      clear A110
      replace H := Option.bind_eq_some_iff.mp H
      obtain ⟨⟨t161, t162, t163⟩, A120, H⟩ := H
      replace H : ((varint_In_Text.f k t162 t163 200).bind fun bt164 => (if t161.toList = t154.toList then (if bt164.1.toList = t155.toList then ((varint_In_End.f bt164.2.1 bt164.2.2).bind fun bt167 => (if bt167.1 = 0 then ((dowserref01_Text.f k t154).bind fun t170 => (if t156.toList = t170.toList then (if t157.size + t156.size ≤ 9223372036854775807 then (dowserlaw01_VarintTexts.j0 k t154 a2 (((t156 ++ t157).toList == (t157 ++ t156).toList) != (t154.toList == t155.toList))) else (none)) else (dowserlaw01_VarintTexts.j0 k t154 a2 true))) else (dowserlaw01_VarintTexts.j0 k t154 a2 true))) else (dowserlaw01_VarintTexts.j0 k t154 a2 true)) else (dowserlaw01_VarintTexts.j0 k t154 a2 true))) = some r := H
      have A12 := Aside0.mk A120
      clear A120
      replace H := Option.bind_eq_some_iff.mp H
      obtain ⟨⟨t164, t165, t166⟩, A130, H⟩ := H
      replace H : (if t161.toList = t154.toList then (if t164.toList = t155.toList then ((varint_In_End.f t165 t166).bind fun bt167 => (if bt167.1 = 0 then ((dowserref01_Text.f k t154).bind fun t170 => (if t156.toList = t170.toList then (if t157.size + t156.size ≤ 9223372036854775807 then (dowserlaw01_VarintTexts.j0 k t154 a2 (((t156 ++ t157).toList == (t157 ++ t156).toList) != (t154.toList == t155.toList))) else (none)) else (dowserlaw01_VarintTexts.j0 k t154 a2 true))) else (dowserlaw01_VarintTexts.j0 k t154 a2 true))) else (dowserlaw01_VarintTexts.j0 k t154 a2 true)) else (dowserlaw01_VarintTexts.j0 k t154 a2 true)) = some r := H
      have A13 := Aside0.mk A130
      clear A130
      have HC14 := Aside0.mk H
      clear H
      go_enter Try.func11, Try.ntmps11
      go_upto_region 6 with (first | ((with_reducible refine gate_callee (f := 27) rfl ?_); refine goesL_ (some 12) rfl rfl Try.func27 (by kernel_rfl) rfl #[] rfl (by (try simp only [List.map_toArray, List.map_cons, List.map_nil]); first | done | rfl | (simp only [List.length_drop, List.length_take]; rfl)) ?_; (with_reducible refine (dowserlaw01_awake.calls k  true _ A4.out).mono ?_); rintro e w15 ⟨rfl, hb⟩; refine ⟨_, rfl, ?_⟩; have n0_ := Aside0.mk (below_step (by repeat (first | (with_reducible first | exact HB.out | apply below_alloc | apply pw_below_drewN | apply below_drew1) | exact HB.out)) hb); clear HB; have HB := n0_; clear n0_; (try clear hb); (try clear hb2); (try clear hk); (try clear hi)) | ((with_reducible refine gate_callee (f := 14) rfl ?_); refine goesL_ (some 15) rfl rfl Try.func14 (by kernel_rfl) rfl #[.string a0, .int .i64 200] rfl (by (try simp only [List.map_toArray, List.map_cons, List.map_nil]); first | done | rfl | (simp only [List.length_drop, List.length_take]; rfl)) ?_; (with_reducible refine (dowserlaw01_Cut.calls a0 200 t154 _ A6.out).mono ?_); rintro e w' ⟨rfl, ⟨nd, rfl⟩⟩; refine ⟨_, rfl, ?_⟩) | ((with_reducible refine gate_callee (f := 14) rfl ?_); refine goesL_ (some 17) rfl rfl Try.func14 (by kernel_rfl) rfl #[.string a1, .int .i64 200] rfl (by (try simp only [List.map_toArray, List.map_cons, List.map_nil]); first | done | rfl | (simp only [List.length_drop, List.length_take]; rfl)) ?_; (with_reducible refine (dowserlaw01_Cut.calls a1 200 t155 _ A7.out).mono ?_); rintro e w' ⟨rfl, ⟨nd, rfl⟩⟩; refine ⟨_, rfl, ?_⟩) | ((with_reducible refine gate_callee (f := 43) rfl ?_); refine goesL_ (some 19) rfl rfl Try.func43 (by kernel_rfl) rfl #[.string t154] rfl (by (try simp only [List.map_toArray, List.map_cons, List.map_nil]); first | done | rfl | (simp only [List.length_drop, List.length_take]; rfl)) ?_; (with_reducible refine (varint_Text.calls k t154 t156 _ A8.out).mono ?_); rintro e w16 ⟨rfl, hb⟩; refine ⟨_, rfl, ?_⟩; have n0_ := Aside0.mk (below_step (by repeat (first | (with_reducible first | exact HB.out | apply below_alloc | apply pw_below_drewN | apply below_drew1) | exact HB.out)) hb); clear HB; have HB := n0_; clear n0_; (try clear hb); (try clear hb2); (try clear hk); (try clear hi)) | ((with_reducible refine gate_callee (f := 43) rfl ?_); refine goesL_ (some 21) rfl rfl Try.func43 (by kernel_rfl) rfl #[.string t155] rfl (by (try simp only [List.map_toArray, List.map_cons, List.map_nil]); first | done | rfl | (simp only [List.length_drop, List.length_take]; rfl)) ?_; (with_reducible refine (varint_Text.calls k t155 t157 _ A9.out).mono ?_); rintro e w17 ⟨rfl, hb⟩; refine ⟨_, rfl, ?_⟩; have n0_ := Aside0.mk (below_step (by repeat (first | (with_reducible first | exact HB.out | apply below_alloc | apply pw_below_drewN | apply below_drew1) | exact HB.out)) hb); clear HB; have HB := n0_; clear n0_; (try clear hb); (try clear hb2); (try clear hk); (try clear hi)) | ((with_reducible refine gate_callee (f := 29) rfl ?_); refine goesL_ (some 23) rfl rfl Try.func29 (by kernel_rfl) rfl #[.string (t156 ++ t157)] rfl (by (try simp only [List.map_toArray, List.map_cons, List.map_nil]); first | done | rfl | (simp only [List.length_drop, List.length_take]; rfl)) ?_; (with_reducible refine (varint_Of.calls (t156 ++ t157) t158 t159 w _ ?side1 A11.out).mono ?_); (case side1 => repeat (first | (with_reducible first | exact HB.out | apply below_alloc | apply pw_below_drewN | apply below_drew1) | exact HB.out)); rintro e w18 ⟨g160, rfl, hi, hb, hb2⟩; refine ⟨_, rfl, ?_⟩; have n0_ := Aside0.mk (hb); have n1_ := Aside0.mk (hi); clear HB; have HB := n0_; have HI160 := n1_; clear n0_ n1_; (try clear hb); (try clear hb2); (try clear hk); (try clear hi)) | ((with_reducible refine gate_callee (f := 44) rfl ?_); refine goesL_ (some 25) rfl rfl Try.func44 (by kernel_rfl) rfl #[.pointer (some ⟨g160, 0, none⟩), .int .i64 200] rfl (by (try simp only [List.map_toArray, List.map_cons, List.map_nil]); first | done | rfl | (simp only [List.length_drop, List.length_take]; rfl)) ?_; (with_reducible refine (varint_In_Text.calls k g160 t158 t159 200 t161 t162 t163 w _ ?side1 ?side2 A12.out).mono ?_); (case side1 => repeat (first | (with_reducible first | exact HI160.out | apply IsS78.alloc | apply IsS78.drewN | apply IsS78.drew | apply IsS78.set_0 | apply IsS78.set_1) | exact HI160.out)); (case side2 => repeat (first | (with_reducible first | exact HB.out | apply below_alloc | apply pw_below_drewN | apply below_drew1 | refine below_set ?_ (IsS78.ge HI160.out)) | exact HB.out)); rintro e w19 ⟨rfl, hi, hb, hk⟩; refine ⟨_, rfl, ?_⟩; have n0_ := Aside0.mk (hb); have n1_ := Aside0.mk (hi); clear HB; clear HI160; have HB := n0_; have HI160 := n1_; clear n0_ n1_; (try clear hb); (try clear hb2); (try clear hk); (try clear hi)) | ((with_reducible refine gate_callee (f := 44) rfl ?_); refine goesL_ (some 27) rfl rfl Try.func44 (by kernel_rfl) rfl #[.pointer (some ⟨g160, 0, none⟩), .int .i64 200] rfl (by (try simp only [List.map_toArray, List.map_cons, List.map_nil]); first | done | rfl | (simp only [List.length_drop, List.length_take]; rfl)) ?_; (with_reducible refine (varint_In_Text.calls k g160 t162 t163 200 t164 t165 t166 w _ ?side1 ?side2 A13.out).mono ?_); (case side1 => repeat (first | (with_reducible first | exact HI160.out | apply IsS78.alloc | apply IsS78.drewN | apply IsS78.drew | apply IsS78.set_0 | apply IsS78.set_1) | exact HI160.out)); (case side2 => repeat (first | (with_reducible first | exact HB.out | apply below_alloc | apply pw_below_drewN | apply below_drew1 | refine below_set ?_ (IsS78.ge HI160.out)) | exact HB.out)); rintro e w20 ⟨rfl, hi, hb, hk⟩; refine ⟨_, rfl, ?_⟩; have n0_ := Aside0.mk (hb); have n1_ := Aside0.mk (hi); clear HB; clear HI160; have HB := n0_; have HI160 := n1_; clear n0_ n1_; (try clear hb); (try clear hb2); (try clear hk); (try clear hi)))
      (try simp only [Act.put, List.setIfInBounds_toArray, List.set_cons_zero, List.set_cons_succ])
      go_cut [64] (fun v64 wc => ∃ (kq : Nat) (x64_13 : Bool), v64 = .bool x64_13 ∧ Aside0 (dowserlaw01_VarintTexts.j0 kq t154 a2 x64_13 = some r) ∧ Aside0 (kq ≤ k) ∧ Aside0 (Below w.heap.size w wc))
      case first =>
        have H := HC14.out
        clear HC14
        by_cases c21 : t161.toList = t154.toList
        · rw [if_pos c21] at H
          have c21b0 : (t161.toList == t154.toList) = true := beq_iff_eq.mpr c21
          have c21b1 : (t161.toList != t154.toList) = false := bne_eq_false_iff_eq.mpr c21
          clear c21
          (first | rw [c21b0] | (simp only [i64_w, i32_w]; rw [c21b0]) | skip)
          by_cases c22 : t164.toList = t155.toList
          · rw [if_pos c22] at H
            have c22b0 : (t164.toList == t155.toList) = true := beq_iff_eq.mpr c22
            have c22b1 : (t164.toList != t155.toList) = false := bne_eq_false_iff_eq.mpr c22
            clear c22
            replace H := Option.bind_eq_some_iff.mp H
            obtain ⟨⟨t167, t168, t169⟩, A230, H⟩ := H
            replace H : (if t167 = 0 then ((dowserref01_Text.f k t154).bind fun t170 => (if t156.toList = t170.toList then (if t157.size + t156.size ≤ 9223372036854775807 then (dowserlaw01_VarintTexts.j0 k t154 a2 (((t156 ++ t157).toList == (t157 ++ t156).toList) != (t154.toList == t155.toList))) else (none)) else (dowserlaw01_VarintTexts.j0 k t154 a2 true))) else (dowserlaw01_VarintTexts.j0 k t154 a2 true)) = some r := H
            have A23 := Aside0.mk A230
            clear A230
            by_cases c24 : t167 = 0
            · rw [if_pos c24] at H
              have c24b0 : (t167 == 0) = true := beq_iff_eq.mpr c24
              have c24b1 : (t167 != 0) = false := bne_eq_false_iff_eq.mpr c24
              clear c24
              replace H := Option.bind_eq_some_iff.mp H
              obtain ⟨t170, A250, H⟩ := H
              replace H : (if t156.toList = t170.toList then (if t157.size + t156.size ≤ 9223372036854775807 then (dowserlaw01_VarintTexts.j0 k t154 a2 (((t156 ++ t157).toList == (t157 ++ t156).toList) != (t154.toList == t155.toList))) else (none)) else (dowserlaw01_VarintTexts.j0 k t154 a2 true)) = some r := H
              have A25 := Aside0.mk A250
              clear A250
              by_cases c26 : t156.toList = t170.toList
              · rw [if_pos c26] at H
                have c26b0 : (t156.toList == t170.toList) = true := beq_iff_eq.mpr c26
                have c26b1 : (t156.toList != t170.toList) = false := bne_eq_false_iff_eq.mpr c26
                clear c26
                by_cases c27 : t157.size + t156.size ≤ 9223372036854775807
                · rw [if_pos c27] at H
                  have c27b0 := eq_true c27
                  have c27b1 : decide (t157.size + t156.size ≤ 9223372036854775807) = true := decide_eq_true c27
                  try have c27b2 : (9223372036854775807 < t157.size + t156.size) = False := eq_false (Nat.not_lt.2 c27)
                  have H' := Aside0.mk H
                  clear H
                  go_wp2_with (first | (go_at_call 32; (with_reducible refine (varint_In_End.calls g160 t165 t166 t167 t168 t169 w _ ?side1 ?side2 A23.out).mono ?_); (case side1 => repeat (first | (with_reducible first | exact HI160.out | apply IsS78.alloc | apply IsS78.drewN | apply IsS78.drew | apply IsS78.set_0 | apply IsS78.set_1) | exact HI160.out)); (case side2 => repeat (first | (with_reducible first | exact HB.out | apply below_alloc | apply pw_below_drewN | apply below_drew1 | refine below_set ?_ (IsS78.ge HI160.out)) | exact HB.out)); rintro e w28 ⟨rfl, hi, hb, hk⟩; have n0_ := Aside0.mk (hb); have n1_ := Aside0.mk (hi); clear HB; clear HI160; have HB := n0_; have HI160 := n1_; clear n0_ n1_; (try clear hb); (try clear hb2); (try clear hk); (try clear hi)) | (go_at_call 43; (with_reducible refine (varint_Text.calls k t154 t156 _ A8.out).mono ?_); rintro e w29 ⟨rfl, hb⟩; have n0_ := Aside0.mk (IsS78.below (by repeat (first | (with_reducible first | exact HI160.out | apply IsS78.alloc | apply IsS78.drewN | apply IsS78.drew | apply IsS78.set_0 | apply IsS78.set_1) | exact HI160.out)) hb); have n1_ := Aside0.mk (below_step (by repeat (first | (with_reducible first | exact HB.out | apply below_alloc | apply pw_below_drewN | apply below_drew1 | refine below_set ?_ (IsS78.ge HI160.out)) | exact HB.out)) hb); clear HI160; clear HB; have HI160 := n0_; have HB := n1_; clear n0_ n1_; (try clear hb); (try clear hb2); (try clear hk); (try clear hi)) | (go_at_call 45; (with_reducible refine (dowserref01_Text.calls k t154 t170 _ A25.out).mono ?_); rintro e w30 ⟨rfl, hb⟩; have n0_ := Aside0.mk (IsS78.below (by repeat (first | (with_reducible first | exact HI160.out | apply IsS78.alloc | apply IsS78.drewN | apply IsS78.drew | apply IsS78.set_0 | apply IsS78.set_1) | exact HI160.out)) hb); have n1_ := Aside0.mk (below_step (by repeat (first | (with_reducible first | exact HB.out | apply below_alloc | apply pw_below_drewN | apply below_drew1 | refine below_set ?_ (IsS78.ge HI160.out)) | exact HB.out)) hb); clear HI160; clear HB; have HI160 := n0_; have HB := n1_; clear n0_ n1_; (try clear hb); (try clear hb2); (try clear hk); (try clear hi)) | (go_at_call 43; (with_reducible refine (varint_Text.calls k t154 t156 _ A8.out).mono ?_); rintro e w31 ⟨rfl, hb⟩; have n0_ := Aside0.mk (IsS78.below (by repeat (first | (with_reducible first | exact HI160.out | apply IsS78.alloc | apply IsS78.drewN | apply IsS78.drew | apply IsS78.set_0 | apply IsS78.set_1) | exact HI160.out)) hb); have n1_ := Aside0.mk (below_step (by repeat (first | (with_reducible first | exact HB.out | apply below_alloc | apply pw_below_drewN | apply below_drew1 | refine below_set ?_ (IsS78.ge HI160.out)) | exact HB.out)) hb); clear HI160; clear HB; have HI160 := n0_; have HB := n1_; clear n0_ n1_; (try clear hb); (try clear hb2); (try clear hk); (try clear hi)) | (go_at_call 43; (with_reducible refine (varint_Text.calls k t155 t157 _ A9.out).mono ?_); rintro e w32 ⟨rfl, hb⟩; have n0_ := Aside0.mk (IsS78.below (by repeat (first | (with_reducible first | exact HI160.out | apply IsS78.alloc | apply IsS78.drewN | apply IsS78.drew | apply IsS78.set_0 | apply IsS78.set_1) | exact HI160.out)) hb); have n1_ := Aside0.mk (below_step (by repeat (first | (with_reducible first | exact HB.out | apply below_alloc | apply pw_below_drewN | apply below_drew1 | refine below_set ?_ (IsS78.ge HI160.out)) | exact HB.out)) hb); clear HI160; clear HB; have HI160 := n0_; have HB := n1_; clear n0_ n1_; (try clear hb); (try clear hb2); (try clear hk); (try clear hi)) | (go_at_call 43; (with_reducible refine (varint_Text.calls k t155 t157 _ A9.out).mono ?_); rintro e w33 ⟨rfl, hb⟩; have n0_ := Aside0.mk (IsS78.below (by repeat (first | (with_reducible first | exact HI160.out | apply IsS78.alloc | apply IsS78.drewN | apply IsS78.drew | apply IsS78.set_0 | apply IsS78.set_1) | exact HI160.out)) hb); have n1_ := Aside0.mk (below_step (by repeat (first | (with_reducible first | exact HB.out | apply below_alloc | apply pw_below_drewN | apply below_drew1 | refine below_set ?_ (IsS78.ge HI160.out)) | exact HB.out)) hb); clear HI160; clear HB; have HI160 := n0_; have HB := n1_; clear n0_ n1_; (try clear hb); (try clear hb2); (try clear hk); (try clear hi)) | (go_at_call 43; (with_reducible refine (varint_Text.calls k t154 t156 _ A8.out).mono ?_); rintro e w34 ⟨rfl, hb⟩; have n0_ := Aside0.mk (IsS78.below (by repeat (first | (with_reducible first | exact HI160.out | apply IsS78.alloc | apply IsS78.drewN | apply IsS78.drew | apply IsS78.set_0 | apply IsS78.set_1) | exact HI160.out)) hb); have n1_ := Aside0.mk (below_step (by repeat (first | (with_reducible first | exact HB.out | apply below_alloc | apply pw_below_drewN | apply below_drew1 | refine below_set ?_ (IsS78.ge HI160.out)) | exact HB.out)) hb); clear HI160; clear HB; have HI160 := n0_; have HB := n1_; clear n0_ n1_; (try clear hb); (try clear hb2); (try clear hk); (try clear hi)))
                  go_meet
                  case rel => exact ⟨_, ((((t156 ++ t157).toList == (t157 ++ t156).toList) != (t154.toList == t155.toList))), (by first | rfl | (simp; done) | (simp [*]; done)), H', ⟨by first | omega | exact Nat.le_refl _⟩, ⟨by repeat (first | (with_reducible first | exact HB.out | apply below_alloc | apply pw_below_drewN | apply below_drew1 | refine below_set ?_ (IsS78.ge HI160.out)) | exact HB.out)⟩⟩
                · rw [if_neg c27] at H
                  exact absurd H (by simp)
              · rw [if_neg c26] at H
                have c26b0 : (t156.toList == t170.toList) = false := beq_eq_false_iff_ne.mpr c26
                have c26b1 : (t156.toList != t170.toList) = true := bne_iff_ne.mpr c26
                have H' := Aside0.mk H
                clear H
                go_wp2_with (first | (go_at_call 32; (with_reducible refine (varint_In_End.calls g160 t165 t166 t167 t168 t169 w _ ?side1 ?side2 A23.out).mono ?_); (case side1 => repeat (first | (with_reducible first | exact HI160.out | apply IsS78.alloc | apply IsS78.drewN | apply IsS78.drew | apply IsS78.set_0 | apply IsS78.set_1) | exact HI160.out)); (case side2 => repeat (first | (with_reducible first | exact HB.out | apply below_alloc | apply pw_below_drewN | apply below_drew1 | refine below_set ?_ (IsS78.ge HI160.out)) | exact HB.out)); rintro e w35 ⟨rfl, hi, hb, hk⟩; have n0_ := Aside0.mk (hb); have n1_ := Aside0.mk (hi); clear HB; clear HI160; have HB := n0_; have HI160 := n1_; clear n0_ n1_; (try clear hb); (try clear hb2); (try clear hk); (try clear hi)) | (go_at_call 43; (with_reducible refine (varint_Text.calls k t154 t156 _ A8.out).mono ?_); rintro e w36 ⟨rfl, hb⟩; have n0_ := Aside0.mk (IsS78.below (by repeat (first | (with_reducible first | exact HI160.out | apply IsS78.alloc | apply IsS78.drewN | apply IsS78.drew | apply IsS78.set_0 | apply IsS78.set_1) | exact HI160.out)) hb); have n1_ := Aside0.mk (below_step (by repeat (first | (with_reducible first | exact HB.out | apply below_alloc | apply pw_below_drewN | apply below_drew1 | refine below_set ?_ (IsS78.ge HI160.out)) | exact HB.out)) hb); clear HI160; clear HB; have HI160 := n0_; have HB := n1_; clear n0_ n1_; (try clear hb); (try clear hb2); (try clear hk); (try clear hi)) | (go_at_call 45; (with_reducible refine (dowserref01_Text.calls k t154 t170 _ A25.out).mono ?_); rintro e w37 ⟨rfl, hb⟩; have n0_ := Aside0.mk (IsS78.below (by repeat (first | (with_reducible first | exact HI160.out | apply IsS78.alloc | apply IsS78.drewN | apply IsS78.drew | apply IsS78.set_0 | apply IsS78.set_1) | exact HI160.out)) hb); have n1_ := Aside0.mk (below_step (by repeat (first | (with_reducible first | exact HB.out | apply below_alloc | apply pw_below_drewN | apply below_drew1 | refine below_set ?_ (IsS78.ge HI160.out)) | exact HB.out)) hb); clear HI160; clear HB; have HI160 := n0_; have HB := n1_; clear n0_ n1_; (try clear hb); (try clear hb2); (try clear hk); (try clear hi)))
                go_meet
                case rel => exact ⟨_, (true), (by first | rfl | (simp; done) | (simp [*]; done)), H', ⟨by first | omega | exact Nat.le_refl _⟩, ⟨by repeat (first | (with_reducible first | exact HB.out | apply below_alloc | apply pw_below_drewN | apply below_drew1 | refine below_set ?_ (IsS78.ge HI160.out)) | exact HB.out)⟩⟩
            · rw [if_neg c24] at H
              have c24b0 : (t167 == 0) = false := beq_eq_false_iff_ne.mpr c24
              have c24b1 : (t167 != 0) = true := bne_iff_ne.mpr c24
              have H' := Aside0.mk H
              clear H
              go_wp2_with (first | (go_at_call 32; (with_reducible refine (varint_In_End.calls g160 t165 t166 t167 t168 t169 w _ ?side1 ?side2 A23.out).mono ?_); (case side1 => repeat (first | (with_reducible first | exact HI160.out | apply IsS78.alloc | apply IsS78.drewN | apply IsS78.drew | apply IsS78.set_0 | apply IsS78.set_1) | exact HI160.out)); (case side2 => repeat (first | (with_reducible first | exact HB.out | apply below_alloc | apply pw_below_drewN | apply below_drew1 | refine below_set ?_ (IsS78.ge HI160.out)) | exact HB.out)); rintro e w38 ⟨rfl, hi, hb, hk⟩; have n0_ := Aside0.mk (hb); have n1_ := Aside0.mk (hi); clear HB; clear HI160; have HB := n0_; have HI160 := n1_; clear n0_ n1_; (try clear hb); (try clear hb2); (try clear hk); (try clear hi)))
              go_meet
              case rel => exact ⟨_, (true), (by first | rfl | (simp; done) | (simp [*]; done)), H', ⟨by first | omega | exact Nat.le_refl _⟩, ⟨by repeat (first | (with_reducible first | exact HB.out | apply below_alloc | apply pw_below_drewN | apply below_drew1 | refine below_set ?_ (IsS78.ge HI160.out)) | exact HB.out)⟩⟩
          · rw [if_neg c22] at H
            have c22b0 : (t164.toList == t155.toList) = false := beq_eq_false_iff_ne.mpr c22
            have c22b1 : (t164.toList != t155.toList) = true := bne_iff_ne.mpr c22
            have H' := Aside0.mk H
            clear H
            go_wp2
            go_meet
            case rel => exact ⟨_, (true), (by first | rfl | (simp; done) | (simp [*]; done)), H', ⟨by first | omega | exact Nat.le_refl _⟩, ⟨by repeat (first | (with_reducible first | exact HB.out | apply below_alloc | apply pw_below_drewN | apply below_drew1 | refine below_set ?_ (IsS78.ge HI160.out)) | exact HB.out)⟩⟩
        · rw [if_neg c21] at H
          have c21b0 : (t161.toList == t154.toList) = false := beq_eq_false_iff_ne.mpr c21
          have c21b1 : (t161.toList != t154.toList) = true := bne_iff_ne.mpr c21
          (first | rw [c21b0] | (simp only [i64_w, i32_w]; rw [c21b0]) | skip)
          have H' := Aside0.mk H
          clear H
          go_wp2
          go_meet
          case rel => exact ⟨_, (true), (by first | rfl | (simp; done) | (simp [*]; done)), H', ⟨by first | omega | exact Nat.le_refl _⟩, ⟨by repeat (first | (with_reducible first | exact HB.out | apply below_alloc | apply pw_below_drewN | apply below_drew1 | refine below_set ?_ (IsS78.ge HI160.out)) | exact HB.out)⟩⟩
      case rest =>
        clear HC14
        try clear c1
        try clear c2
        try clear p2
        try clear c4
        try clear c5
        try clear c10
        try clear c10b0
        try clear c10b1
        try clear c10b2
        try clear c11
        try clear c14
        try clear c21
        try clear c21b0
        try clear c21b1
        try clear c22
        try clear c22b0
        try clear c22b1
        try clear c24
        try clear c24b0
        try clear c24b1
        try clear c26
        try clear c26b0
        try clear c26b1
        try clear c27
        try clear c27b0
        try clear c27b1
        try clear c27b2
        try clear c29
        obtain ⟨kq, x64_13, rfl, HA, HJ13, HB⟩ := hcut
        cases kq with
        | zero => exact absurd HA.out (by simp [dowserlaw01_VarintTexts.j0])
        | succ kj13 =>
          have H := HA.out
          clear HA
          simp only [dowserlaw01_VarintTexts.j0] at H
          by_cases c39 : x64_13 = true
          · subst c39
            have H1 : (some false) = some r := by rw [if_pos rfl] at H; exact H
            clear H
            have H := H1
            clear H1
            obtain rfl := Option.some.inj H
            go_wp2
            go_ret
            exact ⟨by first | rfl | (simp [errW_none, errW_some] <;> rfl) | (simp [*, errW_none, errW_some] <;> rfl), by repeat (first | (with_reducible first | exact HB.out | apply below_alloc | apply pw_below_drewN | apply below_drew1) | exact HB.out)⟩
          · replace c39 := Bool.eq_false_iff.mpr c39
            subst c39
            have H1 : ((varint_Text.f kj13 t154).bind fun t171 => ((varint_Of.f t171).bind fun bt172 => ((varint_In_Text.f kj13 bt172.1 bt172.2 a2).bind fun bt175 => (if (t154.size : Int) > (mx a2 0) then (if bt175.1.toList = ([] : List UInt8) then ((varint_In_Err.f bt175.2.1 bt175.2.2).bind fun bt178 => (some (bt178.1 == 4))) else (some false)) else (if bt175.1.toList = t154.toList then ((varint_In_Err.f bt175.2.1 bt175.2.2).bind fun bt181 => (some (bt181.1 == 0))) else (some false)))))) = some r := by rw [if_neg (show ¬ (false = true) by decide)] at H; exact H
            clear H
            have H := H1
            clear H1
            replace H := Option.bind_eq_some_iff.mp H
            obtain ⟨t171, A400, H⟩ := H
            replace H : ((varint_Of.f t171).bind fun bt172 => ((varint_In_Text.f kj13 bt172.1 bt172.2 a2).bind fun bt175 => (if (t154.size : Int) > (mx a2 0) then (if bt175.1.toList = ([] : List UInt8) then ((varint_In_Err.f bt175.2.1 bt175.2.2).bind fun bt178 => (some (bt178.1 == 4))) else (some false)) else (if bt175.1.toList = t154.toList then ((varint_In_Err.f bt175.2.1 bt175.2.2).bind fun bt181 => (some (bt181.1 == 0))) else (some false))))) = some r := H
            have A40 := Aside0.mk A400
            clear A400
            replace H := Option.bind_eq_some_iff.mp H
            obtain ⟨⟨t172, t173⟩, A410, H⟩ := H
            replace H : ((varint_In_Text.f kj13 t172 t173 a2).bind fun bt175 => (if (t154.size : Int) > (mx a2 0) then (if bt175.1.toList = ([] : List UInt8) then ((varint_In_Err.f bt175.2.1 bt175.2.2).bind fun bt178 => (some (bt178.1 == 4))) else (some false)) else (if bt175.1.toList = t154.toList then ((varint_In_Err.f bt175.2.1 bt175.2.2).bind fun bt181 => (some (bt181.1 == 0))) else (some false)))) = some r := H
            have A41 := Aside0.mk A410
            clear A410
            replace H := Option.bind_eq_some_iff.mp H
            obtain ⟨⟨t175, t176, t177⟩, A420, H⟩ := H
            replace H : (if (t154.size : Int) > (mx a2 0) then (if t175.toList = ([] : List UInt8) then ((varint_In_Err.f t176 t177).bind fun bt178 => (some (bt178.1 == 4))) else (some false)) else (if t175.toList = t154.toList then ((varint_In_Err.f t176 t177).bind fun bt181 => (some (bt181.1 == 0))) else (some false))) = some r := H
            have A42 := Aside0.mk A420
            clear A420
            obtain ⟨ji43, hji43⟩ : ∃ j_ : Int, (mx a2 0) = j_ := ⟨_, rfl⟩
            replace H : (if (t154.size : Int) > (ji43) then (if t175.toList = ([] : List UInt8) then ((varint_In_Err.f t176 t177).bind fun bt178 => (some (bt178.1 == 4))) else (some false)) else (if t175.toList = t154.toList then ((varint_In_Err.f t176 t177).bind fun bt181 => (some (bt181.1 == 0))) else (some false))) = some r := by first | (rw [hji43] at H; exact H) | (simp only [hji43] at H ⊢; exact H)
            (try rw [hji43] at A40)
            (try rw [hji43] at A41)
            (try rw [hji43] at A42)
            have hji43_ : (if a2 < 0 then 0 else a2) = ji43 := hji43
            by_cases c44 : (t154.size : Int) > (ji43)
            · rw [if_pos c44] at H
              have c44b0 : decide ((ji43) < (t154.size : Int)) = true := decide_eq_true c44
              clear c44
              by_cases c45 : t175.toList = ([] : List UInt8)
              · rw [if_pos c45] at H
                have c45b0 : (t175.toList == ([] : List UInt8)) = true := beq_iff_eq.mpr c45
                have c45b1 : (t175.toList != ([] : List UInt8)) = false := bne_eq_false_iff_eq.mpr c45
                clear c45
                replace H := Option.bind_eq_some_iff.mp H
                obtain ⟨⟨t178, t179, t180⟩, A460, H⟩ := H
                replace H : (some (t178 == 4)) = some r := H
                have A46 := Aside0.mk A460
                clear A460
                obtain rfl := Option.some.inj H
                go_wp2_with (first | ((with_reducible refine gate_callee (f := 43) rfl ?_); refine goesL_ (some 66) rfl rfl Try.func43 (by kernel_rfl) rfl #[.string t154] rfl (by (try simp only [List.map_toArray, List.map_cons, List.map_nil]); first | done | rfl | (simp only [List.length_drop, List.length_take]; rfl)) ?_; (with_reducible refine (varint_Text.calls kj13 t154 t171 _ A40.out).mono ?_); rintro e w47 ⟨rfl, hb⟩; refine ⟨_, rfl, ?_⟩; have n0_ := Aside0.mk (below_step (by repeat (first | (with_reducible first | exact HB.out | apply below_alloc | apply pw_below_drewN | apply below_drew1) | exact HB.out)) hb); clear HB; have HB := n0_; clear n0_; (try clear hb); (try clear hb2); (try clear hk); (try clear hi)) | ((with_reducible refine gate_callee (f := 29) rfl ?_); refine goesL_ (some 67) rfl rfl Try.func29 (by kernel_rfl) rfl #[.string t171] rfl (by (try simp only [List.map_toArray, List.map_cons, List.map_nil]); first | done | rfl | (simp only [List.length_drop, List.length_take]; rfl)) ?_; (with_reducible refine (varint_Of.calls t171 t172 t173 w _ ?side1 A41.out).mono ?_); (case side1 => repeat (first | (with_reducible first | exact HB.out | apply below_alloc | apply pw_below_drewN | apply below_drew1) | exact HB.out)); rintro e w48 ⟨g174, rfl, hi, hb, hb2⟩; refine ⟨_, rfl, ?_⟩; have n0_ := Aside0.mk (hb); have n1_ := Aside0.mk (hi); clear HB; have HB := n0_; have HI174 := n1_; clear n0_ n1_; (try clear hb); (try clear hb2); (try clear hk); (try clear hi)) | ((with_reducible refine gate_callee (f := 44) rfl ?_); refine goesL_ (some 70) rfl rfl Try.func44 (by kernel_rfl) rfl #[.pointer (some ⟨g174, 0, none⟩), .int .i64 a2] rfl (by (try simp only [List.map_toArray, List.map_cons, List.map_nil]); first | done | rfl | (simp only [List.length_drop, List.length_take]; rfl)) ?_; (with_reducible refine (varint_In_Text.calls kj13 g174 t172 t173 a2 t175 t176 t177 w _ ?side1 ?side2 A42.out).mono ?_); (case side1 => repeat (first | (with_reducible first | exact HI174.out | apply IsS78.alloc | apply IsS78.drewN | apply IsS78.drew | apply IsS78.set_0 | apply IsS78.set_1) | exact HI174.out)); (case side2 => repeat (first | (with_reducible first | exact HB.out | apply below_alloc | apply pw_below_drewN | apply below_drew1 | refine below_set ?_ (IsS78.ge HI174.out)) | exact HB.out)); rintro e w49 ⟨rfl, hi, hb, hk⟩; refine ⟨_, rfl, ?_⟩; have n0_ := Aside0.mk (hb); have n1_ := Aside0.mk (hi); clear HB; clear HI174; have HB := n0_; have HI174 := n1_; clear n0_ n1_; (try clear hb); (try clear hb2); (try clear hk); (try clear hi)) | (go_at_call 46; (with_reducible refine (varint_In_Err.calls g174 t176 t177 t178 t179 t180 w _ ?side1 ?side2 A46.out).mono ?_); (case side1 => repeat (first | (with_reducible first | exact HI174.out | apply IsS78.alloc | apply IsS78.drewN | apply IsS78.drew | apply IsS78.set_0 | apply IsS78.set_1) | exact HI174.out)); (case side2 => repeat (first | (with_reducible first | exact HB.out | apply below_alloc | apply pw_below_drewN | apply below_drew1 | refine below_set ?_ (IsS78.ge HI174.out)) | exact HB.out)); rintro e w50 ⟨rfl, hi, hb, hk⟩; have n0_ := Aside0.mk (hb); have n1_ := Aside0.mk (hi); clear HB; clear HI174; have HB := n0_; have HI174 := n1_; clear n0_ n1_; (try clear hb); (try clear hb2); (try clear hk); (try clear hi)))
                go_ret
                exact ⟨by first | rfl | (simp [errW_none, errW_some] <;> rfl) | (simp only [← hji43]; first | rfl | (simp [errW_none, errW_some] <;> rfl)) | (simp [*, errW_none, errW_some] <;> rfl), by repeat (first | (with_reducible first | exact HB.out | apply below_alloc | apply pw_below_drewN | apply below_drew1 | refine below_set ?_ (IsS78.ge HI174.out)) | exact HB.out)⟩
              · rw [if_neg c45] at H
                have c45b0 : (t175.toList == ([] : List UInt8)) = false := beq_eq_false_iff_ne.mpr c45
                have c45b1 : (t175.toList != ([] : List UInt8)) = true := bne_iff_ne.mpr c45
                obtain rfl := Option.some.inj H
                go_wp2_with (first | ((with_reducible refine gate_callee (f := 43) rfl ?_); refine goesL_ (some 66) rfl rfl Try.func43 (by kernel_rfl) rfl #[.string t154] rfl (by (try simp only [List.map_toArray, List.map_cons, List.map_nil]); first | done | rfl | (simp only [List.length_drop, List.length_take]; rfl)) ?_; (with_reducible refine (varint_Text.calls kj13 t154 t171 _ A40.out).mono ?_); rintro e w51 ⟨rfl, hb⟩; refine ⟨_, rfl, ?_⟩; have n0_ := Aside0.mk (below_step (by repeat (first | (with_reducible first | exact HB.out | apply below_alloc | apply pw_below_drewN | apply below_drew1) | exact HB.out)) hb); clear HB; have HB := n0_; clear n0_; (try clear hb); (try clear hb2); (try clear hk); (try clear hi)) | ((with_reducible refine gate_callee (f := 29) rfl ?_); refine goesL_ (some 67) rfl rfl Try.func29 (by kernel_rfl) rfl #[.string t171] rfl (by (try simp only [List.map_toArray, List.map_cons, List.map_nil]); first | done | rfl | (simp only [List.length_drop, List.length_take]; rfl)) ?_; (with_reducible refine (varint_Of.calls t171 t172 t173 w _ ?side1 A41.out).mono ?_); (case side1 => repeat (first | (with_reducible first | exact HB.out | apply below_alloc | apply pw_below_drewN | apply below_drew1) | exact HB.out)); rintro e w52 ⟨g174, rfl, hi, hb, hb2⟩; refine ⟨_, rfl, ?_⟩; have n0_ := Aside0.mk (hb); have n1_ := Aside0.mk (hi); clear HB; have HB := n0_; have HI174 := n1_; clear n0_ n1_; (try clear hb); (try clear hb2); (try clear hk); (try clear hi)) | ((with_reducible refine gate_callee (f := 44) rfl ?_); refine goesL_ (some 70) rfl rfl Try.func44 (by kernel_rfl) rfl #[.pointer (some ⟨g174, 0, none⟩), .int .i64 a2] rfl (by (try simp only [List.map_toArray, List.map_cons, List.map_nil]); first | done | rfl | (simp only [List.length_drop, List.length_take]; rfl)) ?_; (with_reducible refine (varint_In_Text.calls kj13 g174 t172 t173 a2 t175 t176 t177 w _ ?side1 ?side2 A42.out).mono ?_); (case side1 => repeat (first | (with_reducible first | exact HI174.out | apply IsS78.alloc | apply IsS78.drewN | apply IsS78.drew | apply IsS78.set_0 | apply IsS78.set_1) | exact HI174.out)); (case side2 => repeat (first | (with_reducible first | exact HB.out | apply below_alloc | apply pw_below_drewN | apply below_drew1 | refine below_set ?_ (IsS78.ge HI174.out)) | exact HB.out)); rintro e w53 ⟨rfl, hi, hb, hk⟩; refine ⟨_, rfl, ?_⟩; have n0_ := Aside0.mk (hb); have n1_ := Aside0.mk (hi); clear HB; clear HI174; have HB := n0_; have HI174 := n1_; clear n0_ n1_; (try clear hb); (try clear hb2); (try clear hk); (try clear hi)))
                go_ret
                exact ⟨by first | rfl | (simp [errW_none, errW_some] <;> rfl) | (simp only [← hji43]; first | rfl | (simp [errW_none, errW_some] <;> rfl)) | (simp [*, errW_none, errW_some] <;> rfl), by repeat (first | (with_reducible first | exact HB.out | apply below_alloc | apply pw_below_drewN | apply below_drew1 | refine below_set ?_ (IsS78.ge HI174.out)) | exact HB.out)⟩
            · rw [if_neg c44] at H
              have c44b0 : decide ((ji43) < (t154.size : Int)) = false := decide_eq_false c44
              clear c44
              by_cases c54 : t175.toList = t154.toList
              · rw [if_pos c54] at H
                have c54b0 : (t175.toList == t154.toList) = true := beq_iff_eq.mpr c54
                have c54b1 : (t175.toList != t154.toList) = false := bne_eq_false_iff_eq.mpr c54
                clear c54
                replace H := Option.bind_eq_some_iff.mp H
                obtain ⟨⟨t181, t182, t183⟩, A550, H⟩ := H
                replace H : (some (t181 == 0)) = some r := H
                have A55 := Aside0.mk A550
                clear A550
                obtain rfl := Option.some.inj H
                go_wp2_with (first | ((with_reducible refine gate_callee (f := 43) rfl ?_); refine goesL_ (some 66) rfl rfl Try.func43 (by kernel_rfl) rfl #[.string t154] rfl (by (try simp only [List.map_toArray, List.map_cons, List.map_nil]); first | done | rfl | (simp only [List.length_drop, List.length_take]; rfl)) ?_; (with_reducible refine (varint_Text.calls kj13 t154 t171 _ A40.out).mono ?_); rintro e w56 ⟨rfl, hb⟩; refine ⟨_, rfl, ?_⟩; have n0_ := Aside0.mk (below_step (by repeat (first | (with_reducible first | exact HB.out | apply below_alloc | apply pw_below_drewN | apply below_drew1) | exact HB.out)) hb); clear HB; have HB := n0_; clear n0_; (try clear hb); (try clear hb2); (try clear hk); (try clear hi)) | ((with_reducible refine gate_callee (f := 29) rfl ?_); refine goesL_ (some 67) rfl rfl Try.func29 (by kernel_rfl) rfl #[.string t171] rfl (by (try simp only [List.map_toArray, List.map_cons, List.map_nil]); first | done | rfl | (simp only [List.length_drop, List.length_take]; rfl)) ?_; (with_reducible refine (varint_Of.calls t171 t172 t173 w _ ?side1 A41.out).mono ?_); (case side1 => repeat (first | (with_reducible first | exact HB.out | apply below_alloc | apply pw_below_drewN | apply below_drew1) | exact HB.out)); rintro e w57 ⟨g174, rfl, hi, hb, hb2⟩; refine ⟨_, rfl, ?_⟩; have n0_ := Aside0.mk (hb); have n1_ := Aside0.mk (hi); clear HB; have HB := n0_; have HI174 := n1_; clear n0_ n1_; (try clear hb); (try clear hb2); (try clear hk); (try clear hi)) | ((with_reducible refine gate_callee (f := 44) rfl ?_); refine goesL_ (some 70) rfl rfl Try.func44 (by kernel_rfl) rfl #[.pointer (some ⟨g174, 0, none⟩), .int .i64 a2] rfl (by (try simp only [List.map_toArray, List.map_cons, List.map_nil]); first | done | rfl | (simp only [List.length_drop, List.length_take]; rfl)) ?_; (with_reducible refine (varint_In_Text.calls kj13 g174 t172 t173 a2 t175 t176 t177 w _ ?side1 ?side2 A42.out).mono ?_); (case side1 => repeat (first | (with_reducible first | exact HI174.out | apply IsS78.alloc | apply IsS78.drewN | apply IsS78.drew | apply IsS78.set_0 | apply IsS78.set_1) | exact HI174.out)); (case side2 => repeat (first | (with_reducible first | exact HB.out | apply below_alloc | apply pw_below_drewN | apply below_drew1 | refine below_set ?_ (IsS78.ge HI174.out)) | exact HB.out)); rintro e w58 ⟨rfl, hi, hb, hk⟩; refine ⟨_, rfl, ?_⟩; have n0_ := Aside0.mk (hb); have n1_ := Aside0.mk (hi); clear HB; clear HI174; have HB := n0_; have HI174 := n1_; clear n0_ n1_; (try clear hb); (try clear hb2); (try clear hk); (try clear hi)) | (go_at_call 46; (with_reducible refine (varint_In_Err.calls g174 t176 t177 t181 t182 t183 w _ ?side1 ?side2 A55.out).mono ?_); (case side1 => repeat (first | (with_reducible first | exact HI174.out | apply IsS78.alloc | apply IsS78.drewN | apply IsS78.drew | apply IsS78.set_0 | apply IsS78.set_1) | exact HI174.out)); (case side2 => repeat (first | (with_reducible first | exact HB.out | apply below_alloc | apply pw_below_drewN | apply below_drew1 | refine below_set ?_ (IsS78.ge HI174.out)) | exact HB.out)); rintro e w59 ⟨rfl, hi, hb, hk⟩; have n0_ := Aside0.mk (hb); have n1_ := Aside0.mk (hi); clear HB; clear HI174; have HB := n0_; have HI174 := n1_; clear n0_ n1_; (try clear hb); (try clear hb2); (try clear hk); (try clear hi)))
                go_ret
                exact ⟨by first | rfl | (simp [errW_none, errW_some] <;> rfl) | (simp only [← hji43]; first | rfl | (simp [errW_none, errW_some] <;> rfl)) | (simp [*, errW_none, errW_some] <;> rfl), by repeat (first | (with_reducible first | exact HB.out | apply below_alloc | apply pw_below_drewN | apply below_drew1 | refine below_set ?_ (IsS78.ge HI174.out)) | exact HB.out)⟩
              · rw [if_neg c54] at H
                have c54b0 : (t175.toList == t154.toList) = false := beq_eq_false_iff_ne.mpr c54
                have c54b1 : (t175.toList != t154.toList) = true := bne_iff_ne.mpr c54
                obtain rfl := Option.some.inj H
                go_wp2_with (first | ((with_reducible refine gate_callee (f := 43) rfl ?_); refine goesL_ (some 66) rfl rfl Try.func43 (by kernel_rfl) rfl #[.string t154] rfl (by (try simp only [List.map_toArray, List.map_cons, List.map_nil]); first | done | rfl | (simp only [List.length_drop, List.length_take]; rfl)) ?_; (with_reducible refine (varint_Text.calls kj13 t154 t171 _ A40.out).mono ?_); rintro e w60 ⟨rfl, hb⟩; refine ⟨_, rfl, ?_⟩; have n0_ := Aside0.mk (below_step (by repeat (first | (with_reducible first | exact HB.out | apply below_alloc | apply pw_below_drewN | apply below_drew1) | exact HB.out)) hb); clear HB; have HB := n0_; clear n0_; (try clear hb); (try clear hb2); (try clear hk); (try clear hi)) | ((with_reducible refine gate_callee (f := 29) rfl ?_); refine goesL_ (some 67) rfl rfl Try.func29 (by kernel_rfl) rfl #[.string t171] rfl (by (try simp only [List.map_toArray, List.map_cons, List.map_nil]); first | done | rfl | (simp only [List.length_drop, List.length_take]; rfl)) ?_; (with_reducible refine (varint_Of.calls t171 t172 t173 w _ ?side1 A41.out).mono ?_); (case side1 => repeat (first | (with_reducible first | exact HB.out | apply below_alloc | apply pw_below_drewN | apply below_drew1) | exact HB.out)); rintro e w61 ⟨g174, rfl, hi, hb, hb2⟩; refine ⟨_, rfl, ?_⟩; have n0_ := Aside0.mk (hb); have n1_ := Aside0.mk (hi); clear HB; have HB := n0_; have HI174 := n1_; clear n0_ n1_; (try clear hb); (try clear hb2); (try clear hk); (try clear hi)) | ((with_reducible refine gate_callee (f := 44) rfl ?_); refine goesL_ (some 70) rfl rfl Try.func44 (by kernel_rfl) rfl #[.pointer (some ⟨g174, 0, none⟩), .int .i64 a2] rfl (by (try simp only [List.map_toArray, List.map_cons, List.map_nil]); first | done | rfl | (simp only [List.length_drop, List.length_take]; rfl)) ?_; (with_reducible refine (varint_In_Text.calls kj13 g174 t172 t173 a2 t175 t176 t177 w _ ?side1 ?side2 A42.out).mono ?_); (case side1 => repeat (first | (with_reducible first | exact HI174.out | apply IsS78.alloc | apply IsS78.drewN | apply IsS78.drew | apply IsS78.set_0 | apply IsS78.set_1) | exact HI174.out)); (case side2 => repeat (first | (with_reducible first | exact HB.out | apply below_alloc | apply pw_below_drewN | apply below_drew1 | refine below_set ?_ (IsS78.ge HI174.out)) | exact HB.out)); rintro e w62 ⟨rfl, hi, hb, hk⟩; refine ⟨_, rfl, ?_⟩; have n0_ := Aside0.mk (hb); have n1_ := Aside0.mk (hi); clear HB; clear HI174; have HB := n0_; have HI174 := n1_; clear n0_ n1_; (try clear hb); (try clear hb2); (try clear hk); (try clear hi)))
                go_ret
                exact ⟨by first | rfl | (simp [errW_none, errW_some] <;> rfl) | (simp only [← hji43]; first | rfl | (simp [errW_none, errW_some] <;> rfl)) | (simp [*, errW_none, errW_some] <;> rfl), by repeat (first | (with_reducible first | exact HB.out | apply below_alloc | apply pw_below_drewN | apply below_drew1 | refine below_set ?_ (IsS78.ge HI174.out)) | exact HB.out)⟩
    · rw [if_neg c10] at H
      exact absurd H (by simp)
  · replace c5 := Bool.eq_false_iff.mpr c5
    subst c5
    have H1 : (some false) = some r := by rw [if_neg (show ¬ (false = true) by decide)] at H; exact H
    clear H
    have H := H1
    clear H1
    obtain rfl := Option.some.inj H
    go_enter Try.func11, Try.ntmps11
    go_wp2_with (first | ((with_reducible refine gate_callee (f := 27) rfl ?_); refine goesL_ (some 12) rfl rfl Try.func27 (by kernel_rfl) rfl #[] rfl (by (try simp only [List.map_toArray, List.map_cons, List.map_nil]); first | done | rfl | (simp only [List.length_drop, List.length_take]; rfl)) ?_; (with_reducible refine (dowserlaw01_awake.calls k  false _ A4.out).mono ?_); rintro e w63 ⟨rfl, hb⟩; refine ⟨_, rfl, ?_⟩; have n0_ := Aside0.mk (below_step (by repeat (first | (with_reducible first | exact HB.out | apply below_alloc | apply pw_below_drewN | apply below_drew1) | exact HB.out)) hb); clear HB; have HB := n0_; clear n0_; (try clear hb); (try clear hb2); (try clear hk); (try clear hi)))
    go_ret
    exact ⟨by first | rfl | (simp [errW_none, errW_some] <;> rfl) | (simp [*, errW_none, errW_some] <;> rfl), by repeat (first | (with_reducible first | exact HB.out | apply below_alloc | apply pw_below_drewN | apply below_drew1) | exact HB.out)⟩

/-- THE ONE PURE STATEMENT of dowserlaw01_VarintTexts: yours. -/
def dowserlaw01_VarintTexts.Pure : Prop := ∀ (a0 : ByteArray) (a1 : ByteArray) (a2 : Int), a0.size ≤ 140737488351232 → a1.size ≤ 140737488351232 → (Lit.int .i64 a2).wf = true → ∃ k, dowserlaw01_VarintTexts.f k a0 a1 a2 = some true
theorem dowserlaw01_VarintTexts.walk (P : dowserlaw01_VarintTexts.Pure) (a0 : ByteArray) (a1 : ByteArray) (a2 : Int) (w : World) (w0 : a0.size ≤ 140737488351232) (w1 : a1.size ≤ 140737488351232) (w2 : (Lit.int .i64 a2).wf = true) :
    Calls Try.prog 11 #[.string a0, .string a1, .int .i64 a2] w fun e w' => e = .returned (.bool true) ∧ Below w.heap.size w w' := by
  obtain ⟨k, h⟩ := P a0 a1 a2 w0 w1 w2
  refine (dowserlaw01_VarintTexts.calls k a0 a1 a2 true w h).mono ?_
  rintro e w' ⟨rfl, hd⟩
  exact ⟨rfl, hd⟩

end Go.Proofs.Ytfkgidiedpkbdaa.PA

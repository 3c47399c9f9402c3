-- Written by this session's own program wip/bin/dprint.py, over the kit's print.py, with own texts for some functions: no print of print.sh's
import Derived.Test.YtgjncbnjgmfjeaaPAx0
import Derived.Test.YtgjncbnjgmfjeaaPAx2
namespace Go.Proofs.Ytgjncbnjgmfjeaa.PA
open Go.RowKit Go.Proofs.YtgjncbnjgmfjeaaW.PrintWords Go.Proofs.YtgjncbnjgmfjeaaW.PrintLast Go.Proofs.YtgjncbnjgmfjeaaW.PrintMore
attribute [local go_sem] max2_int min2_int max_two min_two max_three min_three max_four min_four   -- for this text's walks alone
set_option linter.unusedVariables false
set_option linter.unusedSimpArgs false


/-! ### ids_Both: function 12 (own text) -/
section
theorem clBoth (p q : Bool) (W : World) : Calls Try.prog 29 #[.bool p, .bool q] W fun e W' => e = .returned (.bool (p && q)) ∧ Drawn0 W W' := by
  cases p <;> cases q
  all_goals (go_enter Try.func29, Try.ntmps29; go_wp2; go_ret; exact ⟨rfl, Drawn0.refl _⟩)
def ids_Both.f (l0 l1 : List Int) : Option (List Int) := if l0.length + l1.length ≤ 1000000 then some (pickL (fun p q => p && q) l0 l1) else none
set_option maxHeartbeats 1000000 in
set_option maxRecDepth 100000 in
theorem ids_Both.calls (A0 : Option Addr) (c0 : Nat) (l0 : List Int) (A1 : Option Addr) (c1 : Nat) (l1 : List Int) (r : List Int) (w : World) (hr0 : Kd.C (Kd.int .i64) w A0 l0.length l0) (hc0 : l0.length ≤ c0) (hr1 : Kd.C (Kd.int .i64) w A1 l1.length l1) (hc1 : l1.length ≤ c1) (h : ids_Both.f l0 l1 = some r) :
    Calls Try.prog 12 #[.slice A0 l0.length c0, .slice A1 l1.length c1] w fun e w' => ∃ v0_ : Value, e = .returned v0_ ∧ Kd.R (Kd.int .i64) 3 w' w.heap.size (fun _ => True) v0_ r ∧ Below w.heap.size w w' := by
  unfold ids_Both.f at h
  by_cases hm : l0.length + l1.length ≤ 1000000
  · rw [if_pos hm] at h
    obtain rfl := Option.some.inj h
    have HP := Aside0.mk (pickCalls 29 (fun p q => p && q) (fun args w => enters_of Try.func29 (by kernel_rfl) rfl args w) (fun p q W => clBoth p q W) A0 c0 l0 A1 c1 l1 w hr0 hc0 hr1 hc1 hm)
    clear h hr0 hc0 hr1 hc1 hm
    go_enter Try.func12, Try.ntmps12
    go_wp2_with (first | (go_at_call 27; refine HP.out.mono ?_; rintro e w2 ⟨v, rfl, hR, hb⟩; have N0 := Aside0.mk hR; have N1 := Aside0.mk hb; clear hR hb))
    go_ret
    exact ⟨_, rfl, N0.out, N1.out⟩
  · rw [if_neg hm] at h; cases h
end


/-! ### ids_Minus: function 13 (own text) -/
section
theorem clMinus (p q : Bool) (W : World) : Calls Try.prog 30 #[.bool p, .bool q] W fun e W' => e = .returned (.bool (!q)) ∧ Drawn0 W W' := by
  cases p <;> cases q
  all_goals (go_enter Try.func30, Try.ntmps30; go_wp2; go_ret; exact ⟨rfl, Drawn0.refl _⟩)
def ids_Minus.f (l0 l1 : List Int) : Option (List Int) := if l0.length + l1.length ≤ 1000000 then some (pickL (fun _ q => !q) l0 l1) else none
set_option maxHeartbeats 1000000 in
set_option maxRecDepth 100000 in
theorem ids_Minus.calls (A0 : Option Addr) (c0 : Nat) (l0 : List Int) (A1 : Option Addr) (c1 : Nat) (l1 : List Int) (r : List Int) (w : World) (hr0 : Kd.C (Kd.int .i64) w A0 l0.length l0) (hc0 : l0.length ≤ c0) (hr1 : Kd.C (Kd.int .i64) w A1 l1.length l1) (hc1 : l1.length ≤ c1) (h : ids_Minus.f l0 l1 = some r) :
    Calls Try.prog 13 #[.slice A0 l0.length c0, .slice A1 l1.length c1] w fun e w' => ∃ v0_ : Value, e = .returned v0_ ∧ Kd.R (Kd.int .i64) 3 w' w.heap.size (fun _ => True) v0_ r ∧ Below w.heap.size w w' := by
  unfold ids_Minus.f at h
  by_cases hm : l0.length + l1.length ≤ 1000000
  · rw [if_pos hm] at h
    obtain rfl := Option.some.inj h
    have HP := Aside0.mk (pickCalls 30 (fun _ q => !q) (fun args w => enters_of Try.func30 (by kernel_rfl) rfl args w) (fun p q W => clMinus p q W) A0 c0 l0 A1 c1 l1 w hr0 hc0 hr1 hc1 hm)
    clear h hr0 hc0 hr1 hc1 hm
    go_enter Try.func13, Try.ntmps13
    go_wp2_with (first | (go_at_call 27; refine HP.out.mono ?_; rintro e w2 ⟨v, rfl, hR, hb⟩; have N0 := Aside0.mk hR; have N1 := Aside0.mk hb; clear hR hb))
    go_ret
    exact ⟨_, rfl, N0.out, N1.out⟩
  · rw [if_neg hm] at h; cases h
end

end Go.Proofs.Ytgjncbnjgmfjeaa.PA

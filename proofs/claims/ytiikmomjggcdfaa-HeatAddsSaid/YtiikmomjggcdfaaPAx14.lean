-- Written by this session's own program wip/bin/dprint.py, over the kit's print.py, with own texts for some functions: no print of print.sh's
import Derived.Test.YtiikmomjggcdfaaPAx0
import Derived.Test.YtiikmomjggcdfaaPAx4
import Derived.Test.YtiikmomjggcdfaaPAx6
import Derived.Test.YtiikmomjggcdfaaPAx8
import Derived.Test.YtiikmomjggcdfaaPAx11
import Derived.Test.YtiikmomjggcdfaaPAx12
import Derived.Test.YtiikmomjggcdfaaPAx13
namespace Go.Proofs.Ytiikmomjggcdfaa.PA
open Go.RowKit Go.Proofs.YtiikmomjggcdfaaW.PrintWords Go.Proofs.YtiikmomjggcdfaaW.PrintLast Go.Proofs.YtiikmomjggcdfaaW.PrintMore
attribute [local go_sem] max2_int min2_int max_two min_two max_three min_three max_four min_four   -- for this text's walks alone
set_option linter.unusedVariables false
set_option linter.unusedSimpArgs false


/-! ### dowserlaw03_HeatSums: function 6 (own text) -/
section
/-- One heat, or both none. -/
def eqv (v u : Nat) : Prop := v = u ∨ isNan v ∧ isNan u
theorem nanRead (v : Nat) (h : isNan v) : Ieee.double.read v = .nan (v / Ieee.double.signWeight % 2 == 1) (v % Ieee.double.signWeight - Ieee.double.infRung) := by
  have e1 : Ieee.double.signWeight = 9223372036854775808 := rfl
  have e2 : Ieee.double.infRung = 9218868437227405312 := rfl
  have e3 : Ieee.double.binade = 4503599627370496 := rfl
  unfold Ieee.Format.read
  obtain ⟨h1, _⟩ := h
  rw [e1, e2, e3]
  simp only
  rw [if_neg (by omega), if_neg (by omega), if_neg (by omega)]
theorem add_nan (v y : Nat) (h : isNan v) : Ieee.double.add v y = none := by
  unfold Ieee.Format.add
  rw [nanRead v h]
  rfl
theorem nan0 : isNan 9221120237041090561 := by unfold isNan; omega
theorem eqv_add {v u y v' : Nat} (h : eqv v u) (hv : addOut v y v') : eqv v' (addN u y) := by
  rcases h with rfl | ⟨h1, h2⟩
  · rcases hv with hv | ⟨hv, hn⟩
    · left; unfold addN; rw [hv]
    · right; unfold addN; rw [hv]; exact ⟨hn, nan0⟩
  · rcases hv with hv | ⟨hv, hn⟩
    · rw [add_nan v y h1] at hv; cases hv
    · right; unfold addN; rw [add_nan u y h2]; exact ⟨hn, nan0⟩
theorem eqv_bits {v u : Nat} (h : eqv v u) : dowserref03_Bits.f v = dowserref03_Bits.f u := by
  rcases h with rfl | ⟨h1, h2⟩
  · rfl
  · unfold dowserref03_Bits.f
    rw [nanNot v h1, nanNot u h2]
    rfl
/-- The sum of the first i, one by one. -/
def sumTo (l : List Nat) : Nat → Nat
  | 0 => 0
  | 1 => rdOf (0 : Nat) l 0
  | i + 2 => addN (sumTo l (i + 1)) (rdOf (0 : Nat) l ((i + 1 : Nat) : Int))
theorem sumTo_next (l : List Nat) (i : Nat) (h : i ≠ 0) : sumTo l (i + 1) = addN (sumTo l i) (rdOf (0 : Nat) l (i : Int)) := by
  obtain ⟨j, rfl⟩ : ∃ j, i = j + 1 := ⟨i - 1, by omega⟩
  rfl
def dowserlaw03_HeatSums.f (k : Nat) (l0 : List Int) : Option Bool :=
  (dowserlaw03_awake.f).bind fun u0 => if u0 = true then
    (dowserlaw03_floats.f k l0).bind fun x => (heat_Sum.f k x).bind fun s => (dowserref03_Bits.f (sumTo x x.length)).bind fun b => if (s : Int) = b then some true else none
  else none
theorem dowserlaw03_HeatSums.mono : ∀ l0 k, LeO (dowserlaw03_HeatSums.f k l0) (dowserlaw03_HeatSums.f (k + 1) l0) := by
  intro l0 k
  unfold dowserlaw03_HeatSums.f
  exact LeO.bind (LeO.refl _) (fun _ => LeO.ite (LeO.bind (dowserlaw03_floats.mono _ _) (fun _ => LeO.bind (heat_Sum.mono _ _) (fun _ => LeO.refl _))) (LeO.refl _))
set_option maxHeartbeats 8000000 in
set_option maxRecDepth 100000 in
theorem dowserlaw03_HeatSums.calls (k : Nat) (A0 : Option Addr) (c0 : Nat) (l0 : List Int) (r : Bool) (w : World) (hr0 : Kd.C (Kd.int .u64) w A0 l0.length l0) (hc0 : l0.length ≤ c0) (h : dowserlaw03_HeatSums.f k l0 = some r) :
    Calls Try.prog 6 #[.slice A0 l0.length c0] w fun e w' => e = .returned (.bool r) ∧ Below w.heap.size w w' := by
  unfold dowserlaw03_HeatSums.f at h
  obtain ⟨u0, H0, h1⟩ := Option.bind_eq_some_iff.mp h
  clear h
  cases u0 with
  | false => rw [if_neg (by decide)] at h1; cases h1
  | true =>
  rw [if_pos rfl] at h1
  obtain ⟨x, H1, h2⟩ := Option.bind_eq_some_iff.mp h1
  obtain ⟨s, H2, h3⟩ := Option.bind_eq_some_iff.mp h2
  obtain ⟨b, H3, h4⟩ := Option.bind_eq_some_iff.mp h3
  clear h1 h2 h3
  by_cases c1 : (s : Int) = b
  case neg => rw [if_neg c1] at h4; cases h4
  rw [if_pos c1] at h4
  obtain rfl := Option.some.inj h4
  subst c1
  clear h4
  have A0_ := Aside0.mk H0
  have A1 := Aside0.mk H1
  have A2 := Aside0.mk H2
  have A3 := Aside0.mk H3
  have HR0 := Aside0.mk hr0
  have HC0 := Aside0.mk hc0
  clear H0 H1 H2 H3 hr0 hc0
  have hxt20 : ∀ (b_ : Nat) (w_ : World), (callFunc 20 #[.float .f64 b_]).run Try.prog w_ = .ok (.value (.int .u64 (b_ : Int))) w_ := fun b_ w_ => by rw [run_callFunc_extern (fn := Try.f20) (e := Extern.MathFloatBits.float64bits) (by kernel_rfl) (by rfl) (by rfl) (by kernel_rfl) (by kernel_rfl)]; rfl
  go_enter Try.func6, Try.ntmps6
  go_wp2_with (first | (go_at_call 9; refine (dowserlaw03_awake.calls true _ A0_.out).mono ?_; rintro e w1 ⟨rfl, hb⟩; have HB := Aside0.mk hb; clear hb) | (go_at_call 14; refine (dowserlaw03_floats.calls k A0 c0 l0 x _ ?s1 HC0.out A1.out).mono ?_; (case s1 => exact Kd.C_below HR0.out HB.out); rintro e w2 ⟨v0, rfl, hR, hb2⟩; have HB2 := Aside0.mk (HB.out.trans (hb2.mono HB.out.size)); obtain ⟨A2_, c2, rfl, hc2, hr2⟩ := Kd.R_reads hR; have HR2 := Aside0.mk hr2; have HC2 := Aside0.mk hc2; clear hR hb2 hr2 hc2 HB))
  obtain ⟨N, hN⟩ : ∃ N : Nat, N = x.length := ⟨_, rfl⟩
  have hNm : N ≤ 9223372036854775807 := by rw [hN]; exact Kd.C_max HR2.out
  have HN := Aside0.mk hN
  have hsum : ∀ W, Below w2.heap.size w2 W → Calls Try.prog 21 #[.slice A2_ N c2] W fun e w' => e = .returned (.float .f64 s) ∧ Drawn0 W w' := fun W hW => by
    rw [hN]; exact heat_Sum.calls k A2_ c2 x s _ (Kd.C_below HR2.out hW) HC2.out A2.out
  have HSUM := Aside0.mk hsum
  rw [← hN]
  clear hN hsum
  go_loopg [4, 13] N (fun kq v4 v13 w' => ∃ (i v : Nat), v13 = .int .i64 (i : Int) ∧ v4 = .float .f64 v ∧ i ≤ N ∧ kq = N - i ∧ Aside0 (eqv v (sumTo x i)) ∧ ∃ n, w' = w2.drewN n)
  case atStart => exact ⟨0, 0, rfl, rfl, by omega, by omega, ⟨.inl rfl⟩, 0, rfl⟩
  case round =>
    obtain ⟨i, v, rfl, rfl, hi, hk, hv, n, rfl⟩ := hrel
    by_cases hlt : i < N
    · have hltz : (i : Int) < (N : Int) := by omega
      have hilt : (i : Int) < 9223372036854775807 := by omega
      obtain ⟨ad, e1, hx⟩ := at_kFloat (Kd.C_below HR2.out (pw_below_drewN (Below.refl _ _) n)) (i : Int) (by omega) (by have := HN.out; omega)
      subst e1
      rw [Int.toNat_natCast] at hx
      by_cases h0 : i = 0
      · subst h0
        have hx0 : (w2.drewN n).cell? ad = some (.float .f64 (rdOf (0 : Nat) x 0)) := by simpa [Addr.add] using hx
        clear hx
        have hz : Aside0 (eqv (rdOf (0 : Nat) x 0) (sumTo x 1)) := ⟨.inl rfl⟩
        go_wp2
        go_roundg (N - 1)
        case measure => omega
        case rel => exact ⟨1, _, rfl, rfl, by omega, rfl, hz, _, rfl⟩
      · have h0z : ¬ (i : Int) = 0 := by omega
        have h0d : decide ((i : Int) = 0) = false := decide_eq_false h0z
        have hs : Aside0 (sumTo x (i + 1) = addN (sumTo x i) (rdOf (0 : Nat) x (i : Int))) := ⟨sumTo_next x i h0⟩
        have H0_ := Aside0.mk h0
        clear h0 h0d hilt
        go_wp2_with fail
        obtain ⟨v2, nd, he, hv2⟩ := addRun Try.prog 24 v (rdOf (0 : Nat) x (i : Int)) (w2.drewN n)
        rw [he]
        simp only [Result.andThen]
        rw [Oper.upon_value]
        have hq : eqv v2 (sumTo x (i + 1)) := by rw [hs.out]; exact eqv_add hv.out hv2
        have HQ := Aside0.mk hq
        clear hq he hv2 hx
        go_wp2
        go_roundg (N - (i + 1))
        case measure => omega
        case rel => exact ⟨i + 1, _, by go_num, rfl, by omega, rfl, HQ, _, rfl⟩
    · have hltz : ¬ (i : Int) < (N : Int) := by omega
      obtain rfl : i = N := by omega
      have hb : dowserref03_Bits.f v = some (s : Int) := (eqv_bits hv.out).trans (HN.out ▸ A3.out)
      have HBt := Aside0.mk hb
      clear hb
      go_wp2_with (first | (go_at_call 21; refine (HSUM.out _ (pw_below_drewN (Below.refl _ _) _)).mono ?_; rintro e w' ⟨rfl, ⟨nd1, rfl⟩⟩) | (go_at_call 13; (with_reducible refine (dowserref03_Bits.calls v (s : Int) _ HBt.out).mono ?_); rintro e w' ⟨rfl, ⟨nd5, rfl⟩⟩))
      go_ret
      exact ⟨by simp, by repeat (first | exact HB2.out | apply pw_below_drewN)⟩
end

/-- THE ONE PURE STATEMENT of dowserlaw03_HeatSums: yours. -/
def dowserlaw03_HeatSums.Pure : Prop := ∀ (l0 : List Int), l0.length ≤ maxLen → l0.length * 8 ≤ 140737488351232 → (∀ x ∈ l0, (Lit.int .u64 x).wf = true) → ∃ k, dowserlaw03_HeatSums.f k l0 = some true
theorem dowserlaw03_HeatSums.walk (P : dowserlaw03_HeatSums.Pure) (a0 : Option Addr) (len0 cap0 : Nat) (z0 : List Int) (w : World) (w0 : (a0 = none ∧ len0 = 0 ∧ cap0 = 0 ∧ z0 = []) ∨ ∃ x, a0 = some x ∧ len0 ≤ cap0 ∧ cap0 ≤ maxLen ∧ z0.length = cap0 ∧ (∀ i, i < z0.length → w.cell? (x.add i) = some (.int .u64 (z0.getD i 0))) ∧ ∀ n ∈ z0, (Lit.int .u64 n).wf = true) (y0 : len0 * 8 ≤ 140737488351232) :
    Calls Try.prog 6 #[.slice a0 len0 cap0] w fun e w' => e = .returned (.bool true) ∧ Below w.heap.size w w' := by
  obtain ⟨l0, rfl, hr0, hm0, hw0, hc0⟩ := ReadsInt.ofRowC w0
  obtain ⟨k, h⟩ := P l0 hm0 y0 hw0
  refine (dowserlaw03_HeatSums.calls k _ _ l0 true w (Kd.C_of_reads (d := (0 : Int)) (h1 := fun _ => rfl) hr0) hc0 h).mono ?_
  rintro e w' ⟨rfl, hd⟩
  exact ⟨rfl, hd⟩

/-! ### heat_Of: function 24 -/
def heat_Of.f (a0 : Int) : Option (Nat) := (heat_Canon.f a0.toNat).bind fun t176 => (some t176)
set_option maxHeartbeats 40000000 in
set_option maxRecDepth 100000 in
theorem heat_Of.calls (a0 : Int) (r : Nat) (w : World) (h : heat_Of.f a0 = some r) :
    Calls Try.prog 24 #[.int .u64 a0] w fun e w' => e = .returned (.float .f64 r) ∧ Drawn0 w w' := by
  have H : ((heat_Canon.f a0.toNat).bind fun t176 => (some t176)) = some r := h
  clear h
  replace H := Option.bind_eq_some_iff.mp H
  obtain ⟨t176, A20, H⟩ := H
  replace H : (some t176) = some r := H
  have A2 := Aside0.mk A20
  clear A20
  obtain rfl := Option.some.inj H
  have hxt10 : ∀ (b_ : Int) (w_ : World), (callFunc 10 #[.int .u64 b_]).run Try.prog w_ = .ok (.value (.float .f64 b_.toNat)) w_ := fun b_ w_ => by rw [run_callFunc_extern (fn := Try.f10) (e := Extern.MathFloatBits.float64frombits) (by kernel_rfl) (by rfl) (by rfl) (by kernel_rfl) (by kernel_rfl)]; rfl
  go_enter Try.func24, Try.ntmps24
  go_wp2_with (first | ((with_reducible refine gate_callee (f := 23) rfl ?_); refine goesL_ (some 5) rfl rfl Try.func23 (by kernel_rfl) rfl #[.float .f64 a0.toNat] rfl (by (try simp only [List.map_toArray, List.map_cons, List.map_nil]); first | done | rfl | (simp only [List.length_drop, List.length_take]; rfl)) ?_; (with_reducible refine (heat_Canon.calls a0.toNat t176 _ A2.out).mono ?_); rintro e w' ⟨rfl, ⟨nd, rfl⟩⟩; refine ⟨_, rfl, ?_⟩))
  go_ret
  exact ⟨by first | rfl | (simp; done) | (simp [*]; done) | (simp; rw [Bool.eq_iff_iff]; simp; done), by repeat (first | exact Drawn0.refl _ | apply Drawn0.step)⟩

end Go.Proofs.Ytiikmomjggcdfaa.PA

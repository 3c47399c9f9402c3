-- Written by this session's own program wip/bin/dprint.py, over the kit's print.py, with own texts for some functions: no print of print.sh's
import Derived.Test.YtgjncbnjgmfjeaaPAx0
import Derived.Test.YtgjncbnjgmfjeaaPAx2
import Derived.Test.YtgjncbnjgmfjeaaPAx14
import Derived.Test.YtgjncbnjgmfjeaaPAx15
import Derived.Test.YtgjncbnjgmfjeaaPAx17
import Derived.Test.YtgjncbnjgmfjeaaPAx18
import Derived.Test.YtgjncbnjgmfjeaaPAx19
import Derived.Test.YtgjncbnjgmfjeaaPAx21
import Derived.Test.YtgjncbnjgmfjeaaPAx27
import Derived.Test.YtgjncbnjgmfjeaaPAx28
import Derived.Test.YtgjncbnjgmfjeaaPAx31
import Derived.Test.YtgjncbnjgmfjeaaPAx32
namespace Go.Proofs.Ytgjncbnjgmfjeaa.PA
open Go.RowKit Go.Proofs.YtgjncbnjgmfjeaaW.PrintWords Go.Proofs.YtgjncbnjgmfjeaaW.PrintLast Go.Proofs.YtgjncbnjgmfjeaaW.PrintMore
attribute [local go_sem] max2_int min2_int max_two min_two max_three min_three max_four min_four   -- for this text's walks alone
set_option linter.unusedVariables false
set_option linter.unusedSimpArgs false


/-! ### dowserlaw04_IdsTwo: function 6 (own text) -/
section
/-- A row of n whole numbers, whatever they are, in a block from B on (or of none). -/
def Live (B : Nat) (v : Value) (n : Nat) (W : World) : Prop := (n = 0 ∧ ∃ A c, v = .slice A 0 c) ∨ ∃ g cap cur, v = .slice (some ⟨g, 0, none⟩) n cap ∧ B ≤ g ∧ W.heap[g]? = some (.cells cur 3 (0, 0)) ∧ ∀ j, j < n → ∃ z, cur[j]? = some (.int .i64 z)
theorem Live.set {B : Nat} {v : Value} {n : Nat} {W : World} (h : Live B v n W) (g j : Nat) (z : Int) : Live B v n (W.setCell ⟨g, j, none⟩ (.int .i64 z)) := by
  rcases h with h | ⟨g', cap, cur, h1, h2, h3, h4⟩
  · exact .inl h
  · refine .inr ⟨g', cap, if g = g' then cur.setIfInBounds j (.int .i64 z) else cur, h1, h2, ?_, fun q hq => ?_⟩
    · simp only [World.setCell, Array.getElem?_modify, h3]
      by_cases e : g = g'
      · simp [e]
      · simp [e]
    · obtain ⟨y, hy⟩ := h4 q hq
      split
      · rw [Array.getElem?_setIfInBounds]
        split
        · rename_i e; subst e
          have : j < cur.size := (Array.getElem?_eq_some_iff.1 hy).1
          exact ⟨z, by simp [this]⟩
        · exact ⟨y, hy⟩
      · exact ⟨y, hy⟩
theorem Live.drewN {B : Nat} {v : Value} {n : Nat} {W : World} (h : Live B v n W) (m : Nat) : Live B v n (W.drewN m) := h
theorem Live.of_R {B base : Nat} {v : Value} {xs : List Int} {W : World} (h : Kd.R (Kd.int .i64) 3 W base (fun _ => True) v xs) (hB : B ≤ base) : Live B v xs.length W := by
  have hown : W.ownsRow base 3 1 v xs.length (xs.map (Value.int .i64)) := Kd.own_of_R h
  rcases hown.2 with ⟨rfl, h0⟩ | ⟨g, cap, cur, rfl, hbase, hb, h1, h2, h3, h4⟩
  · exact .inl ⟨h0, none, 0, rfl⟩
  · refine .inr ⟨g, cap, cur, rfl, by omega, hb, fun j hj => ?_⟩
    have hj2 : (cur.toList.take (xs.length * 1))[j]? = (xs.map (Value.int .i64))[j]? := by rw [h4]
    rw [List.getElem?_take_of_lt (by omega), List.getElem?_map, List.getElem?_eq_getElem hj, Array.getElem?_toList] at hj2
    exact ⟨_, hj2⟩
theorem Live.at {B : Nat} {v : Value} {n : Nat} {W : World} (h : Live B v n W) (hn : 0 < n) : ∃ g cap, v = .slice (some ⟨g, 0, none⟩) n cap ∧ B ≤ g ∧ (∃ cur, W.heap[g]? = some (.cells cur 3 (0, 0))) ∧ ∀ j, j < n → ∃ z, W.cell? ⟨g, j, none⟩ = some (.int .i64 z) ∧ W.frozen? ⟨g, j, none⟩ = false := by
  rcases h with h | ⟨g, cap, cur, h1, h2, h3, h4⟩
  · omega
  · refine ⟨g, cap, h1, h2, ⟨cur, h3⟩, fun j hj => ?_⟩
    obtain ⟨z, hz⟩ := h4 j hj
    exact ⟨z, by simp [World.cell?, h3, hz], by simp [World.frozen?, h3]⟩
/-- What stays while numbers are written into the three rows. -/
structure Rows3 (B : Nat) (wb : World) (gs : Nat) (v1 v2 v3 : Value) (n1 n2 n3 : Nat) (W : World) : Prop where
  below : Below B wb W
  gsB : B ≤ gs
  l1 : Live B v1 n1 W
  l2 : Live B v2 n2 W
  l3 : Live B v3 n3 W
  box : W.heap[gs]? = some (.cells #[v1, v2, v3] 22 (0, 0))
theorem Rows3.put {B : Nat} {wb : World} {gs : Nat} {v1 v2 v3 : Value} {n1 n2 n3 : Nat} {W : World} (h : Rows3 B wb gs v1 v2 v3 n1 n2 n3 W) {g : Nat} (hg : B ≤ g) (hb : ∃ cur, W.heap[g]? = some (.cells cur 3 (0, 0))) (j : Nat) (z : Int) : Rows3 B wb gs v1 v2 v3 n1 n2 n3 (W.setCell ⟨g, j, none⟩ (.int .i64 z)) := by
  refine ⟨h.below.setCell (p := ⟨g, j, none⟩) hg _, h.gsB, h.l1.set _ _ _, h.l2.set _ _ _, h.l3.set _ _ _, ?_⟩
  obtain ⟨cur, hc⟩ := hb
  have hne : gs ≠ g := by
    intro e; subst e
    have := hc.symm.trans h.box
    injection this with this
    injection this with _ this
    cases this
  rw [Below.heap_setCell W ⟨g, j, none⟩ _ gs hne]
  exact h.box
theorem Rows3.drewN {B : Nat} {wb : World} {gs : Nat} {v1 v2 v3 : Value} {n1 n2 n3 : Nat} {W : World} (h : Rows3 B wb gs v1 v2 v3 n1 n2 n3 W) (m : Nat) : Rows3 B wb gs v1 v2 v3 n1 n2 n3 (W.drewN m) :=
  ⟨pw_below_drewN h.below m, h.gsB, h.l1, h.l2, h.l3, h.box⟩
theorem Rows3.cell {B : Nat} {wb : World} {gs : Nat} {v1 v2 v3 : Value} {n1 n2 n3 : Nat} {W : World} (h : Rows3 B wb gs v1 v2 v3 n1 n2 n3 W) : W.cell? ⟨gs, 0, none⟩ = some v1 ∧ W.cell? ⟨gs, 1, none⟩ = some v2 ∧ W.cell? ⟨gs, 2, none⟩ = some v3 := by
  have hb := h.box
  exact ⟨by simp [World.cell?, hb], by simp [World.cell?, hb], by simp [World.cell?, hb]⟩
def dowserlaw04_IdsTwo.f (k : Nat) (l0 l1 : List Int) : Option Bool :=
  (dowserlaw04_awake.f k).bind fun t0 => if t0 = true then
    (dowserref04_Of.f k (l0.take 40)).bind fun a =>
    (dowserref04_Of.f k (l1.take 40)).bind fun b =>
    (ids_Union.f a b).bind fun u =>
    (ids_Both.f a b).bind fun o =>
    (ids_Minus.f a b).bind fun m =>
    (dowserref04_Union.f k a b).bind fun x1 =>
    (dowserref04_Keep.f k a b true).bind fun x2 =>
    (dowserref04_Keep.f k a b false).bind fun x3 =>
    (dowserref04_Same.f k u x1).bind fun p1 =>
    (dowserref04_Same.f k o x2).bind fun p2 =>
    (dowserref04_Same.f k m x3).bind fun p3 =>
    (ids_Meets.f a b).bind fun q1 =>
    (ids_Same.f k a b).bind fun q2 =>
    (dowserref04_Same.f k a b).bind fun q3 =>
    (ids_Within.f a b).bind fun q4 =>
    (ids_Compare.f k a b).bind fun c1 =>
    (dowserref04_Compare.f k a b).bind fun c2 =>
    (ids_Compare.f k b a).bind fun c3 =>
    (dowserref04_Same.f k a a).bind fun s1 =>
    (dowserref04_Same.f k b b).bind fun s2 =>
    if p1 = true ∧ p2 = true ∧ p3 = true ∧ q1 = decide (0 < o.length) ∧ q2 = q3 ∧ q4 = ((m.length : Int) == 0) ∧ c1 = c2 ∧ c3 = wrap64 (-c2) ∧ s1 = true ∧ s2 = true then some true else none
  else none
theorem dowserlaw04_IdsTwo.mono : ∀ l0 l1 k, LeO (dowserlaw04_IdsTwo.f k l0 l1) (dowserlaw04_IdsTwo.f (k + 1) l0 l1) := by
  intro l0 l1 k
  unfold dowserlaw04_IdsTwo.f
  refine LeO.bind (dowserlaw04_awake.mono _) (fun _ => LeO.ite ?_ (LeO.refl _))
  refine LeO.bind (dowserref04_Of.mono _ _) (fun a => ?_)
  refine LeO.bind (dowserref04_Of.mono _ _) (fun b => ?_)
  refine LeO.bind (LeO.refl _) (fun u => ?_)
  refine LeO.bind (LeO.refl _) (fun o => ?_)
  refine LeO.bind (LeO.refl _) (fun m => ?_)
  refine LeO.bind (dowserref04_Union.mono _ _ _) (fun x1 => ?_)
  refine LeO.bind (dowserref04_Keep.mono _ _ _ _) (fun x2 => ?_)
  refine LeO.bind (dowserref04_Keep.mono _ _ _ _) (fun x3 => ?_)
  refine LeO.bind (dowserref04_Same.mono _ _ _) (fun p1 => ?_)
  refine LeO.bind (dowserref04_Same.mono _ _ _) (fun p2 => ?_)
  refine LeO.bind (dowserref04_Same.mono _ _ _) (fun p3 => ?_)
  refine LeO.bind (LeO.refl _) (fun q1 => ?_)
  refine LeO.bind (ids_Same.mono _ _ _) (fun q2 => ?_)
  refine LeO.bind (dowserref04_Same.mono _ _ _) (fun q3 => ?_)
  refine LeO.bind (LeO.refl _) (fun q4 => ?_)
  refine LeO.bind (ids_Compare.mono _ _ _) (fun c1 => ?_)
  refine LeO.bind (dowserref04_Compare.mono _ _ _) (fun c2 => ?_)
  refine LeO.bind (ids_Compare.mono _ _ _) (fun c3 => ?_)
  refine LeO.bind (dowserref04_Same.mono _ _ _) (fun s1 => ?_)
  refine LeO.bind (dowserref04_Same.mono _ _ _) (fun s2 => ?_)
  exact LeO.refl _
set_option maxHeartbeats 1000000 in
set_option maxRecDepth 100000 in
theorem dowserlaw04_IdsTwo.calls (k : Nat) (A0 : Option Addr) (c0 : Nat) (l0 : List Int) (A1 : Option Addr) (c1_ : Nat) (l1 : List Int) (r : Bool) (w : World) (hr0 : Kd.C (Kd.int .i64) w A0 l0.length l0) (hc0 : l0.length ≤ c0) (hr1 : Kd.C (Kd.int .i64) w A1 l1.length l1) (hc1 : l1.length ≤ c1_) (h : dowserlaw04_IdsTwo.f k l0 l1 = some r) :
    Calls Try.prog 6 #[.slice A0 l0.length c0, .slice A1 l1.length c1_] w fun e w' => e = .returned (.bool r) ∧ Below w.heap.size w w' := by
  unfold dowserlaw04_IdsTwo.f at h
  obtain ⟨t0, H0, h_⟩ := Option.bind_eq_some_iff.mp h
  clear h
  cases t0 with
  | false => rw [if_neg (by decide)] at h_; cases h_
  | true =>
  rw [if_pos rfl] at h_
  obtain ⟨a, Ha, h_a⟩ := Option.bind_eq_some_iff.mp h_
  clear h_
  obtain ⟨b, Hb, h_b⟩ := Option.bind_eq_some_iff.mp h_a
  clear h_a
  obtain ⟨u, Hu, h_u⟩ := Option.bind_eq_some_iff.mp h_b
  clear h_b
  obtain ⟨o, Ho, h_o⟩ := Option.bind_eq_some_iff.mp h_u
  clear h_u
  obtain ⟨m, Hm, h_m⟩ := Option.bind_eq_some_iff.mp h_o
  clear h_o
  obtain ⟨x1, Hx1, h_x1⟩ := Option.bind_eq_some_iff.mp h_m
  clear h_m
  obtain ⟨x2, Hx2, h_x2⟩ := Option.bind_eq_some_iff.mp h_x1
  clear h_x1
  obtain ⟨x3, Hx3, h_x3⟩ := Option.bind_eq_some_iff.mp h_x2
  clear h_x2
  obtain ⟨p1, Hp1, h_p1⟩ := Option.bind_eq_some_iff.mp h_x3
  clear h_x3
  obtain ⟨p2, Hp2, h_p2⟩ := Option.bind_eq_some_iff.mp h_p1
  clear h_p1
  obtain ⟨p3, Hp3, h_p3⟩ := Option.bind_eq_some_iff.mp h_p2
  clear h_p2
  obtain ⟨q1, Hq1, h_q1⟩ := Option.bind_eq_some_iff.mp h_p3
  clear h_p3
  obtain ⟨q2, Hq2, h_q2⟩ := Option.bind_eq_some_iff.mp h_q1
  clear h_q1
  obtain ⟨q3, Hq3, h_q3⟩ := Option.bind_eq_some_iff.mp h_q2
  clear h_q2
  obtain ⟨q4, Hq4, h_q4⟩ := Option.bind_eq_some_iff.mp h_q3
  clear h_q3
  obtain ⟨c1, Hc1, h_c1⟩ := Option.bind_eq_some_iff.mp h_q4
  clear h_q4
  obtain ⟨c2, Hc2, h_c2⟩ := Option.bind_eq_some_iff.mp h_c1
  clear h_c1
  obtain ⟨c3, Hc3, h_c3⟩ := Option.bind_eq_some_iff.mp h_c2
  clear h_c2
  obtain ⟨s1, Hs1, h_s1⟩ := Option.bind_eq_some_iff.mp h_c3
  clear h_c3
  obtain ⟨s2, Hs2, h_s2⟩ := Option.bind_eq_some_iff.mp h_s1
  clear h_s1
  by_cases hcond : p1 = true ∧ p2 = true ∧ p3 = true ∧ q1 = decide (0 < o.length) ∧ q2 = q3 ∧ q4 = ((m.length : Int) == 0) ∧ c1 = c2 ∧ c3 = wrap64 (-c2) ∧ s1 = true ∧ s2 = true
  case neg => rw [if_neg hcond] at h_s2; cases h_s2
  rw [if_pos hcond] at h_s2
  obtain rfl := Option.some.inj h_s2
  clear h_s2
  obtain ⟨rfl, rfl, rfl, rfl, rfl, rfl, rfl, rfl, rfl, rfl⟩ := hcond
  have Q0 := Aside0.mk H0
  have Qa := Aside0.mk Ha
  have Qb := Aside0.mk Hb
  have Qu := Aside0.mk Hu
  have Qo := Aside0.mk Ho
  have Qm := Aside0.mk Hm
  have Qx1 := Aside0.mk Hx1
  have Qx2 := Aside0.mk Hx2
  have Qx3 := Aside0.mk Hx3
  have Qp1 := Aside0.mk Hp1
  have Qp2 := Aside0.mk Hp2
  have Qp3 := Aside0.mk Hp3
  have Qq1 := Aside0.mk Hq1
  have Qq2 := Aside0.mk Hq2
  have Qq3 := Aside0.mk Hq3
  have Qq4 := Aside0.mk Hq4
  have Qc1 := Aside0.mk Hc1
  have Qc2 := Aside0.mk Hc2
  have Qc3 := Aside0.mk Hc3
  have Qs1 := Aside0.mk Hs1
  have Qs2 := Aside0.mk Hs2
  clear H0 Ha Hb Hu Ho Hm Hx1 Hx2 Hx3 Hp1 Hp2 Hp3 Hq1 Hq2 Hq3 Hq4 Hc1 Hc2 Hc3 Hs1 Hs2
  obtain ⟨y0, hy0⟩ : ∃ y0, y0 = l0.take 40 := ⟨_, rfl⟩
  obtain ⟨y1, hy1⟩ : ∃ y1, y1 = l1.take 40 := ⟨_, rfl⟩
  rw [← hy0] at Qa
  rw [← hy1] at Qb
  have S0 : Aside0 (∀ W, Below w.heap.size w W → Kd.C (Kd.int .i64) W A0 y0.length y0) := ⟨fun W hW => by rw [hy0]; exact few_C (Kd.C_below hr0 hW) rfl⟩
  have S1 : Aside0 (∀ W, Below w.heap.size w W → Kd.C (Kd.int .i64) W A1 y1.length y1) := ⟨fun W hW => by rw [hy1]; exact few_C (Kd.C_below hr1 hW) rfl⟩
  have K0 : Aside0 (y0.length ≤ c0) := ⟨by rw [hy0, List.length_take]; omega⟩
  have K1 : Aside0 (y1.length ≤ c1_) := ⟨by rw [hy1, List.length_take]; omega⟩
  have F0 := Aside0.mk (fun W => dowserlaw04_Few.cut A0 c0 l0 y0 W hy0 hc0)
  have F1 := Aside0.mk (fun W => dowserlaw04_Few.cut A1 c1_ l1 y1 W hy1 hc1)
  have B0 := Aside0.mk (Below.refl w.heap.size w)
  clear hr0 hc0 hr1 hc1 hy0 hy1
  have Qa2 := Qa
  have Qb2 := Qb
  go_enter Try.func6, Try.ntmps6
  go_wp2_with (first | (go_at_call 7; (with_reducible refine (dowserlaw04_awake.calls k true _ Q0.out).mono ?_); rintro e w_0 ⟨rfl, hb⟩; have n_ := Aside0.mk (below_step (by repeat (first | exact B0.out | apply pw_below_drewN)) hb); clear B0; have B0 := n_; clear n_ hb) | (go_at_call 9; (with_reducible refine (F0.out _).mono ?_); rintro e w' ⟨rfl, ⟨ndf0, rfl⟩⟩) | (go_at_call 8; (with_reducible refine (dowserref04_Of.calls k A0 c0 y0 a _ ?z0 ?z1 Qa.out).mono ?_); (case z0 => exact (S0.out _ (by repeat (first | exact B0.out | apply pw_below_drewN)))); (case z1 => exact K0.out); (try clear Qa); rintro e w_a ⟨v_a, rfl, hR, hb⟩; have n_ := Aside0.mk (below_step (by repeat (first | exact B0.out | apply pw_below_drewN)) hb); clear B0; have B0 := n_; clear n_; obtain ⟨A_a, k_a, rfl, hl_, hc_⟩ := Kd.R_reads hR; have Sa : Aside0 (∀ W, Below w_a.heap.size w_a W → Kd.C (Kd.int .i64) W A_a a.length a) := ⟨fun W hW => Kd.C_below hc_ hW⟩; have La := Aside0.mk hl_; have Ra := Aside0.mk hR; have Ba := Aside0.mk (Below.refl w_a.heap.size w_a); have Pa := Aside0.mk hb.size; clear hR hb hl_ hc_) | (go_at_call 9; (with_reducible refine (F1.out _).mono ?_); rintro e w' ⟨rfl, ⟨ndf1, rfl⟩⟩) | (go_at_call 8; (with_reducible refine (dowserref04_Of.calls k A1 c1_ y1 b _ ?z0 ?z1 Qb.out).mono ?_); (case z0 => exact (S1.out _ (by repeat (first | exact B0.out | apply pw_below_drewN)))); (case z1 => exact K1.out); (try clear Qb); rintro e w_b ⟨v_b, rfl, hR, hb⟩; have n_ := Aside0.mk (below_step (by repeat (first | exact B0.out | apply pw_below_drewN)) hb); clear B0; have B0 := n_; clear n_; have n_ := Aside0.mk (below_step (by repeat (first | exact Ba.out | apply pw_below_drewN)) hb); clear Ba; have Ba := n_; clear n_; obtain ⟨A_b, k_b, rfl, hl_, hc_⟩ := Kd.R_reads hR; have Sb : Aside0 (∀ W, Below w_b.heap.size w_b W → Kd.C (Kd.int .i64) W A_b b.length b) := ⟨fun W hW => Kd.C_below hc_ hW⟩; have Lb := Aside0.mk hl_; have Rb := Aside0.mk hR; have Bb := Aside0.mk (Below.refl w_b.heap.size w_b); have Pb := Aside0.mk hb.size; clear hR hb hl_ hc_; have B0b := B0; have Bab := Ba) | (go_at_call 11; (with_reducible refine (ids_Union.calls A_a k_a a A_b k_b b u _ ?z0 ?z1 ?z2 ?z3 Qu.out).mono ?_); (case z0 => exact (Sa.out _ (by repeat (first | exact Ba.out | apply pw_below_drewN)))); (case z1 => exact La.out); (case z2 => exact (Sb.out _ (by repeat (first | exact Bb.out | apply pw_below_drewN)))); (case z3 => exact Lb.out); (try clear Qu); rintro e w_u ⟨v_u, rfl, hR, hb⟩; have n_ := Aside0.mk (below_step (by repeat (first | exact B0.out | apply pw_below_drewN)) hb); clear B0; have B0 := n_; clear n_; have n_ := Aside0.mk (below_step (by repeat (first | exact Ba.out | apply pw_below_drewN)) hb); clear Ba; have Ba := n_; clear n_; have n_ := Aside0.mk (below_step (by repeat (first | exact Bb.out | apply pw_below_drewN)) hb); clear Bb; have Bb := n_; clear n_; obtain ⟨A_u, k_u, rfl, hl_, hc_⟩ := Kd.R_reads hR; have Su : Aside0 (∀ W, Below w_u.heap.size w_u W → Kd.C (Kd.int .i64) W A_u u.length u) := ⟨fun W hW => Kd.C_below hc_ hW⟩; have Lu := Aside0.mk hl_; have Ru := Aside0.mk hR; have Bu := Aside0.mk (Below.refl w_u.heap.size w_u); have Pu := Aside0.mk hb.size; clear hR hb hl_ hc_) | (go_at_call 12; (with_reducible refine (ids_Both.calls A_a k_a a A_b k_b b o _ ?z0 ?z1 ?z2 ?z3 Qo.out).mono ?_); (case z0 => exact (Sa.out _ (by repeat (first | exact Ba.out | apply pw_below_drewN)))); (case z1 => exact La.out); (case z2 => exact (Sb.out _ (by repeat (first | exact Bb.out | apply pw_below_drewN)))); (case z3 => exact Lb.out); (try clear Qo); rintro e w_o ⟨v_o, rfl, hR, hb⟩; have n_ := Aside0.mk (below_step (by repeat (first | exact B0.out | apply pw_below_drewN)) hb); clear B0; have B0 := n_; clear n_; have n_ := Aside0.mk (below_step (by repeat (first | exact Ba.out | apply pw_below_drewN)) hb); clear Ba; have Ba := n_; clear n_; have n_ := Aside0.mk (below_step (by repeat (first | exact Bb.out | apply pw_below_drewN)) hb); clear Bb; have Bb := n_; clear n_; have n_ := Aside0.mk (below_step (by repeat (first | exact Bu.out | apply pw_below_drewN)) hb); clear Bu; have Bu := n_; clear n_; obtain ⟨A_o, k_o, rfl, hl_, hc_⟩ := Kd.R_reads hR; have So : Aside0 (∀ W, Below w_o.heap.size w_o W → Kd.C (Kd.int .i64) W A_o o.length o) := ⟨fun W hW => Kd.C_below hc_ hW⟩; have Lo := Aside0.mk hl_; have Ro := Aside0.mk hR; have Bo := Aside0.mk (Below.refl w_o.heap.size w_o); have Po := Aside0.mk hb.size; clear hR hb hl_ hc_) | (go_at_call 13; (with_reducible refine (ids_Minus.calls A_a k_a a A_b k_b b m _ ?z0 ?z1 ?z2 ?z3 Qm.out).mono ?_); (case z0 => exact (Sa.out _ (by repeat (first | exact Ba.out | apply pw_below_drewN)))); (case z1 => exact La.out); (case z2 => exact (Sb.out _ (by repeat (first | exact Bb.out | apply pw_below_drewN)))); (case z3 => exact Lb.out); (try clear Qm); rintro e w_m ⟨v_m, rfl, hR, hb⟩; have n_ := Aside0.mk (below_step (by repeat (first | exact B0.out | apply pw_below_drewN)) hb); clear B0; have B0 := n_; clear n_; have n_ := Aside0.mk (below_step (by repeat (first | exact Ba.out | apply pw_below_drewN)) hb); clear Ba; have Ba := n_; clear n_; have n_ := Aside0.mk (below_step (by repeat (first | exact Bb.out | apply pw_below_drewN)) hb); clear Bb; have Bb := n_; clear n_; have n_ := Aside0.mk (below_step (by repeat (first | exact Bu.out | apply pw_below_drewN)) hb); clear Bu; have Bu := n_; clear n_; have n_ := Aside0.mk (below_step (by repeat (first | exact Bo.out | apply pw_below_drewN)) hb); clear Bo; have Bo := n_; clear n_; obtain ⟨A_m, k_m, rfl, hl_, hc_⟩ := Kd.R_reads hR; have Sm : Aside0 (∀ W, Below w_m.heap.size w_m W → Kd.C (Kd.int .i64) W A_m m.length m) := ⟨fun W hW => Kd.C_below hc_ hW⟩; have Lm := Aside0.mk hl_; have Rm := Aside0.mk hR; have Bm := Aside0.mk (Below.refl w_m.heap.size w_m); have Pm := Aside0.mk hb.size; clear hR hb hl_ hc_) | (go_at_call 20; (with_reducible refine (dowserref04_Union.calls k A_a k_a a A_b k_b b x1 _ ?z0 ?z1 ?z2 ?z3 Qx1.out).mono ?_); (case z0 => exact (Sa.out _ (by repeat (first | exact Ba.out | apply pw_below_drewN)))); (case z1 => exact La.out); (case z2 => exact (Sb.out _ (by repeat (first | exact Bb.out | apply pw_below_drewN)))); (case z3 => exact Lb.out); (try clear Qx1); rintro e w_x1 ⟨v_x1, rfl, hR, hb⟩; have n_ := Aside0.mk (below_step (by repeat (first | exact B0.out | apply pw_below_drewN)) hb); clear B0; have B0 := n_; clear n_; have n_ := Aside0.mk (below_step (by repeat (first | exact Ba.out | apply pw_below_drewN)) hb); clear Ba; have Ba := n_; clear n_; have n_ := Aside0.mk (below_step (by repeat (first | exact Bb.out | apply pw_below_drewN)) hb); clear Bb; have Bb := n_; clear n_; have n_ := Aside0.mk (below_step (by repeat (first | exact Bu.out | apply pw_below_drewN)) hb); clear Bu; have Bu := n_; clear n_; have n_ := Aside0.mk (below_step (by repeat (first | exact Bo.out | apply pw_below_drewN)) hb); clear Bo; have Bo := n_; clear n_; have n_ := Aside0.mk (below_step (by repeat (first | exact Bm.out | apply pw_below_drewN)) hb); clear Bm; have Bm := n_; clear n_; obtain ⟨A_x1, k_x1, rfl, hl_, hc_⟩ := Kd.R_reads hR; have Sx1 : Aside0 (∀ W, Below w_x1.heap.size w_x1 W → Kd.C (Kd.int .i64) W A_x1 x1.length x1) := ⟨fun W hW => Kd.C_below hc_ hW⟩; have Lx1 := Aside0.mk hl_; have Rx1 := Aside0.mk hR; have Bx1 := Aside0.mk (Below.refl w_x1.heap.size w_x1); have Px1 := Aside0.mk hb.size; clear hR hb hl_ hc_) | (go_at_call 17; (with_reducible refine (dowserref04_Same.calls k A_u k_u u A_x1 k_x1 x1 true _ ?z0 ?z1 ?z2 ?z3 Qp1.out).mono ?_); (case z0 => exact (Su.out _ (by repeat (first | exact Bu.out | apply pw_below_drewN)))); (case z1 => exact Lu.out); (case z2 => exact (Sx1.out _ (by repeat (first | exact Bx1.out | apply pw_below_drewN)))); (case z3 => exact Lx1.out); rintro e w' ⟨rfl, ⟨nd_Qp1, rfl⟩⟩) | (go_at_call 21; (with_reducible refine (dowserref04_Keep.calls k A_a k_a a A_b k_b b true x2 _ ?z0 ?z1 ?z2 ?z3 Qx2.out).mono ?_); (case z0 => exact (Sa.out _ (by repeat (first | exact Ba.out | apply pw_below_drewN)))); (case z1 => exact La.out); (case z2 => exact (Sb.out _ (by repeat (first | exact Bb.out | apply pw_below_drewN)))); (case z3 => exact Lb.out); (try clear Qx2); rintro e w_x2 ⟨v_x2, rfl, hR, hb⟩; have n_ := Aside0.mk (below_step (by repeat (first | exact B0.out | apply pw_below_drewN)) hb); clear B0; have B0 := n_; clear n_; have n_ := Aside0.mk (below_step (by repeat (first | exact Ba.out | apply pw_below_drewN)) hb); clear Ba; have Ba := n_; clear n_; have n_ := Aside0.mk (below_step (by repeat (first | exact Bb.out | apply pw_below_drewN)) hb); clear Bb; have Bb := n_; clear n_; have n_ := Aside0.mk (below_step (by repeat (first | exact Bu.out | apply pw_below_drewN)) hb); clear Bu; have Bu := n_; clear n_; have n_ := Aside0.mk (below_step (by repeat (first | exact Bo.out | apply pw_below_drewN)) hb); clear Bo; have Bo := n_; clear n_; have n_ := Aside0.mk (below_step (by repeat (first | exact Bm.out | apply pw_below_drewN)) hb); clear Bm; have Bm := n_; clear n_; have n_ := Aside0.mk (below_step (by repeat (first | exact Bx1.out | apply pw_below_drewN)) hb); clear Bx1; have Bx1 := n_; clear n_; obtain ⟨A_x2, k_x2, rfl, hl_, hc_⟩ := Kd.R_reads hR; have Sx2 : Aside0 (∀ W, Below w_x2.heap.size w_x2 W → Kd.C (Kd.int .i64) W A_x2 x2.length x2) := ⟨fun W hW => Kd.C_below hc_ hW⟩; have Lx2 := Aside0.mk hl_; have Rx2 := Aside0.mk hR; have Bx2 := Aside0.mk (Below.refl w_x2.heap.size w_x2); have Px2 := Aside0.mk hb.size; clear hR hb hl_ hc_) | (go_at_call 17; (with_reducible refine (dowserref04_Same.calls k A_o k_o o A_x2 k_x2 x2 true _ ?z0 ?z1 ?z2 ?z3 Qp2.out).mono ?_); (case z0 => exact (So.out _ (by repeat (first | exact Bo.out | apply pw_below_drewN)))); (case z1 => exact Lo.out); (case z2 => exact (Sx2.out _ (by repeat (first | exact Bx2.out | apply pw_below_drewN)))); (case z3 => exact Lx2.out); rintro e w' ⟨rfl, ⟨nd_Qp2, rfl⟩⟩) | (go_at_call 21; (with_reducible refine (dowserref04_Keep.calls k A_a k_a a A_b k_b b false x3 _ ?z0 ?z1 ?z2 ?z3 Qx3.out).mono ?_); (case z0 => exact (Sa.out _ (by repeat (first | exact Ba.out | apply pw_below_drewN)))); (case z1 => exact La.out); (case z2 => exact (Sb.out _ (by repeat (first | exact Bb.out | apply pw_below_drewN)))); (case z3 => exact Lb.out); (try clear Qx3); rintro e w_x3 ⟨v_x3, rfl, hR, hb⟩; have n_ := Aside0.mk (below_step (by repeat (first | exact B0.out | apply pw_below_drewN)) hb); clear B0; have B0 := n_; clear n_; have n_ := Aside0.mk (below_step (by repeat (first | exact Ba.out | apply pw_below_drewN)) hb); clear Ba; have Ba := n_; clear n_; have n_ := Aside0.mk (below_step (by repeat (first | exact Bb.out | apply pw_below_drewN)) hb); clear Bb; have Bb := n_; clear n_; have n_ := Aside0.mk (below_step (by repeat (first | exact Bu.out | apply pw_below_drewN)) hb); clear Bu; have Bu := n_; clear n_; have n_ := Aside0.mk (below_step (by repeat (first | exact Bo.out | apply pw_below_drewN)) hb); clear Bo; have Bo := n_; clear n_; have n_ := Aside0.mk (below_step (by repeat (first | exact Bm.out | apply pw_below_drewN)) hb); clear Bm; have Bm := n_; clear n_; have n_ := Aside0.mk (below_step (by repeat (first | exact Bx1.out | apply pw_below_drewN)) hb); clear Bx1; have Bx1 := n_; clear n_; have n_ := Aside0.mk (below_step (by repeat (first | exact Bx2.out | apply pw_below_drewN)) hb); clear Bx2; have Bx2 := n_; clear n_; obtain ⟨A_x3, k_x3, rfl, hl_, hc_⟩ := Kd.R_reads hR; have Sx3 : Aside0 (∀ W, Below w_x3.heap.size w_x3 W → Kd.C (Kd.int .i64) W A_x3 x3.length x3) := ⟨fun W hW => Kd.C_below hc_ hW⟩; have Lx3 := Aside0.mk hl_; have Rx3 := Aside0.mk hR; have Bx3 := Aside0.mk (Below.refl w_x3.heap.size w_x3); have Px3 := Aside0.mk hb.size; clear hR hb hl_ hc_) | (go_at_call 17; (with_reducible refine (dowserref04_Same.calls k A_m k_m m A_x3 k_x3 x3 true _ ?z0 ?z1 ?z2 ?z3 Qp3.out).mono ?_); (case z0 => exact (Sm.out _ (by repeat (first | exact Bm.out | apply pw_below_drewN)))); (case z1 => exact Lm.out); (case z2 => exact (Sx3.out _ (by repeat (first | exact Bx3.out | apply pw_below_drewN)))); (case z3 => exact Lx3.out); rintro e w' ⟨rfl, ⟨nd_Qp3, rfl⟩⟩) | (go_at_call 22; (with_reducible refine (ids_Meets.calls A_a k_a a A_b k_b b _ _ ?z0 ?z1 ?z2 ?z3 Qq1.out).mono ?_); (case z0 => exact (Sa.out _ (by repeat (first | exact Ba.out | apply pw_below_drewN)))); (case z1 => exact La.out); (case z2 => exact (Sb.out _ (by repeat (first | exact Bb.out | apply pw_below_drewN)))); (case z3 => exact Lb.out); rintro e w_g1 ⟨rfl, hb⟩; have n_ := Aside0.mk (below_step (by repeat (first | exact B0.out | apply pw_below_drewN)) hb); clear B0; have B0 := n_; clear n_; have n_ := Aside0.mk (below_step (by repeat (first | exact Ba.out | apply pw_below_drewN)) hb); clear Ba; have Ba := n_; clear n_; have n_ := Aside0.mk (below_step (by repeat (first | exact Bb.out | apply pw_below_drewN)) hb); clear Bb; have Bb := n_; clear n_; have n_ := Aside0.mk (below_step (by repeat (first | exact Bu.out | apply pw_below_drewN)) hb); clear Bu; have Bu := n_; clear n_; have n_ := Aside0.mk (below_step (by repeat (first | exact Bo.out | apply pw_below_drewN)) hb); clear Bo; have Bo := n_; clear n_; have n_ := Aside0.mk (below_step (by repeat (first | exact Bm.out | apply pw_below_drewN)) hb); clear Bm; have Bm := n_; clear n_; have n_ := Aside0.mk (below_step (by repeat (first | exact Bx1.out | apply pw_below_drewN)) hb); clear Bx1; have Bx1 := n_; clear n_; have n_ := Aside0.mk (below_step (by repeat (first | exact Bx2.out | apply pw_below_drewN)) hb); clear Bx2; have Bx2 := n_; clear n_; have n_ := Aside0.mk (below_step (by repeat (first | exact Bx3.out | apply pw_below_drewN)) hb); clear Bx3; have Bx3 := n_; clear n_; clear hb) | (go_at_call 10; (with_reducible refine (ids_Same.calls k A_a k_a a A_b k_b b _ _ ?z0 ?z1 ?z2 ?z3 Qq2.out).mono ?_); (case z0 => exact (Sa.out _ (by repeat (first | exact Ba.out | apply pw_below_drewN)))); (case z1 => exact La.out); (case z2 => exact (Sb.out _ (by repeat (first | exact Bb.out | apply pw_below_drewN)))); (case z3 => exact Lb.out); rintro e w' ⟨rfl, ⟨nd_Qq2, rfl⟩⟩) | (go_at_call 17; (with_reducible refine (dowserref04_Same.calls k A_a k_a a A_b k_b b _ _ ?z0 ?z1 ?z2 ?z3 Qq3.out).mono ?_); (case z0 => exact (Sa.out _ (by repeat (first | exact Ba.out | apply pw_below_drewN)))); (case z1 => exact La.out); (case z2 => exact (Sb.out _ (by repeat (first | exact Bb.out | apply pw_below_drewN)))); (case z3 => exact Lb.out); rintro e w' ⟨rfl, ⟨nd_Qq3, rfl⟩⟩) | (go_at_call 14; (with_reducible refine (ids_Within.calls A_a k_a a A_b k_b b _ _ ?z0 ?z1 ?z2 ?z3 Qq4.out).mono ?_); (case z0 => exact (Sa.out _ (by repeat (first | exact Ba.out | apply pw_below_drewN)))); (case z1 => exact La.out); (case z2 => exact (Sb.out _ (by repeat (first | exact Bb.out | apply pw_below_drewN)))); (case z3 => exact Lb.out); rintro e w_g2 ⟨rfl, hb⟩; have n_ := Aside0.mk (below_step (by repeat (first | exact B0.out | apply pw_below_drewN)) hb); clear B0; have B0 := n_; clear n_; have n_ := Aside0.mk (below_step (by repeat (first | exact Ba.out | apply pw_below_drewN)) hb); clear Ba; have Ba := n_; clear n_; have n_ := Aside0.mk (below_step (by repeat (first | exact Bb.out | apply pw_below_drewN)) hb); clear Bb; have Bb := n_; clear n_; have n_ := Aside0.mk (below_step (by repeat (first | exact Bu.out | apply pw_below_drewN)) hb); clear Bu; have Bu := n_; clear n_; have n_ := Aside0.mk (below_step (by repeat (first | exact Bo.out | apply pw_below_drewN)) hb); clear Bo; have Bo := n_; clear n_; have n_ := Aside0.mk (below_step (by repeat (first | exact Bm.out | apply pw_below_drewN)) hb); clear Bm; have Bm := n_; clear n_; have n_ := Aside0.mk (below_step (by repeat (first | exact Bx1.out | apply pw_below_drewN)) hb); clear Bx1; have Bx1 := n_; clear n_; have n_ := Aside0.mk (below_step (by repeat (first | exact Bx2.out | apply pw_below_drewN)) hb); clear Bx2; have Bx2 := n_; clear n_; have n_ := Aside0.mk (below_step (by repeat (first | exact Bx3.out | apply pw_below_drewN)) hb); clear Bx3; have Bx3 := n_; clear n_; clear hb) | (go_at_call 23; (with_reducible refine (ids_Compare.calls k A_a k_a a A_b k_b b _ _ ?z0 ?z1 ?z2 ?z3 Qc1.out).mono ?_); (case z0 => exact (Sa.out _ (by repeat (first | exact Ba.out | apply pw_below_drewN)))); (case z1 => exact La.out); (case z2 => exact (Sb.out _ (by repeat (first | exact Bb.out | apply pw_below_drewN)))); (case z3 => exact Lb.out); rintro e w' ⟨rfl, ⟨nd_Qc1, rfl⟩⟩) | (go_at_call 23; (with_reducible refine (ids_Compare.calls k A_b k_b b A_a k_a a _ _ ?z0 ?z1 ?z2 ?z3 Qc3.out).mono ?_); (case z0 => exact (Sb.out _ (by repeat (first | exact Bb.out | apply pw_below_drewN)))); (case z1 => exact Lb.out); (case z2 => exact (Sa.out _ (by repeat (first | exact Ba.out | apply pw_below_drewN)))); (case z3 => exact La.out); rintro e w' ⟨rfl, ⟨nd_Qc3, rfl⟩⟩) | (go_at_call 24; (with_reducible refine (dowserref04_Compare.calls k A_a k_a a A_b k_b b _ _ ?z0 ?z1 ?z2 ?z3 Qc2.out).mono ?_); (case z0 => exact (Sa.out _ (by repeat (first | exact Ba.out | apply pw_below_drewN)))); (case z1 => exact La.out); (case z2 => exact (Sb.out _ (by repeat (first | exact Bb.out | apply pw_below_drewN)))); (case z3 => exact Lb.out); rintro e w' ⟨rfl, ⟨nd_Qc2, rfl⟩⟩))
  have START : ∀ N, Aside0 (Rows3 w_b.heap.size w_b w_g2.heap.size (.slice A_u u.length k_u) (.slice A_o o.length k_o) (.slice A_m m.length k_m) u.length o.length m.length ((w_g2.drewN N).alloc (.cells #[.slice A_u u.length k_u, .slice A_o o.length k_o, .slice A_m m.length k_m] 22))) := fun N =>
    ⟨⟨below_alloc (pw_below_drewN Bb.out N) _, Bb.out.size, Live.of_R (Kd.R_below Ru.out (below_alloc (pw_below_drewN Bu.out N) _)) (Nat.le_refl _), Live.of_R (Kd.R_below Ro.out (below_alloc (pw_below_drewN Bo.out N) _)) Pu.out, Live.of_R (Kd.R_below Rm.out (below_alloc (pw_below_drewN Bm.out N) _)) (Nat.le_trans Pu.out Po.out), blk_new _ _⟩⟩
  have NL : Aside0 (u.length ≤ 9223372036854775807 ∧ o.length ≤ 9223372036854775807 ∧ m.length ≤ 9223372036854775807) := ⟨Kd.C_max (Su.out _ (Below.refl _ _)), Kd.C_max (So.out _ (Below.refl _ _)), Kd.C_max (Sm.out _ (Below.refl _ _))⟩
  clear Bu Bo Bm Bx1 Bx2 Bx3 Su So Sm Sx1 Sx2 Sx3 Lu Lo Lm Lx1 Lx2 Lx3 Ru Ro Rm Rx1 Rx2 Rx3 Ra Rb Pu Po Pm Px1 Px2 Px3 Pa Pb Qp1 Qp2 Qp3 Qq1 Qq2 Qq3 Qq4 Qc1 Qc2 Qc3 B0 Ba
  generalize u.length = nu at *
  generalize o.length = no at *
  generalize m.length = nm at *
  go_loopg [101] 3 (fun kq v101 w' => ∃ I : Int, v101 = .int .i64 I ∧ (I = 0 ∧ kq = 3 ∨ I = 1 ∧ kq = 2 ∨ I = 2 ∧ kq = 1 ∨ I = 3 ∧ kq = 0) ∧ Aside0 (Rows3 w_b.heap.size w_b w_g2.heap.size (.slice A_u nu k_u) (.slice A_o no k_o) (.slice A_m nm k_m) nu no nm w'))
  case atStart => exact ⟨0, rfl, .inl ⟨rfl, rfl⟩, START _⟩
  case round =>
    clear START
    obtain ⟨I, rfl, hI, HR3⟩ := hrel
    rcases hI with ⟨rfl, rfl⟩ | ⟨rfl, rfl⟩ | ⟨rfl, rfl⟩ | ⟨rfl, rfl⟩
    · have hx := HR3.out.cell.1
      have hn63 : nu ≤ 9223372036854775807 := by have := NL.out; omega
      go_wp2_with fail
      go_loopg [107] nu (fun kq v107 w' => ∃ j : Nat, v107 = .int .i64 (j : Int) ∧ j ≤ nu ∧ kq = nu - j ∧ Aside0 (Rows3 w_b.heap.size w_b w_g2.heap.size (.slice A_u nu k_u) (.slice A_o no k_o) (.slice A_m nm k_m) nu no nm w'))
      case atStart => exact ⟨0, rfl, by omega, by omega, HR3⟩
      case round =>
        clear HR3 hx
        obtain ⟨j, rfl, hj, hk, HR3⟩ := hrel
        by_cases hlt : j < nu
        · have hltz : (j : Int) < (nu : Int) := by omega
          have hj63 : (j : Int) < 9223372036854775807 := by omega
          obtain ⟨g, cap, he, hg, hcur, hcell⟩ := HR3.out.l1.at (by omega)
          obtain ⟨z, hz, hf⟩ := hcell j hlt
          injection he with he1 _ he2
          subst he1 he2
          have HG := Aside0.mk (fun z' => HR3.out.put hg hcur j z')
          clear hcell hcur hg
          go_wp2
          go_roundg (nu - (j + 1))
          case measure => omega
          case rel => exact ⟨j + 1, by go_num, by omega, rfl, ⟨HG.out _⟩⟩
        · have hltz : ¬ (j : Int) < (nu : Int) := by omega
          go_wp2
          go_roundg 2
          case measure => omega
          case rel => exact ⟨1, rfl, .inr (.inl ⟨rfl, rfl⟩), HR3⟩
    · have hx := HR3.out.cell.2.1
      have hn63 : no ≤ 9223372036854775807 := by have := NL.out; omega
      go_wp2_with fail
      go_loopg [107] no (fun kq v107 w' => ∃ j : Nat, v107 = .int .i64 (j : Int) ∧ j ≤ no ∧ kq = no - j ∧ Aside0 (Rows3 w_b.heap.size w_b w_g2.heap.size (.slice A_u nu k_u) (.slice A_o no k_o) (.slice A_m nm k_m) nu no nm w'))
      case atStart => exact ⟨0, rfl, by omega, by omega, HR3⟩
      case round =>
        clear HR3 hx
        obtain ⟨j, rfl, hj, hk, HR3⟩ := hrel
        by_cases hlt : j < no
        · have hltz : (j : Int) < (no : Int) := by omega
          have hj63 : (j : Int) < 9223372036854775807 := by omega
          obtain ⟨g, cap, he, hg, hcur, hcell⟩ := HR3.out.l2.at (by omega)
          obtain ⟨z, hz, hf⟩ := hcell j hlt
          injection he with he1 _ he2
          subst he1 he2
          have HG := Aside0.mk (fun z' => HR3.out.put hg hcur j z')
          clear hcell hcur hg
          go_wp2
          go_roundg (no - (j + 1))
          case measure => omega
          case rel => exact ⟨j + 1, by go_num, by omega, rfl, ⟨HG.out _⟩⟩
        · have hltz : ¬ (j : Int) < (no : Int) := by omega
          go_wp2
          go_roundg 1
          case measure => omega
          case rel => exact ⟨2, rfl, .inr (.inr (.inl ⟨rfl, rfl⟩)), HR3⟩
    · have hx := HR3.out.cell.2.2
      have hn63 : nm ≤ 9223372036854775807 := by have := NL.out; omega
      go_wp2_with fail
      go_loopg [107] nm (fun kq v107 w' => ∃ j : Nat, v107 = .int .i64 (j : Int) ∧ j ≤ nm ∧ kq = nm - j ∧ Aside0 (Rows3 w_b.heap.size w_b w_g2.heap.size (.slice A_u nu k_u) (.slice A_o no k_o) (.slice A_m nm k_m) nu no nm w'))
      case atStart => exact ⟨0, rfl, by omega, by omega, HR3⟩
      case round =>
        clear HR3 hx
        obtain ⟨j, rfl, hj, hk, HR3⟩ := hrel
        by_cases hlt : j < nm
        · have hltz : (j : Int) < (nm : Int) := by omega
          have hj63 : (j : Int) < 9223372036854775807 := by omega
          obtain ⟨g, cap, he, hg, hcur, hcell⟩ := HR3.out.l3.at (by omega)
          obtain ⟨z, hz, hf⟩ := hcell j hlt
          injection he with he1 _ he2
          subst he1 he2
          have HG := Aside0.mk (fun z' => HR3.out.put hg hcur j z')
          clear hcell hcur hg
          go_wp2
          go_roundg (nm - (j + 1))
          case measure => omega
          case rel => exact ⟨j + 1, by go_num, by omega, rfl, ⟨HG.out _⟩⟩
        · have hltz : ¬ (j : Int) < (nm : Int) := by omega
          go_wp2
          go_roundg 0
          case measure => omega
          case rel => exact ⟨3, rfl, .inr (.inr (.inr ⟨rfl, rfl⟩)), HR3⟩
    · have Tb := Aside0.mk HR3.out.below
      have Ta := Aside0.mk (Bab.out.trans (HR3.out.below.mono Bab.out.size))
      have T0 := Aside0.mk (B0b.out.trans (HR3.out.below.mono B0b.out.size))
      clear HR3 NL
      go_wp2_with (first | (go_at_call 9; (with_reducible refine (F0.out _).mono ?_); rintro e w' ⟨rfl, ⟨ndf2, rfl⟩⟩) | (go_at_call 8; (with_reducible refine (dowserref04_Of.calls k A0 c0 y0 a _ ?z0 ?z1 Qa2.out).mono ?_); (case z0 => exact (S0.out _ (by repeat (first | exact T0.out | apply pw_below_drewN)))); (case z1 => exact K0.out); (try clear Qa2); rintro e w_ax ⟨v_ax, rfl, hR, hb⟩; have n_ := Aside0.mk (below_step (by repeat (first | exact T0.out | apply pw_below_drewN)) hb); clear T0; have T0 := n_; clear n_; have n_ := Aside0.mk (below_step (by repeat (first | exact Ta.out | apply pw_below_drewN)) hb); clear Ta; have Ta := n_; clear n_; have n_ := Aside0.mk (below_step (by repeat (first | exact Tb.out | apply pw_below_drewN)) hb); clear Tb; have Tb := n_; clear n_; obtain ⟨A_ax, k_ax, rfl, hl_, hc_⟩ := Kd.R_reads hR; have Sax : Aside0 (∀ W, Below w_ax.heap.size w_ax W → Kd.C (Kd.int .i64) W A_ax a.length a) := ⟨fun W hW => Kd.C_below hc_ hW⟩; have Lax := Aside0.mk hl_; clear hR hb hl_ hc_) | (go_at_call 17; (with_reducible refine (dowserref04_Same.calls k A_a k_a a A_ax k_ax a true _ ?z0 ?z1 ?z2 ?z3 Qs1.out).mono ?_); (case z0 => exact Sa.out _ (by repeat (first | exact Ta.out | apply pw_below_drewN))); (case z1 => exact La.out); (case z2 => exact Sax.out _ (by repeat (first | exact Below.refl _ _ | apply pw_below_drewN))); (case z3 => exact Lax.out); rintro e w' ⟨rfl, ⟨nd_Qs1, rfl⟩⟩) | (go_at_call 9; (with_reducible refine (F1.out _).mono ?_); rintro e w' ⟨rfl, ⟨ndf3, rfl⟩⟩) | (go_at_call 8; (with_reducible refine (dowserref04_Of.calls k A1 c1_ y1 b _ ?z0 ?z1 Qb2.out).mono ?_); (case z0 => exact (S1.out _ (by repeat (first | exact T0.out | apply pw_below_drewN)))); (case z1 => exact K1.out); (try clear Qb2); rintro e w_bx ⟨v_bx, rfl, hR, hb⟩; have n_ := Aside0.mk (below_step (by repeat (first | exact T0.out | apply pw_below_drewN)) hb); clear T0; have T0 := n_; clear n_; have n_ := Aside0.mk (below_step (by repeat (first | exact Ta.out | apply pw_below_drewN)) hb); clear Ta; have Ta := n_; clear n_; have n_ := Aside0.mk (below_step (by repeat (first | exact Tb.out | apply pw_below_drewN)) hb); clear Tb; have Tb := n_; clear n_; obtain ⟨A_bx, k_bx, rfl, hl_, hc_⟩ := Kd.R_reads hR; have Sbx : Aside0 (∀ W, Below w_bx.heap.size w_bx W → Kd.C (Kd.int .i64) W A_bx b.length b) := ⟨fun W hW => Kd.C_below hc_ hW⟩; have Lbx := Aside0.mk hl_; clear hR hb hl_ hc_) | (go_at_call 17; (with_reducible refine (dowserref04_Same.calls k A_b k_b b A_bx k_bx b true _ ?z0 ?z1 ?z2 ?z3 Qs2.out).mono ?_); (case z0 => exact Sb.out _ (by repeat (first | exact Tb.out | apply pw_below_drewN))); (case z1 => exact Lb.out); (case z2 => exact Sbx.out _ (by repeat (first | exact Below.refl _ _ | apply pw_below_drewN))); (case z3 => exact Lbx.out); rintro e w' ⟨rfl, ⟨nd_Qs2, rfl⟩⟩))
      go_ret
      exact ⟨rfl, by repeat (first | exact T0.out | apply pw_below_drewN)⟩
end

/-- THE ONE PURE STATEMENT of dowserlaw04_IdsTwo: yours. -/
def dowserlaw04_IdsTwo.Pure : Prop := ∀ (l0 : List Int) (l1 : List Int), l0.length ≤ maxLen → l0.length * 8 ≤ 140737488351232 → (∀ x ∈ l0, (Lit.int .i64 x).wf = true) → l1.length ≤ maxLen → l1.length * 8 ≤ 140737488351232 → (∀ x ∈ l1, (Lit.int .i64 x).wf = true) → ∃ k, dowserlaw04_IdsTwo.f k l0 l1 = some true
theorem dowserlaw04_IdsTwo.walk (P : dowserlaw04_IdsTwo.Pure) (a0 : Option Addr) (len0 cap0 : Nat) (z0 : List Int) (a1 : Option Addr) (len1 cap1 : Nat) (z1 : List Int) (w : World) (w0 : (a0 = none ∧ len0 = 0 ∧ cap0 = 0 ∧ z0 = []) ∨ ∃ x, a0 = some x ∧ len0 ≤ cap0 ∧ cap0 ≤ maxLen ∧ z0.length = cap0 ∧ (∀ i, i < z0.length → w.cell? (x.add i) = some (.int .i64 (z0.getD i 0))) ∧ ∀ n ∈ z0, (Lit.int .i64 n).wf = true) (y0 : len0 * 8 ≤ 140737488351232) (w1 : (a1 = none ∧ len1 = 0 ∧ cap1 = 0 ∧ z1 = []) ∨ ∃ x, a1 = some x ∧ len1 ≤ cap1 ∧ cap1 ≤ maxLen ∧ z1.length = cap1 ∧ (∀ i, i < z1.length → w.cell? (x.add i) = some (.int .i64 (z1.getD i 0))) ∧ ∀ n ∈ z1, (Lit.int .i64 n).wf = true) (y1 : len1 * 8 ≤ 140737488351232) :
    Calls Try.prog 6 #[.slice a0 len0 cap0, .slice a1 len1 cap1] w fun e w' => e = .returned (.bool true) ∧ Below w.heap.size w w' := by
  obtain ⟨l0, rfl, hr0, hm0, hw0, hc0⟩ := ReadsInt.ofRowC w0
  obtain ⟨l1, rfl, hr1, hm1, hw1, hc1⟩ := ReadsInt.ofRowC w1
  obtain ⟨k, h⟩ := P l0 l1 hm0 y0 hw0 hm1 y1 hw1
  refine (dowserlaw04_IdsTwo.calls k _ _ l0 _ _ l1 true w (Kd.C_of_reads (d := (0 : Int)) (h1 := fun _ => rfl) hr0) hc0 (Kd.C_of_reads (d := (0 : Int)) (h1 := fun _ => rfl) hr1) hc1 h).mono ?_
  rintro e w' ⟨rfl, hd⟩
  exact ⟨rfl, hd⟩

end Go.Proofs.Ytgjncbnjgmfjeaa.PA

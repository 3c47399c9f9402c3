-- Written by this session's own program wip/bin/dprint.py, over the kit's print.py, with own texts for some functions: no print of print.sh's
import Derived.Test.YtgjncbnjgmfjeaaPAx0
namespace Go.Proofs.Ytgjncbnjgmfjeaa.PA
open Go.RowKit Go.Proofs.YtgjncbnjgmfjeaaW.PrintWords Go.Proofs.YtgjncbnjgmfjeaaW.PrintLast Go.Proofs.YtgjncbnjgmfjeaaW.PrintMore
attribute [local go_sem] max2_int min2_int max_two min_two max_three min_three max_four min_four   -- for this text's walks alone
set_option linter.unusedVariables false
set_option linter.unusedSimpArgs false


/-! ### ids_walk: function 31 (own text) -/
section
/-- Two lists gone through at once, by what stands at their heads: of each number in which of them it is; till 'step' says no. -/
def walkN {σ : Type} (step : σ → Int → Bool → Bool → σ × Bool) : Nat → List Int → List Int → σ → σ
  | 0, _, _, s => s
  | _ + 1, [], [], s => s
  | n + 1, [], y :: b, s => if (step s y false true).2 = true then walkN step n [] b (step s y false true).1 else (step s y false true).1
  | n + 1, x :: a, [], s => if (step s x true false).2 = true then walkN step n a [] (step s x true false).1 else (step s x true false).1
  | n + 1, x :: a, y :: b, s =>
    if x < y then (if (step s x true false).2 = true then walkN step n a (y :: b) (step s x true false).1 else (step s x true false).1)
    else if y < x then (if (step s y false true).2 = true then walkN step n (x :: a) b (step s y false true).1 else (step s y false true).1)
    else (if (step s x true true).2 = true then walkN step n a b (step s x true true).1 else (step s x true true).1)
/-- A row that stays as it is in all worlds that are as w0 below B0. -/
def Stays (B0 : Nat) (w0 : World) (A : Option Addr) (c : Nat) (l : List Int) : Prop := l.length ≤ c ∧ ∀ W, Below B0 w0 W → Kd.C (Kd.int .i64) W A l.length l
theorem Stays.tail {B0 : Nat} {w0 : World} {A : Option Addr} {c : Nat} {x : Int} {l : List Int} (h : Stays B0 w0 A c (x :: l)) : Stays B0 w0 (if c = 1 then A else A.map (·.add 1)) (c - 1) l := by
  obtain ⟨h1, h2⟩ := h
  rw [List.length_cons] at h1
  refine ⟨by omega, fun W hW => ?_⟩
  have := Kd.C_drop (c := c) (m := 1) (h2 W hW) (by simp) (by rw [List.length_cons]; exact h1)
  simpa [Kd.int, Kd.scalar] using this
theorem Stays.head {B0 : Nat} {w0 : World} {A : Option Addr} {c : Nat} {x : Int} {l : List Int} (h : Stays B0 w0 A c (x :: l)) (W : World) (hW : Below B0 w0 W) : ∃ ad, A = some ad ∧ W.cell? ad = some (.int .i64 x) := by
  obtain ⟨ad, e, hx⟩ := Kd.at_int (h.2 W hW) 0 (by omega) (by simp)
  refine ⟨ad, e, ?_⟩
  simpa [Addr.add, rd] using hx
set_option maxHeartbeats 8000000 in
set_option maxRecDepth 100000 in
theorem walkCalls {σ : Type} (step : σ → Int → Bool → Bool → σ × Bool) (I : Nat → σ → World → Prop) (B0 : Nat) (w0 : World) (g : Nat) (cb : Array Value)
    (eg : ∀ args w, (callFunc g args).run Try.prog w = .ok (.enter g args) w) (hI : ∀ k s W, I k s W → Below B0 w0 W) (hD : ∀ k s W n, I k s W → I k s (W.drewN n)) (hmo : ∀ k s W, 0 ≤ k → I k s W → I 0 s W)
    (hy : ∀ k s x p q W, I (k + 1) s W → Calls Try.prog g (#[.int .i64 x, .bool p, .bool q] ++ cb) W fun e W' => e = .returned (.bool (step s x p q).2) ∧ I k (step s x p q).1 W')
    (s0 : σ) (w : World) (A : Option Addr) (c : Nat) (la : List Int) (A' : Option Addr) (d : Nat) (lb : List Int) (ha : Stays B0 w0 A c la) (hb : Stays B0 w0 A' d lb) (h0 : I (la.length + lb.length) s0 w) (hm : la.length + lb.length ≤ 1000000) :
    Calls Try.prog 31 #[.slice A la.length c, .slice A' lb.length d, .func (.func g) #[] cb] w fun e W' => e = .returned (.tuple #[]) ∧ I 0 (walkN step (la.length + lb.length) la lb s0) W' := by
  obtain ⟨R, hR⟩ : ∃ R, R = walkN step (la.length + lb.length) la lb s0 := ⟨_, rfl⟩
  rw [← hR]
  have HR := Aside0.mk hR.symm
  have HA := Aside0.mk ha
  have HB := Aside0.mk hb
  have H0 := Aside0.mk h0
  have HY := Aside0.mk hy
  have HI := Aside0.mk hI
  have HMO := Aside0.mk hmo
  have HD := Aside0.mk hD
  have HM := Aside0.mk hm
  clear hR ha hb h0 hy hI hD hm hmo
  go_enter Try.func31, Try.ntmps31
  go_wp2_with fail
  go_loopg [0, 1] (la.length + lb.length) (fun kq v0 v1 w' => ∃ (A : Option Addr) (c n : Nat) (la : List Int) (A' : Option Addr) (d m : Nat) (lb : List Int) (s : σ) (f : Nat), v0 = .slice A n c ∧ v1 = .slice A' m d ∧ kq = n + m ∧ kq ≤ 1000000 ∧ n ≤ c ∧ m ≤ d ∧ n + m ≤ f ∧ Aside0 (n = la.length) ∧ Aside0 (m = lb.length) ∧ Aside0 (Stays B0 w0 A c la) ∧ Aside0 (Stays B0 w0 A' d lb) ∧ Aside0 (I f s w') ∧ Aside0 (walkN step f la lb s = R))
  case atStart => exact ⟨A, c, _, la, A', d, _, lb, s0, _, rfl, rfl, rfl, HM.out, HA.out.1, HB.out.1, Nat.le_refl _, ⟨rfl⟩, ⟨rfl⟩, HA, HB, H0, HR⟩
  case round =>
    clear HA HB H0 HR HM
    obtain ⟨A, c, n, la, A', d, m, lb, s, f, rfl, rfl, rfl, hk, hnc, hmd, hf, hn, hm, HA, HB, H0, HR⟩ := hrel
    cases la with
    | nil =>
      have hn0 : n = 0 := hn.out
      subst hn0
      cases lb with
      | nil =>
        have hm0 : m = 0 := hm.out
        subst hm0
        have hr : s = R := by have h_ := HR.out; cases f <;> exact h_
        subst hr
        go_wp2
        go_end0
        exact ⟨rfl, HMO.out _ _ _ (Nat.zero_le _) H0.out⟩
      | cons y lb =>
        obtain ⟨ad, rfl, hc⟩ := HB.out.head wr (HI.out _ _ _ H0.out)
        have HBT := Aside0.mk HB.out.tail
        obtain ⟨m, rfl⟩ : ∃ q, m = q + 1 := ⟨m - 1, by rw [hm.out, List.length_cons]; omega⟩
        have hm' : Aside0 (m = lb.length) := ⟨by have := hm.out; rw [List.length_cons] at this; omega⟩
        obtain ⟨M, hEM⟩ : ∃ M : Nat, M = m + 1 := ⟨_, rfl⟩
        have hZM : (0 : Int) < (M : Int) := by omega
        have hOM : (1 : Int) ≤ (M : Int) := by omega
        have hSM : M ≤ 1000000 := by omega
        have hBM : ((M : Int) == 0) = false := by rw [beq_eq_false_iff_ne]; omega
        have hGM : decide ((0 : Int) < (M : Int)) = true := decide_eq_true hZM
        have hHM : decide (0 < M) = true := decide_eq_true (by omega)
        have HV1M : Aside0 (d = 1 → Value.slice (some ad) (M - 1) 0 = Value.slice (if d = 1 then some ad else Option.map (·.add 1) (some ad)) m (d - 1)) := ⟨fun h => by subst h; rw [hEM]; rfl⟩
        have HV2M : Aside0 (¬ d = 1 → Value.slice (some (ad.add 1)) (M - 1) (d - 1) = Value.slice (if d = 1 then some ad else Option.map (·.add 1) (some ad)) m (d - 1)) := ⟨fun h => by rw [if_neg h, hEM]; rfl⟩
        have HEM := Aside0.mk hEM
        obtain ⟨f, rfl⟩ : ∃ q, f = q + 1 := ⟨f - 1, by omega⟩
        have hcall : ∀ W, I (f + 1) s W → Calls Try.prog g (#[.int .i64 y, .bool false, .bool true] ++ cb) W fun e W' => e = .returned (.bool (step s y false true).2) ∧ I f (step s y false true).1 W' := fun W hW => HY.out f s y false true W hW
        obtain ⟨s', hs'⟩ : ∃ s', s' = (step s y false true).1 := ⟨_, rfl⟩
        rw [← hs'] at hcall
        rw [← hEM]
        clear hEM hm HB
        cases hb2 : (step s y false true).2 with
        | false =>
          rw [hb2] at hcall
          have HC := Aside0.mk hcall
          have hr : s' = R := by have h_ := HR.out; simp only [walkN, hb2] at h_; rw [if_neg (by decide), ← hs'] at h_; exact h_
          clear hcall hb2 HR HY hs'
          subst hr
          go_wp2_with fail
          go_quiet (fail)
          go_wp2_with fail
          go_quiet (fail)
          go_wp2_with fail
          go_quiet (fail)
          all_goals (go_wp2_with (first | (go_at_fn g; refine (HC.out _ (by repeat (first | exact H0.out | apply HD.out))).mono ?_; rintro e w2 ⟨rfl, hi2⟩; have H2 := Aside0.mk hi2; clear hi2)))
          all_goals ((try simp only [Exit.inBlock, Exit.then]); refine bodyPost_ret (results_none rfl _ _ _) rfl ?_; exact ⟨rfl, HMO.out _ _ _ (Nat.zero_le _) H2.out⟩)
        | true =>
          rw [hb2] at hcall
          have HC := Aside0.mk hcall
          have hr : Aside0 (walkN step f [] lb s' = R) := ⟨by have h_ := HR.out; simp only [walkN, hb2] at h_; (first | rw [if_pos trivial] at h_ | rw [if_pos rfl] at h_); rw [← hs'] at h_; exact h_⟩
          clear hcall hb2 HR hs'
          go_wp2_with fail
          go_quiet (fail)
          go_wp2_with fail
          go_quiet (fail)
          go_wp2_with fail
          go_quiet (fail)
          all_goals (go_wp2_with (first | (go_at_fn g; refine (HC.out _ (by repeat (first | exact H0.out | apply HD.out))).mono ?_; rintro e w2 ⟨rfl, hi2⟩; have H2 := Aside0.mk hi2; clear hi2)))
          all_goals (go_roundg (m); (case measure => omega); (case rel => exact ⟨A, c, 0, [], _, d - 1, m, lb, s', f, rfl, (by first | exact HV1M.out (by assumption) | exact HV2M.out (by assumption)), by omega, (by have := HEM.out; omega), by omega, (by have := HEM.out; omega), by omega, hn, hm', HA, HBT, H2, hr⟩))
    | cons x la =>
      obtain ⟨ac, rfl, hca⟩ := HA.out.head wr (HI.out _ _ _ H0.out)
      have HAT := Aside0.mk HA.out.tail
      obtain ⟨n, rfl⟩ : ∃ q, n = q + 1 := ⟨n - 1, by rw [hn.out, List.length_cons]; omega⟩
      have hn' : Aside0 (n = la.length) := ⟨by have := hn.out; rw [List.length_cons] at this; omega⟩
      obtain ⟨N, hEN⟩ : ∃ N : Nat, N = n + 1 := ⟨_, rfl⟩
      have hZN : (0 : Int) < (N : Int) := by omega
      have hON : (1 : Int) ≤ (N : Int) := by omega
      have hSN : N ≤ 1000000 := by omega
      have hBN : ((N : Int) == 0) = false := by rw [beq_eq_false_iff_ne]; omega
      have hGN : decide ((0 : Int) < (N : Int)) = true := decide_eq_true hZN
      have hHN : decide (0 < N) = true := decide_eq_true (by omega)
      have HV1N : Aside0 (c = 1 → Value.slice (some ac) (N - 1) 0 = Value.slice (if c = 1 then some ac else Option.map (·.add 1) (some ac)) n (c - 1)) := ⟨fun h => by subst h; rw [hEN]; rfl⟩
      have HV2N : Aside0 (¬ c = 1 → Value.slice (some (ac.add 1)) (N - 1) (c - 1) = Value.slice (if c = 1 then some ac else Option.map (·.add 1) (some ac)) n (c - 1)) := ⟨fun h => by rw [if_neg h, hEN]; rfl⟩
      have HEN := Aside0.mk hEN
      cases lb with
      | nil =>
        have hm0 : m = 0 := hm.out
        subst hm0
        obtain ⟨f, rfl⟩ : ∃ q, f = q + 1 := ⟨f - 1, by omega⟩
        have hcall : ∀ W, I (f + 1) s W → Calls Try.prog g (#[.int .i64 x, .bool true, .bool false] ++ cb) W fun e W' => e = .returned (.bool (step s x true false).2) ∧ I f (step s x true false).1 W' := fun W hW => HY.out f s x true false W hW
        obtain ⟨s', hs'⟩ : ∃ s', s' = (step s x true false).1 := ⟨_, rfl⟩
        rw [← hs'] at hcall
        rw [← hEN]
        clear hEN hn HA
        cases hb2 : (step s x true false).2 with
        | false =>
          rw [hb2] at hcall
          have HC := Aside0.mk hcall
          have hr : s' = R := by have h_ := HR.out; simp only [walkN, hb2] at h_; rw [if_neg (by decide), ← hs'] at h_; exact h_
          clear hcall hb2 HR HY hs'
          subst hr
          go_wp2_with fail
          go_quiet (fail)
          go_wp2_with fail
          go_quiet (fail)
          go_wp2_with fail
          go_quiet (fail)
          all_goals (go_wp2_with (first | (go_at_fn g; refine (HC.out _ (by repeat (first | exact H0.out | apply HD.out))).mono ?_; rintro e w2 ⟨rfl, hi2⟩; have H2 := Aside0.mk hi2; clear hi2)))
          all_goals ((try simp only [Exit.inBlock, Exit.then]); refine bodyPost_ret (results_none rfl _ _ _) rfl ?_; exact ⟨rfl, HMO.out _ _ _ (Nat.zero_le _) H2.out⟩)
        | true =>
          rw [hb2] at hcall
          have HC := Aside0.mk hcall
          have hr : Aside0 (walkN step f la [] s' = R) := ⟨by have h_ := HR.out; simp only [walkN, hb2] at h_; (first | rw [if_pos trivial] at h_ | rw [if_pos rfl] at h_); rw [← hs'] at h_; exact h_⟩
          clear hcall hb2 HR hs'
          go_wp2_with fail
          go_quiet (fail)
          go_wp2_with fail
          go_quiet (fail)
          go_wp2_with fail
          go_quiet (fail)
          all_goals (go_wp2_with (first | (go_at_fn g; refine (HC.out _ (by repeat (first | exact H0.out | apply HD.out))).mono ?_; rintro e w2 ⟨rfl, hi2⟩; have H2 := Aside0.mk hi2; clear hi2)))
          all_goals (go_roundg (n); (case measure => omega); (case rel => exact ⟨_, c - 1, n, la, A', d, 0, [], s', f, (by first | exact HV1N.out (by assumption) | exact HV2N.out (by assumption)), rfl, by omega, (by have := HEN.out; omega), (by have := HEN.out; omega), by omega, by omega, hn', hm, HAT, HB, H2, hr⟩))
      | cons y lb =>
        obtain ⟨ad, rfl, hc⟩ := HB.out.head wr (HI.out _ _ _ H0.out)
        have HBT := Aside0.mk HB.out.tail
        obtain ⟨m, rfl⟩ : ∃ q, m = q + 1 := ⟨m - 1, by rw [hm.out, List.length_cons]; omega⟩
        have hm' : Aside0 (m = lb.length) := ⟨by have := hm.out; rw [List.length_cons] at this; omega⟩
        obtain ⟨M, hEM⟩ : ∃ M : Nat, M = m + 1 := ⟨_, rfl⟩
        have hZM : (0 : Int) < (M : Int) := by omega
        have hOM : (1 : Int) ≤ (M : Int) := by omega
        have hSM : M ≤ 1000000 := by omega
        have hBM : ((M : Int) == 0) = false := by rw [beq_eq_false_iff_ne]; omega
        have hGM : decide ((0 : Int) < (M : Int)) = true := decide_eq_true hZM
        have hHM : decide (0 < M) = true := decide_eq_true (by omega)
        have HV1M : Aside0 (d = 1 → Value.slice (some ad) (M - 1) 0 = Value.slice (if d = 1 then some ad else Option.map (·.add 1) (some ad)) m (d - 1)) := ⟨fun h => by subst h; rw [hEM]; rfl⟩
        have HV2M : Aside0 (¬ d = 1 → Value.slice (some (ad.add 1)) (M - 1) (d - 1) = Value.slice (if d = 1 then some ad else Option.map (·.add 1) (some ad)) m (d - 1)) := ⟨fun h => by rw [if_neg h, hEM]; rfl⟩
        have HEM := Aside0.mk hEM
        rcases Int.lt_trichotomy x y with hxy | hxy | hxy
        · obtain ⟨f, rfl⟩ : ∃ q, f = q + 1 := ⟨f - 1, by omega⟩
          have hcall : ∀ W, I (f + 1) s W → Calls Try.prog g (#[.int .i64 x, .bool true, .bool false] ++ cb) W fun e W' => e = .returned (.bool (step s x true false).2) ∧ I f (step s x true false).1 W' := fun W hW => HY.out f s x true false W hW
          obtain ⟨s', hs'⟩ : ∃ s', s' = (step s x true false).1 := ⟨_, rfl⟩
          rw [← hs'] at hcall
          rw [← hEM, ← hEN]
          have hq1 : decide (x ≤ y) = true := decide_eq_true (by omega)
          have hq2 : decide (y ≤ x) = false := decide_eq_false (by omega)
          clear hEM hEN hn HA
          cases hb2 : (step s x true false).2 with
          | false =>
            rw [hb2] at hcall
            have HC := Aside0.mk hcall
            have hr : s' = R := by have h_ := HR.out; simp only [walkN] at h_; rw [if_pos hxy, hb2] at h_; rw [if_neg (by decide), ← hs'] at h_; exact h_
            clear hcall hb2 HR HY hs'
            subst hr
            go_wp2_with fail
            go_quiet (fail)
            go_wp2_with fail
            go_quiet (fail)
            go_wp2_with fail
            go_quiet (fail)
            all_goals (go_wp2_with (first | (go_at_fn g; refine (HC.out _ (by repeat (first | exact H0.out | apply HD.out))).mono ?_; rintro e w2 ⟨rfl, hi2⟩; have H2 := Aside0.mk hi2; clear hi2)))
            all_goals ((try simp only [Exit.inBlock, Exit.then]); refine bodyPost_ret (results_none rfl _ _ _) rfl ?_; exact ⟨rfl, HMO.out _ _ _ (Nat.zero_le _) H2.out⟩)
          | true =>
            rw [hb2] at hcall
            have HC := Aside0.mk hcall
            have hr : Aside0 (walkN step f la (y :: lb) s' = R) := ⟨by have h_ := HR.out; simp only [walkN] at h_; rw [if_pos hxy, hb2] at h_; (first | rw [if_pos trivial] at h_ | rw [if_pos rfl] at h_); rw [← hs'] at h_; exact h_⟩
            clear hcall hb2 HR hs'
            go_wp2_with fail
            go_quiet (fail)
            go_wp2_with fail
            go_quiet (fail)
            go_wp2_with fail
            go_quiet (fail)
            all_goals (go_wp2_with (first | (go_at_fn g; refine (HC.out _ (by repeat (first | exact H0.out | apply HD.out))).mono ?_; rintro e w2 ⟨rfl, hi2⟩; have H2 := Aside0.mk hi2; clear hi2)))
            all_goals (go_roundg (n + m + 1); (case measure => omega); (case rel => exact ⟨_, c - 1, n, la, some ad, d, M, y :: lb, s', f, (by first | exact HV1N.out (by assumption) | exact HV2N.out (by assumption)), rfl, (by have := HEM.out; omega), by omega, (by have := HEN.out; omega), (by have := HEM.out; omega), (by have := HEM.out; omega), hn', ⟨by rw [HEM.out]; exact hm.out⟩, HAT, HB, H2, hr⟩))
        · subst hxy
          obtain ⟨f, rfl⟩ : ∃ q, f = q + 1 := ⟨f - 1, by omega⟩
          have hcall : ∀ W, I (f + 1) s W → Calls Try.prog g (#[.int .i64 x, .bool true, .bool true] ++ cb) W fun e W' => e = .returned (.bool (step s x true true).2) ∧ I f (step s x true true).1 W' := fun W hW => HY.out f s x true true W hW
          obtain ⟨s', hs'⟩ : ∃ s', s' = (step s x true true).1 := ⟨_, rfl⟩
          rw [← hs'] at hcall
          rw [← hEM, ← hEN]
          have hq1 : decide (x ≤ x) = true := decide_eq_true (by omega)
          clear hEM hEN hm hn HA HB
          cases hb2 : (step s x true true).2 with
          | false =>
            rw [hb2] at hcall
            have HC := Aside0.mk hcall
            have hr : s' = R := by have h_ := HR.out; simp only [walkN] at h_; rw [if_neg (by omega), if_neg (by omega), hb2] at h_; rw [if_neg (by decide), ← hs'] at h_; exact h_
            clear hcall hb2 HR HY hs'
            subst hr
            go_wp2_with fail
            go_quiet (fail)
            go_wp2_with fail
            go_quiet (fail)
            go_wp2_with fail
            go_quiet (fail)
            go_wp2_with fail
            all_goals (go_quiet (fail))
            all_goals (go_wp2_with (first | (go_at_fn g; refine (HC.out _ (by repeat (first | exact H0.out | apply HD.out))).mono ?_; rintro e w2 ⟨rfl, hi2⟩; have H2 := Aside0.mk hi2; clear hi2)))
            all_goals ((try simp only [Exit.inBlock, Exit.then]); refine bodyPost_ret (results_none rfl _ _ _) rfl ?_; exact ⟨rfl, HMO.out _ _ _ (Nat.zero_le _) H2.out⟩)
          | true =>
            rw [hb2] at hcall
            have HC := Aside0.mk hcall
            have hr : Aside0 (walkN step f la lb s' = R) := ⟨by have h_ := HR.out; simp only [walkN] at h_; rw [if_neg (by omega), if_neg (by omega), hb2] at h_; (first | rw [if_pos trivial] at h_ | rw [if_pos rfl] at h_); rw [← hs'] at h_; exact h_⟩
            clear hcall hb2 HR hs'
            go_wp2_with fail
            go_quiet (fail)
            go_wp2_with fail
            go_quiet (fail)
            go_wp2_with fail
            go_quiet (fail)
            go_wp2_with fail
            all_goals (go_quiet (fail))
            all_goals (go_wp2_with (first | (go_at_fn g; refine (HC.out _ (by repeat (first | exact H0.out | apply HD.out))).mono ?_; rintro e w2 ⟨rfl, hi2⟩; have H2 := Aside0.mk hi2; clear hi2)))
            all_goals (go_roundg (n + m); (case measure => omega); (case rel => exact ⟨_, c - 1, n, la, _, d - 1, m, lb, s', f, (by first | exact HV1N.out (by assumption) | exact HV2N.out (by assumption)), (by first | exact HV1M.out (by assumption) | exact HV2M.out (by assumption)), rfl, by omega, (by have := HEN.out; omega), (by have := HEM.out; omega), by omega, hn', hm', HAT, HBT, H2, hr⟩))
        · obtain ⟨f, rfl⟩ : ∃ q, f = q + 1 := ⟨f - 1, by omega⟩
          have hcall : ∀ W, I (f + 1) s W → Calls Try.prog g (#[.int .i64 y, .bool false, .bool true] ++ cb) W fun e W' => e = .returned (.bool (step s y false true).2) ∧ I f (step s y false true).1 W' := fun W hW => HY.out f s y false true W hW
          obtain ⟨s', hs'⟩ : ∃ s', s' = (step s y false true).1 := ⟨_, rfl⟩
          rw [← hs'] at hcall
          rw [← hEM, ← hEN]
          have hq1 : decide (x ≤ y) = false := decide_eq_false (by omega)
          have hq2 : decide (y ≤ x) = true := decide_eq_true (by omega)
          clear hEM hEN hm HB
          cases hb2 : (step s y false true).2 with
          | false =>
            rw [hb2] at hcall
            have HC := Aside0.mk hcall
            have hr : s' = R := by have h_ := HR.out; simp only [walkN] at h_; rw [if_neg (by omega), if_pos hxy, hb2] at h_; rw [if_neg (by decide), ← hs'] at h_; exact h_
            clear hcall hb2 HR HY hs'
            subst hr
            go_wp2_with fail
            go_quiet (fail)
            go_wp2_with fail
            go_quiet (fail)
            go_wp2_with fail
            go_quiet (fail)
            all_goals (go_wp2_with (first | (go_at_fn g; refine (HC.out _ (by repeat (first | exact H0.out | apply HD.out))).mono ?_; rintro e w2 ⟨rfl, hi2⟩; have H2 := Aside0.mk hi2; clear hi2)))
            all_goals ((try simp only [Exit.inBlock, Exit.then]); refine bodyPost_ret (results_none rfl _ _ _) rfl ?_; exact ⟨rfl, HMO.out _ _ _ (Nat.zero_le _) H2.out⟩)
          | true =>
            rw [hb2] at hcall
            have HC := Aside0.mk hcall
            have hr : Aside0 (walkN step f (x :: la) lb s' = R) := ⟨by have h_ := HR.out; simp only [walkN] at h_; rw [if_neg (by omega), if_pos hxy, hb2] at h_; (first | rw [if_pos trivial] at h_ | rw [if_pos rfl] at h_); rw [← hs'] at h_; exact h_⟩
            clear hcall hb2 HR hs'
            go_wp2_with fail
            go_quiet (fail)
            go_wp2_with fail
            go_quiet (fail)
            go_wp2_with fail
            go_quiet (fail)
            all_goals (go_wp2_with (first | (go_at_fn g; refine (HC.out _ (by repeat (first | exact H0.out | apply HD.out))).mono ?_; rintro e w2 ⟨rfl, hi2⟩; have H2 := Aside0.mk hi2; clear hi2)))
            all_goals (go_roundg (n + m + 1); (case measure => omega); (case rel => exact ⟨some ac, c, N, x :: la, _, d - 1, m, lb, s', f, rfl, (by first | exact HV1M.out (by assumption) | exact HV2M.out (by assumption)), (by have := HEN.out; omega), by omega, (by have := HEN.out; omega), (by have := HEM.out; omega), (by have := HEN.out; omega), ⟨by rw [HEN.out]; exact hn.out⟩, hm', HA, HBT, H2, hr⟩))
end

end Go.Proofs.Ytgjncbnjgmfjeaa.PA

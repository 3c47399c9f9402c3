import Derived.Test.YtgfjjhfkgfnpaaaPBx19
import Derived.Test.YtgfjjhfkgfnpaaaAt0
import Derived.Deep.RegionHeld3
namespace Go.Proofs.Ytgfjjhfkgfnpaaa.PB
open Go.RowKit Go.Proofs.YtgfjjhfkgfnpaaaW.PrintWords Go.Proofs.YtgfjjhfkgfnpaaaW.PrintLast Go.Proofs.YtgfjjhfkgfnpaaaW.PrintMore
set_option linter.unusedVariables false
set_option linter.unusedSimpArgs false
theorem at15_f (x n : Int) (h1 : 1 ≤ n) (h2 : n ≤ 1099511627776) : dowserlaw15_at.f x n = some (x % n) := by
  unfold dowserlaw15_at.f
  rw [if_neg (by omega)]
  congr 1
  have hb1 := Int.tmod_lt_of_pos x (show 0 < n by omega)
  have hb2 : -n < Int.tmod x n := Int.lt_tmod_of_pos x (by omega)
  have hw : wrap64 (Int.tmod x n + n) = Int.tmod x n + n := by unfold wrap64; omega
  rw [hw, Int.tmod_eq_emod_of_nonneg (by omega), Int.tmod_def]
  rw [show x - n * Int.tdiv x n + n = x + n * (1 - Int.tdiv x n) by rw [Int.mul_sub]; omega, Int.add_mul_emod_self_left]
theorem at15_ (x n : Int) (h1 : 1 ≤ n) (h2 : n ≤ 1099511627776) (w : World) : Calls Try.prog 28 #[.int .i64 x, .int .i64 n] w fun e w' => e = .returned (.int .i64 (x % n)) ∧ Drawn0 w w' := dowserlaw15_at.calls x n _ w (at15_f x n h1 h2)
/-- A number of a variable, or none. -/
theorem ans15_ (x V : Int) (g : Nat) (w : World) (h1 : 1 ≤ V) (h2 : V ≤ 100) (hb : w.cell? ⟨g, 0, none⟩ = some (.int .i64 V)) : Calls Try.prog 30 #[.int .i64 x, .pointer (some ⟨g, 0, none⟩)] w fun e w' => e = .returned (.int .i64 (x % (V + 1) - 1)) ∧ Drawn0 w w' := by
  have AT := Aside0.mk (fun W => at15_ x (V + 1) (by omega) (by omega) W)
  obtain ⟨m, hm⟩ : ∃ m, m = x % (V + 1) := ⟨_, rfl⟩
  have hm0 : 0 ≤ m := by rw [hm]; exact Int.emod_nonneg _ (by omega)
  have hm1 : m ≤ 101 := by rw [hm]; have := Int.emod_lt_of_pos x (show 0 < V + 1 by omega); omega
  rw [← hm] at AT ⊢
  have hv2 : wrap64 (V + 1) = V + 1 := by unfold wrap64; omega
  have hs2 : wrap64 (m - 1) = m - 1 := by unfold wrap64; omega
  clear hm h1 h2
  go_enter Try.func30, Try.ntmps30
  go_wp2_with (go_at_call 28; (with_reducible refine (AT.out _).mono ?_); rintro e w' ⟨rfl, ⟨nd, rfl⟩⟩)
  go_ret
  exact ⟨rfl, ⟨_, rfl⟩⟩
def vars15 (V : Int) (l : List Int) : List Int := (l.take 6).map fun x => x % V
theorem vars15_len (V : Int) (l : List Int) : (vars15 V l).length = min 6 l.length := by unfold vars15; rw [List.length_map, List.length_take]
theorem vars15_succ (V : Int) (l : List Int) (i : Nat) (hi : i < l.length) (h4 : i < 6) : vars15 V (l.take (i + 1)) = vars15 V (l.take i) ++ [rd l (i : Int) % V] := by
  have : rd l (i : Int) = l[i] := by unfold rd; rw [Int.toNat_natCast, List.getD_eq_getElem?_getD, List.getElem?_eq_getElem hi]; rfl
  unfold vars15
  rw [this, List.take_take, List.take_take, Nat.min_eq_right (by omega), Nat.min_eq_right (by omega), List.take_succ_eq_append_getElem hi, List.map_append]
  rfl
theorem vars15_full (V : Int) (l : List Int) (i : Nat) (h : i = l.length ∨ i = 6) : vars15 V (l.take i) = vars15 V l := by
  rcases h with rfl | rfl
  · rw [List.take_length]
  · unfold vars15; rw [List.take_take, Nat.min_self]
def rv15.T5 : Bool × List (List Nat × List Nat) := (true, [([], []), ([], []), ([], []), ([1, 2], [1, 2]), ([3], [3]), ([], []), ([5], [5]), ([4, 6], [4, 6]), ([7], [7]), ([0, 8, 7], [0, 8]), ([9, 9, 0, 1, 2, 3, 4, 5, 6, 7, 8, 9], [0, 9])])
def rv15.B5 : List Nat := [0, 0, 0, 6, 14, 0, 32, 126, 254, 511, 1023]
theorem rv15.tab5 : rtab .any (opsOf Try.f29 5) = rv15.T5 := by kernel_rfl
theorem rv15.bits5 : waitsOk rv15.T5.2 rv15.B5 = true := by kernel_rfl
theorem rv15.info3 : (Try.prog.info? 3).map (fun i => (i.zero, i.size, i.bytes)) = some (some (.int .i64 0), 1, 8) := by kernel_rfl
set_option maxHeartbeats 8000000 in
set_option maxRecDepth 100000 in
theorem vars15_ (A : Option Addr) (c : Nat) (l : List Int) (V : Int) (g : Nat) (w : World) (h1 : 1 ≤ V) (h2 : V ≤ 100) (hC : Kd.C (Kd.int .i64) w A l.length l) (hc : l.length ≤ c) (hb : w.cell? ⟨g, 0, none⟩ = some (.int .i64 V)) : Calls Try.prog 29 #[.slice A l.length c, .pointer (some ⟨g, 0, none⟩)] w fun e w' => ∃ v, e = .returned v ∧ Kd.N (Kd.int .i64) 3 w' w.heap.size (fun k => w.heap.size ≤ k) v (vars15 V l) ∧ Below w.heap.size w w' := by
  have HC := Aside0.mk hC
  have HCC := Aside0.mk hc
  have HB := Aside0.mk hb
  have HV := Aside0.mk (And.intro h1 h2)
  have hm := Kd.C_max hC
  obtain ⟨n, hn⟩ : ∃ n, n = l.length := ⟨_, rfl⟩
  have X := Aside0.mk (show n ≤ 9223372036854775807 by omega)
  rw [← hn]
  have NN := Aside0.mk hn
  clear hC hc hb h1 h2 hm hn
  go_enter Try.func29, Try.ntmps29
  go_wp2_with fail
  go_loopg [4, 5] 6 (fun kq v4 v5 w' => ∃ i : Nat, v5 = .int .i64 (i : Int) ∧ i ≤ n ∧ i ≤ 6 ∧ kq = 6 - i ∧ Aside0 (Kd.N (Kd.int .i64) 3 w' w.heap.size (fun k => w.heap.size ≤ k) v4 (vars15 V (l.take i))) ∧ Aside0 (Below w.heap.size w w'))
  case atStart => exact ⟨0, rfl, by omega, by omega, by omega, ⟨Kd.N_nil _ _ _ _ _⟩, ⟨Below.refl _ _⟩⟩
  case round =>
    rename_i v4 _
    obtain ⟨i, rfl, hi, h6, hk, hN, hD⟩ := hrel
    have himax : (i : Int) < 9223372036854775807 := by omega
    obtain ⟨F, hF⟩ : ∃ F, F = vars15 V (l.take i) := ⟨_, rfl⟩
    rw [← hF] at hN
    obtain ⟨Av, cv, ev⟩ := Kd.N_slice hN.out
    obtain ⟨nv, hnv⟩ : ∃ n, n = F.length := ⟨_, rfl⟩
    rw [← hnv] at ev
    subst ev
    have NV := Aside0.mk hnv
    have HFF := Aside0.mk hF
    clear hnv hF
    by_cases hlt : i < n
    · have hltb : decide (i < n) = true := decide_eq_true hlt
      have hltz : (i : Int) < (n : Int) := by omega
      have hltzb : decide ((i : Int) < (n : Int)) = true := decide_eq_true hltz
      have h0z : (0 : Int) ≤ (i : Int) := by omega
      by_cases hten : i < 6
      · have htenb : decide ((i : Int) < 6) = true := decide_eq_true (by omega)
        have htenn : decide (i < 6) = true := decide_eq_true hten
        have hlt3 : i < l.length := by have := NN.out; omega
        obtain ⟨ad, e1, hx0⟩ := ReadsInt.at_ (Kd.reads_of_C (enc := Value.int .i64) (d := (0 : Int)) HC.out) (i : Int) h0z (by omega)
        subst e1
        rw [Int.toNat_natCast] at hx0
        obtain ⟨z, hz⟩ : ∃ z, z = rd l (i : Int) := ⟨_, rfl⟩
        have HSU := Aside0.mk (by have := vars15_succ V l i hlt3 hten; rw [← HFF.out, ← hz] at this; exact this)
        rw [← hz] at hx0
        have AT := Aside0.mk (fun W => at15_ z V HV.out.1 (by have := HV.out.2; omega) W)
        have HX0 := Aside0.mk hx0
        have y0 := pw_cell_below hD.out hx0
        have yb := pw_cell_below hD.out HB.out
        have AS := Aside0.mk (And.intro hi (And.intro h6 (And.intro hlt (And.intro hten (And.intro hk (show F.length ≤ 6 from by rw [HFF.out, vars15_len]; omega))))))
        clear hx0 hz
        go_upto_region 5 with fail
        have ID : Below w.heap.size w wr.drew := below_drew hD.out
        have ND := Kd.N_drew hN.out
        refine start_ (n := 11) (S := fun w' => w'.cell? (ad.add i) = some (.int .i64 z) ∧ w'.cell? ⟨g, 0, none⟩ = some (.int .i64 V)) (ds := []) #[false, false, false, false, false, false, false, false, false, false, false] (by kernel_rfl) rfl rfl ⟨y0, yb⟩ (fun hHeld => ?_)
        refine with_tabW rv15.tab5 rv15.bits5 (fun HT_ HW_ => ?_)
        generalize wr.drew = wD at ID ND hHeld ⊢
        refine pure_ (i := 0) (N := some 16) (v := ?_) (a' := ?_) #[true, false, false, false, false, false, false, false, false, false, false] rfl rfl (any_of HT_.out (by kernel_rfl)) (fun _ _ _ h => h) (Or.inl ⟨by rfl, ?_⟩) ?_ ?_
        rotate_left
        · intro w'
          go_simp
          with_reducible rfl
        rotate_left
        · simp only [Act.put, List.setIfInBounds_toArray, List.set_cons_zero, List.set_cons_succ, i64_w, i32_w]
          rfl
        refine pure_ (i := 1) (N := some 17) (v := ?_) (a' := ?_) #[true, true, false, false, false, false, false, false, false, false, false] rfl rfl (any_of HT_.out (by kernel_rfl)) (fun _ _ _ h => h) (Or.inl ⟨by rfl, ?_⟩) ?_ ?_
        rotate_left
        · intro w'
          go_simp
          with_reducible rfl
        rotate_left
        · simp only [Act.put, List.setIfInBounds_toArray, List.set_cons_zero, List.set_cons_succ, i64_w, i32_w]
          rfl
        refine pure_ (i := 2) (N := some 18) (v := ?_) (a' := ?_) #[true, true, true, false, false, false, false, false, false, false, false] rfl rfl (any_of HT_.out (by kernel_rfl)) (fun _ _ _ h => h) (Or.inl ⟨by rfl, ?_⟩) ?_ ?_
        rotate_left
        · intro w'
          go_simp
          with_reducible rfl
        rotate_left
        · simp only [Act.put, List.setIfInBounds_toArray, List.set_cons_zero, List.set_cons_succ, i64_w, i32_w]
          rfl
        refine pure_ (i := 5) (N := some 21) (v := ?_) (a' := ?_) #[true, true, true, false, false, true, false, false, false, false, false] rfl rfl (any_of HT_.out (by kernel_rfl)) (fun _ _ _ h => h) (Or.inl ⟨by rfl, ?_⟩) ?_ ?_
        rotate_left
        · intro w'
          go_simp
          with_reducible rfl
        rotate_left
        · simp only [Act.put, List.setIfInBounds_toArray, List.set_cons_zero, List.set_cons_succ, i64_w, i32_w]
          rfl
        refine pure_ (i := 3) (N := some 19) (v := ?_) (a' := ?_) #[true, true, true, true, false, true, false, false, false, false, false] rfl rfl (any_of HT_.out (by kernel_rfl)) (fun _ _ _ h => h) (Or.inl ⟨by rfl, ?_⟩) ?_ ?_
        rotate_left
        · intro w'
          go_simp
          with_reducible rfl
        rotate_left
        · simp only [Act.put, List.setIfInBounds_toArray, List.set_cons_zero, List.set_cons_succ, i64_w, i32_w]
          rfl
        refine take_ (i := 4) (N := some 20) (v := ?_) (a' := ?_) #[true, true, true, true, true, true, false, false, false, false, false] rfl rfl (take_ofW HT_.out HW_.out (by kernel_rfl)) (fun _ _ _ h => h) (Or.inl ⟨by rfl, ?_⟩) hHeld ?_ ?_
        rotate_left
        · rintro w' ⟨s0, s1⟩
          go_simp
          with_reducible rfl
        rotate_left
        · simp only [Act.put, List.setIfInBounds_toArray, List.set_cons_zero, List.set_cons_succ, i64_w, i32_w]
          rfl
        refine take_ (i := 6) (N := some 22) (v := ?_) (a' := ?_) #[true, true, true, true, true, true, true, false, false, false, false] rfl rfl (take_ofW HT_.out HW_.out (by kernel_rfl)) (fun _ _ _ h => h) (Or.inl ⟨by rfl, ?_⟩) hHeld ?_ ?_
        rotate_left
        · rintro w' ⟨s0, s1⟩
          go_simp
          with_reducible rfl
        rotate_left
        · simp only [Act.put, List.setIfInBounds_toArray, List.set_cons_zero, List.set_cons_succ, i64_w, i32_w]
          rfl
        refine one_ (i := 7) (N := some 23) #[true, true, true, true, true, true, true, true, false, false, false] rfl rfl (one_of HT_.out (by kernel_rfl)) (by decide) (fun K hK => ?_)
        refine call_ 28 #[.int .i64 z, .int .i64 V] (by rfl) rfl (by go_simp) ?_
        refine (AT.out _).mono ?_
        rintro e w' ⟨rfl, ⟨nd, rfl⟩⟩
        refine ⟨_, rfl, ?_⟩
        refine hK.out _ _ hHeld (fun hHeld => ?_)
        clear hK K
        refine norm_ (a' := ?_) ?_ ?_
        rotate_left
        · show Act.put _ (some 23) _ = _
          simp only [Act.put, List.setIfInBounds_toArray, List.set_cons_zero, List.set_cons_succ, i64_w, i32_w]
          rfl
        have ID := pw_below_drewN ID nd
        have ND := Kd.N_drewN ND nd
        generalize wD.drewN nd = wE at ID ND hHeld ⊢
        refine one_ (i := 8) (N := some 24) #[true, true, true, true, true, true, true, true, true, false, false] rfl rfl (one_of HT_.out (by kernel_rfl)) (by decide) (fun K hK => ?_)
        refine value_ (w1 := ?_) (v := ?_) (by rfl) rfl ?_ ?_
        rotate_left 2
        · go_simp
          constructor
          · rfl
          · rfl
        refine hK.out _ _ ⟨fcellA_ hHeld.1 _, fcellA_ hHeld.2 _⟩ (fun hHeld => ?_)
        clear hK K
        refine norm_ (a' := ?_) ?_ ?_
        rotate_left
        · show Act.put _ (some 24) _ = _
          simp only [Act.put, List.setIfInBounds_toArray, List.set_cons_zero, List.set_cons_succ, i64_w, i32_w]
          rfl
        refine one_ (i := 9) (N := some 25) #[true, true, true, true, true, true, true, true, true, true, false] rfl rfl (one_of HT_.out (by kernel_rfl)) (by decide) (fun K hK => ?_)
        refine Kd.N_append_step (Kd.int .i64) (w0 := w) w.heap.size (by rfl) (.tmp 16) (.tmp 24) 23 3 (.int .i64 0) 8 rfl Try.underlying23 rv15.info3 rfl (by decide) (by omega) (.slice Av nv cv) F (z % V) [.int .i64 (z % V)] (fun k => w.heap.size ≤ k) (fun k => False) rfl rfl (fun W' _ => rfl) (fun _ h => h.elim) (fun k hk => Nat.le_trans ID.size hk) ND ID ID.size (by have := AS.out; omega) ?_
        intro v9 w9 hN9 hb9 hg9 _
        obtain ⟨A9, c9, e9⟩ := Kd.N_slice hN9
        rw [List.length_append, List.length_singleton] at e9
        subst e9
        refine hK.out _ _ ⟨pw_cell_below hb9 HX0.out, pw_cell_below hb9 HB.out⟩ (fun hHeld => ?_)
        clear hK K
        refine norm_ (a' := ?_) ?_ ?_
        rotate_left
        · show Act.put _ (some 25) _ = _
          simp only [Act.put, List.setIfInBounds_toArray, List.set_cons_zero, List.set_cons_succ, i64_w, i32_w]
          rfl
        clear ID ND hg9
        refine pure_ (i := 10) (N := some 4) (v := ?_) (a' := ?_) #[true, true, true, true, true, true, true, true, true, true, true] rfl rfl (any_of HT_.out (by kernel_rfl)) (fun _ _ _ h => h) (Or.inl ⟨by rfl, ?_⟩) ?_ ?_
        rotate_left
        · intro w'
          go_simp
          with_reducible rfl
        rotate_left
        · simp only [Act.put, List.setIfInBounds_toArray, List.set_cons_zero, List.set_cons_succ, i64_w, i32_w]
          rfl
        refine done_ (done_of HT_.out (by kernel_rfl)) ?_
        go_wp2_with fail
        go_roundg (6 - (i + 1))
        case measure => have := AS.out; omega
        case rel => exact ⟨i + 1, by go_num, by have := AS.out; omega, by have := AS.out; omega, rfl, ⟨by rw [HSU.out]; exact hN9⟩, ⟨hb9⟩⟩
      · have htenb : decide ((i : Int) < 6) = false := decide_eq_false (by omega)
        have htenn : decide (i < 6) = false := decide_eq_false hten
        have FU := Aside0.mk (vars15_full V l i (.inr (by omega)))
        go_wp2_with fail
        go_ret
        exact ⟨_, rfl, by rw [← FU.out, ← HFF.out]; exact hN.out, hD.out⟩
    · have hltb : decide (i < n) = false := decide_eq_false hlt
      have hltz : ¬ (i : Int) < (n : Int) := by omega
      have hltzb : decide ((i : Int) < (n : Int)) = false := decide_eq_false hltz
      have FU := Aside0.mk (vars15_full V l i (.inl (by have := NN.out; omega)))
      go_wp2_with fail
      go_ret
      exact ⟨_, rfl, by rw [← FU.out, ← HFF.out]; exact hN.out, hD.out⟩
end Go.Proofs.Ytgfjjhfkgfnpaaa.PB

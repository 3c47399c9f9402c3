/- The law ProgramThings, where Right is as it is told. -/
import Derived.Test.YtgfjjhfkgfnpaaaRightBase
import Derived.Test.YtgfjjhfkgfnpaaaPBx17
import Derived.Test.YtgfjjhfkgfnpaaaPBx18
import Derived.Test.YtgfjjhfkgfnpaaaPBx20
import Derived.Deep.RegionHeld3
namespace Go.Proofs.Ytgfjjhfkgfnpaaa.PB
open Go.RowKit Go.Proofs.YtgfjjhfkgfnpaaaW.PrintWords Go.Proofs.YtgfjjhfkgfnpaaaW.PrintLast Go.Proofs.YtgfjjhfkgfnpaaaW.PrintMore
set_option linter.unusedVariables false
set_option linter.unusedSimpArgs false
attribute [local go_sem] max2_int min2_int max_two min_two max_three min_three max_four min_four
def dowserlaw15_ProgramThings.f (k : Nat) (a0_0 : Int) (a0_1 : Int) (a0_2 : Int) (l0_3 : List (S52)) (l0_4 : List Int) (l0_5 : List (S53)) (a1 : Int) : Option Bool := (dowserlaw15_awake.f k).bind fun t0 => if t0 = true then (dowserlaw15_Own.f k (right15 a0_0 a0_1 a0_2 l0_3 l0_4 l0_5 4).1 (right15 a0_0 a0_1 a0_2 l0_3 l0_4 l0_5 4).2.1 (right15 a0_0 a0_1 a0_2 l0_3 l0_4 l0_5 4).2.2.1 (right15 a0_0 a0_1 a0_2 l0_3 l0_4 l0_5 4).2.2.2.1 (right15 a0_0 a0_1 a0_2 l0_3 l0_4 l0_5 4).2.2.2.2.1 (right15 a0_0 a0_1 a0_2 l0_3 l0_4 l0_5 4).2.2.2.2.2).bind fun o => (if 1 ≤ o.2.1 ∧ o.2.1 ≤ 12 ∧ 1 ≤ o.2.2.2.1.length ∧ o.2.2.2.1.length ≤ 8 then some true else none) else none
theorem dowserlaw15_ProgramThings.mono : ∀ a0 a1 a2 a3 a4 a5 a6 k, LeO (dowserlaw15_ProgramThings.f k a0 a1 a2 a3 a4 a5 a6) (dowserlaw15_ProgramThings.f (k + 1) a0 a1 a2 a3 a4 a5 a6) := by
  intro a0 a1 a2 a3 a4 a5 a6 k
  unfold dowserlaw15_ProgramThings.f
  exact LeO.bind (dowserlaw15_awake.mono _) (fun _ => LeO.ite (LeO.bind (dowserlaw15_Own.mono _ _ _ _ _ _ _) (fun _ => LeO.refl _)) (LeO.refl _))
set_option maxHeartbeats 40000000 in
set_option maxRecDepth 100000 in
theorem dowserlaw15_ProgramThings.callsH (H_ : RightSaid) (k : Nat) (a0_0 : Int) (a0_1 : Int) (a0_2 : Int) (A0_3 : Option Addr) (c0_3 : Nat) (l0_3 : List (S52)) (A0_4 : Option Addr) (c0_4 : Nat) (l0_4 : List Int) (A0_5 : Option Addr) (c0_5 : Nat) (l0_5 : List (S53)) (a1 : Int) (r : Bool) (w : World) (hr0_3 : Kd.C k52 w A0_3 l0_3.length l0_3) (hc0_3 : l0_3.length ≤ c0_3) (hr0_4 : Kd.C (Kd.int .i64) w A0_4 l0_4.length l0_4) (hc0_4 : l0_4.length ≤ c0_4) (hr0_5 : Kd.C k53 w A0_5 l0_5.length l0_5) (hc0_5 : l0_5.length ≤ c0_5) (h : dowserlaw15_ProgramThings.f k a0_0 a0_1 a0_2 l0_3 l0_4 l0_5 a1 = some r) :
    Calls Try.prog 6 #[.agg #[.int .i64 a0_0, .int .i64 a0_1, .int .i64 a0_2, .slice A0_3 l0_3.length c0_3, .slice A0_4 l0_4.length c0_4, .slice A0_5 l0_5.length c0_5], .int .i64 a1] w fun e w' => e = .returned (.bool r) ∧ Below w.heap.size w w' := by
  have HH_ := Aside0.mk H_
  clear H_
  unfold dowserlaw15_ProgramThings.f at h
  obtain ⟨⟨V, U, Y, G, E, O⟩, hR⟩ : ∃ z, right15 a0_0 a0_1 a0_2 l0_3 l0_4 l0_5 4 = z := ⟨_, rfl⟩
  rw [hR] at h
  obtain ⟨t0, hAw, h⟩ := Option.bind_eq_some_iff.1 h
  cases t0 with
  | false => exact absurd h (by simp)
  | true =>
  rw [if_pos rfl] at h
  obtain ⟨⟨o0, o1, o2, y3, y4, y5⟩, hOwn, h⟩ := Option.bind_eq_some_iff.1 h
  simp only at hOwn h
  by_cases hbd : 1 ≤ o1 ∧ o1 ≤ 12 ∧ 1 ≤ y3.length ∧ y3.length ≤ 8
  · rw [if_pos hbd] at h
    obtain rfl : true = r := Option.some.inj h
    have HO := Aside0.mk hOwn
    have HA := Aside0.mk hAw
    have HRT := Aside0.mk hR
    have HBD := Aside0.mk hbd
    have R3 := Aside0.mk hr0_3
    have R4 := Aside0.mk hr0_4
    have R5 := Aside0.mk hr0_5
    have C3 := Aside0.mk hc0_3
    have C4 := Aside0.mk hc0_4
    have C5 := Aside0.mk hc0_5
    have hu26 := Try.underlying26
    have hu33 := Try.underlying33
    clear hOwn hAw h hbd hR hr0_3 hr0_4 hr0_5 hc0_3 hc0_4 hc0_5
    obtain ⟨n3, hn3⟩ : ∃ n, n = l0_3.length := ⟨_, rfl⟩
    obtain ⟨n4, hn4⟩ : ∃ n, n = l0_4.length := ⟨_, rfl⟩
    obtain ⟨n5, hn5⟩ : ∃ n, n = l0_5.length := ⟨_, rfl⟩
    rw [← hn3, ← hn4, ← hn5]
    have CR := Aside0.mk (show ∀ W, Below w.heap.size w W → Calls Try.prog 12 #[.agg #[.int .i64 a0_0, .int .i64 a0_1, .int .i64 a0_2, .slice A0_3 n3 c0_3, .slice A0_4 n4 c0_4, .slice A0_5 n5 c0_5], .int .i64 4] W fun e w' => ∃ B3 m3 d3 B4 m4 d4 B5 m5 d5, e = .returned (.agg #[.int .i64 V, .int .i64 U, .int .i64 Y, .slice B3 m3 d3, .slice B4 m4 d4, .slice B5 m5 d5]) ∧ (m3 = G.length ∧ m4 = E.length ∧ m5 = O.length) ∧ (Kd.C k52 w' B3 G.length G ∧ G.length ≤ d3 ∧ Kd.C (Kd.int .i64) w' B4 E.length E ∧ E.length ≤ d4 ∧ Kd.C k53 w' B5 O.length O ∧ O.length ≤ d5) ∧ Below W.heap.size W w' from by
      intro W hW
      rw [hn3, hn4, hn5]
      refine (HH_.out a0_0 a0_1 a0_2 A0_3 c0_3 l0_3 A0_4 c0_4 l0_4 A0_5 c0_5 l0_5 4 (by decide) W (Kd.C_below R3.out hW) C3.out (Kd.C_below R4.out hW) C4.out (Kd.C_below R5.out hW) C5.out V U Y G E O HRT.out).mono ?_
      rintro e w' ⟨B3, d3, B4, d4, B5, d5, rfl, h3, h4, h5, hb⟩
      exact ⟨B3, _, d3, B4, _, d4, B5, _, d5, rfl, ⟨rfl, rfl, rfl⟩, ⟨Kd.F_now h3.1, h3.2, Kd.F_now h4.1, h4.2, Kd.F_now h5.1, h5.2⟩, hb⟩)
    clear hn3 hn4 hn5
    obtain ⟨nf, hnf⟩ : ∃ n, n = y3.length := ⟨_, rfl⟩
    obtain ⟨ne, hne⟩ : ∃ n, n = y4.length := ⟨_, rfl⟩
    obtain ⟨no, hno⟩ : ∃ n, n = y5.length := ⟨_, rfl⟩
    have NF := Aside0.mk hnf
    have NE := Aside0.mk hne
    have NO := Aside0.mk hno
    have BD := Aside0.mk (show 1 ≤ o1 ∧ o1 ≤ 12 ∧ 1 ≤ nf ∧ nf ≤ 8 by rw [hnf]; exact HBD.out)
    clear hnf hne hno
    go_enter Try.func6, Try.ntmps6
    go_upto_region 1 with fail
    obtain ⟨wB, hwB⟩ : ∃ wB, wB = w.alloc (.cells #[.int .i64 a0_0, .int .i64 a0_1, .int .i64 a0_2, .slice A0_3 n3 c0_3, .slice A0_4 n4 c0_4, .slice A0_5 n5 c0_5] 26) := ⟨_, rfl⟩
    obtain ⟨gp, hgp⟩ : ∃ g, g = w.heap.size := ⟨_, rfl⟩
    rw [← hwB, ← hgp]
    have HB := Aside0.mk (show Below w.heap.size w wB by rw [hwB]; exact below_alloc (Below.refl _ _) _)
    have BKP := Aside0.mk (show wB.heap[gp]? = some (bq_ a0_0 a0_1 a0_2 (.slice A0_3 n3 c0_3) (.slice A0_4 n4 c0_4) (.slice A0_5 n5 c0_5)) by rw [hwB, hgp]; exact blk_new _ _)
    have GP := Aside0.mk (show w.heap.size ≤ gp by omega)
    clear hwB hgp
    go_upto_region 3 with (go_at_call 7; (with_reducible refine (dowserlaw15_awake.calls k true _ HA.out).mono ?_); rintro e w1 ⟨rfl, hb1⟩; have B1 := Aside0.mk (below_step HB.out hb1); have P1 := Aside0.mk ((hb1.block gp (blk_lt BKP.out)).trans BKP.out); obtain ⟨⟨q0, q1, q2, q3, q4, q5⟩, z0, z1, z2, z3, z4, z5⟩ := bq_all_ P1.out; clear hb1 z0 z1 z2 z3 z4 z5)
    go_upto_region 4 with (first | (go_at_call 12; (with_reducible refine (CR.out _ B1.out).mono ?_); rintro e w2 ⟨B3, m3, d3, B4, m4, d4, B5, m5, d5, rfl, hm, hC, hb2⟩; have HM := Aside0.mk hm; have HC := Aside0.mk hC; have B2 := Aside0.mk (below_step B1.out hb2); have CO := Aside0.mk (show Calls Try.prog 9 #[.agg #[.int .i64 V, .int .i64 U, .int .i64 Y, .slice B3 m3 d3, .slice B4 m4 d4, .slice B5 m5 d5]] w2 (fun e w' => ∃ X3 e3 X4 e4 X5 e5, e = .returned (.agg #[.int .i64 o0, .int .i64 o1, .int .i64 o2, .slice X3 nf e3, .slice X4 ne e4, .slice X5 no e5]) ∧ (Kd.C k45 w' X3 y3.length y3 ∧ y3.length ≤ e3 ∧ Kd.C (Kd.int .i64) w' X4 y4.length y4 ∧ y4.length ≤ e4 ∧ Kd.C k42 w' X5 y5.length y5 ∧ y5.length ≤ e5) ∧ Below w2.heap.size w2 w') from (by rw [HM.out.1, HM.out.2.1, HM.out.2.2, NF.out, NE.out, NO.out]; refine (dowserlaw15_Own.calls k V U Y B3 d3 G B4 d4 E B5 d5 O o0 o1 o2 y3 y4 y5 w2 HC.out.1 HC.out.2.1 HC.out.2.2.1 HC.out.2.2.2.1 HC.out.2.2.2.2.1 HC.out.2.2.2.2.2 HO.out).mono ?_; rintro e w' ⟨v3, v4, v5, rfl, h3, h4, h5, hb⟩; obtain ⟨X3, e3, rfl, g3, k3⟩ := Kd.N_reads (Kd.S_N h3); obtain ⟨X4, e4, rfl, g4, k4⟩ := Kd.N_reads (Kd.R_N h4); obtain ⟨X5, e5, rfl, g5, k5⟩ := Kd.N_reads (Kd.S_N h5); exact ⟨X3, e3, X4, e4, X5, e5, rfl, ⟨k3, g3, k4, g4, k5, g5⟩, hb⟩)); clear hm hC hb2 q0 q1 q2 q3 q4 q5) | (go_at_call 9; (with_reducible refine CO.out.mono ?_); rintro e w3 ⟨X3, e3, X4, e4, X5, e5, rfl, hX, hb3⟩; have HX := Aside0.mk hX; have B3_ := Aside0.mk (below_step B2.out hb3); clear hX hb3))
    obtain ⟨w4, hw4⟩ : ∃ w4, w4 = w3.alloc (.cells #[.int .i64 o0, .int .i64 o1, .int .i64 o2, .slice X3 nf e3, .slice X4 ne e4, .slice X5 no e5] 33) := ⟨_, rfl⟩
    obtain ⟨gx, hgx⟩ : ∃ g, g = w3.heap.size := ⟨_, rfl⟩
    rw [← hw4, ← hgx]
    have D4 : Below w3.heap.size w3 w4 := by rw [hw4]; exact below_alloc (Below.refl _ _) _
    have B4_ := Aside0.mk (below_step B3_.out D4)
    have P4 := Aside0.mk (show w4.heap[gx]? = some (bp_ o0 o1 o2 (.slice X3 nf e3) (.slice X4 ne e4) (.slice X5 no e5)) by rw [hw4, hgx]; exact blk_new _ _)
    have K3 := Aside0.mk (Kd.C_below HX.out.1 D4)
    have K4 := Aside0.mk (Kd.C_below HX.out.2.2.1 D4)
    have K5 := Aside0.mk (Kd.C_below HX.out.2.2.2.2.1 D4)
    have LC := Aside0.mk (And.intro HX.out.2.1 (And.intro HX.out.2.2.2.1 HX.out.2.2.2.2.2))
    obtain ⟨T, hT⟩ : ∃ T, T = o1 + (nf : Int) := ⟨_, rfl⟩
    have TT := Aside0.mk hT
    have CT := Aside0.mk (show ∀ W, Below w4.heap.size w4 W → Calls Try.prog 15 #[.agg #[.int .i64 o0, .int .i64 o1, .int .i64 o2, .slice X3 nf e3, .slice X4 ne e4, .slice X5 no e5]] W fun e w' => e = .returned (.int .i64 T) ∧ Below W.heap.size W w' from by
      intro W hW
      rw [NF.out, NE.out, NO.out]
      exact program_Program_Things.calls o0 o1 o2 X3 e3 y3 X4 e4 y4 X5 e5 y5 T W (Kd.C_below K3.out hW) LC.out.1 (Kd.C_below K4.out hW) LC.out.2.1 (Kd.C_below K5.out hW) LC.out.2.2 (by unfold program_Program_Things.f; rw [← NF.out, TT.out]; congr 1; have := BD.out; unfold wrap64; omega))
    have CH := Aside0.mk (show ∀ (g : Int), -200 ≤ g → g ≤ 200 → ∀ W, Below w4.heap.size w4 W → Calls Try.prog 17 #[.agg #[.int .i64 o0, .int .i64 o1, .int .i64 o2, .slice X3 nf e3, .slice X4 ne e4, .slice X5 no e5], .int .i64 g] W fun e w' => e = .returned (.int .i64 (o1 + g)) ∧ Below W.heap.size W w' from by
      intro g hg1 hg2 W hW
      rw [NF.out, NE.out, NO.out]
      exact program_Program_Thing.calls o0 o1 o2 X3 e3 y3 X4 e4 y4 X5 e5 y5 g (o1 + g) W (Kd.C_below K3.out hW) LC.out.1 (Kd.C_below K4.out hW) LC.out.2.1 (Kd.C_below K5.out hW) LC.out.2.2 (by unfold program_Program_Thing.f; congr 1; have := BD.out; unfold wrap64; omega))
    have CF := Aside0.mk (show ∀ (t r1 : Int) (r2 : Bool), -200 ≤ t → t ≤ 200 → (if 0 ≤ t - o1 ∧ t - o1 < (nf : Int) then (t - o1, true) else (0, false)) = (r1, r2) → ∀ W, Below w4.heap.size w4 W → Calls Try.prog 16 #[.agg #[.int .i64 o0, .int .i64 o1, .int .i64 o2, .slice X3 nf e3, .slice X4 ne e4, .slice X5 no e5], .int .i64 t] W fun e w' => e = .returned (.tuple #[.int .i64 r1, .bool r2]) ∧ Below W.heap.size W w' from by
      intro t r1 r2 ht1 ht2 hr W hW
      rw [NF.out, NE.out, NO.out]
      refine program_Program_Function.calls o0 o1 o2 X3 e3 y3 X4 e4 y4 X5 e5 y5 t r1 r2 W (Kd.C_below K3.out hW) LC.out.1 (Kd.C_below K4.out hW) LC.out.2.1 (Kd.C_below K5.out hW) LC.out.2.2 ?_
      unfold program_Program_Function.f program_below.f
      rw [← NF.out, show wrap64 (t - o1) = t - o1 by have := BD.out; unfold wrap64; omega, ← hr]
      by_cases h0 : 0 ≤ t - o1
      · by_cases h1 : t - o1 < (nf : Int)
        · rw [if_pos h0, if_pos ⟨h0, h1⟩, decide_eq_true h1]; rfl
        · rw [if_pos h0, if_neg (fun h => h1 h.2), decide_eq_false h1]; rfl
      · rw [if_neg h0, if_neg (fun h => h0 h.1)]; rfl)
    have wT : IntKind.i64.wrap (o1 + (nf : Int)) = T := by rw [i64_w, TT.out]; have := BD.out; unfold wrap64; omega
    clear hw4 hgx D4 hT
    obtain ⟨⟨x0, x1, x2, x3, x4, x5⟩, z0, z1, z2, z3, z4, z5⟩ := bp_all_ P4.out
    clear z0 z1 z2 z3 z4 z5
    go_cut [24] (fun v24 wd => v24 = .bool false ∧ Below w4.heap.size w4 wd)
    case first =>
      go_upto_region 4 with fail
      go_region_with (go_at_call 15; (with_reducible refine (CT.out _ (by repeat (first | exact Below.refl _ _ | apply pw_below_drewN | apply below_drew))).mono ?_); rintro e w5 ⟨rfl, hb5⟩; have B5_ := Aside0.mk (show Below w4.heap.size w4 w5 from below_step (by repeat (first | exact Below.refl _ _ | apply pw_below_drewN | apply below_drew)) hb5); have P5 := Aside0.mk ((B5_.out.block gx (blk_lt P4.out)).trans P4.out); clear x0 x1 x2 x3 x4 x5 hb5; obtain ⟨⟨x0, x1, x2, x3, x4, x5⟩, z0, z1, z2, z3, z4, z5⟩ := bp_all_ P5.out; clear z0 z1 z2 z3 z4 z5)
      all_goals go_wp2_with fail
      all_goals go_meet
      all_goals (case rel => exact ⟨rfl, B5_.out⟩)
    obtain ⟨rfl, hcut⟩ := hcut
    have B5_ := Aside0.mk hcut
    have P5 := Aside0.mk ((hcut.block gx (blk_lt P4.out)).trans P4.out)
    clear x0 x1 x2 x3 x4 x5 hcut wT
    obtain ⟨⟨x0, x1, x2, x3, x4, x5⟩, z0, z1, z2, z3, z4, z5⟩ := bp_all_ P5.out
    clear z0 z1 z2 z3 z4 z5 x0 x1 x2 x4 x5
    go_wp2_with fail
    go_loopg [28] nf (fun kq v28 w' => ∃ f : Nat, v28 = .int .i64 (f : Int) ∧ f ≤ nf ∧ kq = nf - f ∧ Aside0 (Below w4.heap.size w4 w'))
    case atStart => exact ⟨0, rfl, by omega, by omega, B5_⟩
    case round =>
      obtain ⟨f, rfl, hf, hk, hB⟩ := hrel
      by_cases hlt : f < nf
      · have hltb : decide (f < nf) = true := decide_eq_true hlt
        have hltz : (f : Int) < (nf : Int) := by omega
        have hltzb : decide ((f : Int) < (nf : Int)) = true := decide_eq_true hltz
        have h0z : (0 : Int) ≤ (f : Int) := by omega
        have hfmax : (f : Int) < 9223372036854775807 := by have := BD.out; omega
        have P6 := Aside0.mk ((hB.out.block gx (blk_lt P4.out)).trans P4.out)
        have CHf := Aside0.mk (CH.out (f : Int) (by omega) (by have := BD.out; omega))
        obtain ⟨tf, htf⟩ : ∃ t, t = o1 + (f : Int) := ⟨_, rfl⟩
        rw [← htf] at CHf
        have CFf := Aside0.mk (CF.out tf (f : Int) true (by have := BD.out; omega) (by have := BD.out; omega) (by rw [if_pos (by omega), htf, show o1 + (f : Int) - o1 = (f : Int) by omega]))
        have AS := Aside0.mk (And.intro hf (And.intro hk hlt))
        clear x3 htf
        obtain ⟨⟨x0, x1, x2, x3, x4, x5⟩, z0, z1, z2, z3, z4, z5⟩ := bp_all_ P6.out
        clear z0 z1 z2 z3 z4 z5
        go_upto_region 9 with fail
        go_region_with (first | (go_at_call 17; (with_reducible refine (CHf.out _ (by repeat (first | exact hB.out | apply pw_below_drewN | apply below_drew))).mono ?_); rintro e w5 ⟨rfl, hb5⟩; have B7 := Aside0.mk (show Below w4.heap.size w4 w5 from below_step (by repeat (first | exact hB.out | apply pw_below_drewN | apply below_drew)) hb5); have P7 := Aside0.mk ((B7.out.block gx (blk_lt P4.out)).trans P4.out); clear x0 x1 x2 x3 x4 x5 hb5; obtain ⟨⟨x0, x1, x2, x3, x4, x5⟩, z0, z1, z2, z3, z4, z5⟩ := bp_all_ P7.out; clear z0 z1 z2 z3 z4 z5) | (go_at_call 16; (with_reducible refine (CFf.out _ B7.out).mono ?_); rintro e w6 ⟨rfl, hb6⟩; have B8 := Aside0.mk (below_step B7.out hb6); clear x0 x1 x2 x3 x4 x5 hb6))
        all_goals go_wp2_with fail
        all_goals go_roundg (nf - (f + 1))
        all_goals first
          | (case measure => have := AS.out; omega)
          | (case rel => exact ⟨f + 1, by go_num, by have := AS.out; omega, rfl, B8⟩)
      · have hltb : decide (f < nf) = false := decide_eq_false hlt
        have hltz : ¬ (f : Int) < (nf : Int) := by omega
        have hltzb : decide ((f : Int) < (nf : Int)) = false := decide_eq_false hltz
        have B6_ := hB
        have P6 := Aside0.mk ((hB.out.block gx (blk_lt P4.out)).trans P4.out)
        clear x3
        obtain ⟨⟨x0, x1, x2, x3, x4, x5⟩, z0, z1, z2, z3, z4, z5⟩ := bp_all_ P6.out
        clear z0 z1 z2 z3 z4 z5
        go_upto_region 14 with fail
        clear hf hk hlt hltb hltz hltzb
        obtain ⟨th, hth⟩ : ∃ t : Int, t = (if -2 < (if 100 < a1 then 100 else a1) then (if 100 < a1 then 100 else a1) else -2) := ⟨_, rfl⟩
        rw [← hth]
        have BT := Aside0.mk (show -2 ≤ th ∧ th ≤ 100 by rw [hth]; (repeat' split) <;> omega)
        clear hth
        have HT := Aside0.mk TT.out
        by_cases hA : 0 ≤ th - o1 ∧ th - o1 < (nf : Int)
        · have CFt := Aside0.mk (CF.out th (th - o1) true (by have := BT.out; omega) (by have := BT.out; omega) (by rw [if_pos hA]))
          have CHt := Aside0.mk (CH.out (th - o1) (by omega) (by have := BD.out; omega))
          rw [show o1 + (th - o1) = th by omega] at CHt
          obtain ⟨tg, htg⟩ : ∃ g, g = th - o1 := ⟨_, rfl⟩
          rw [← htg] at CFt CHt
          have d1 : decide (th ≥ o1) = true := decide_eq_true (by omega)
          have d2 : decide (o1 ≤ th) = true := decide_eq_true (by omega)
          have d3 : decide (th < T) = true := decide_eq_true (by have := TT.out; omega)
          have d4 : o1 ≤ th := by omega
          have d5 : th < T := by have := TT.out; omega
          clear hA htg
          go_wp2_with (first | (go_at_call 16; (with_reducible refine (CFt.out _ (by repeat (first | exact B6_.out | apply pw_below_drewN | apply below_drew))).mono ?_); rintro e w7 ⟨rfl, hb7⟩; have B7 := Aside0.mk (show Below w4.heap.size w4 w7 from below_step (by repeat (first | exact B6_.out | apply pw_below_drewN | apply below_drew)) hb7); have P7 := Aside0.mk ((B7.out.block gx (blk_lt P4.out)).trans P4.out); clear x0 x1 x2 x3 x4 x5 hb7; obtain ⟨⟨x0, x1, x2, x3, x4, x5⟩, z0, z1, z2, z3, z4, z5⟩ := bp_all_ P7.out; clear z0 z1 z2 z3 z4 z5) | (go_at_call 15; (with_reducible refine (CT.out _ B7.out).mono ?_); rintro e w8 ⟨rfl, hb8⟩; have B8 := Aside0.mk (below_step B7.out hb8); have P8 := Aside0.mk ((B8.out.block gx (blk_lt P4.out)).trans P4.out); clear x0 x1 x2 x3 x4 x5 hb8; obtain ⟨⟨x0, x1, x2, x3, x4, x5⟩, z0, z1, z2, z3, z4, z5⟩ := bp_all_ P8.out; clear z0 z1 z2 z3 z4 z5) | (go_at_call 17; (with_reducible refine (CHt.out _ (by first | exact B8.out | exact B7.out)).mono ?_); rintro e w9 ⟨rfl, hb9⟩; have B9 := Aside0.mk (below_step (by first | exact B8.out | exact B7.out) hb9); clear hb9))
          all_goals go_ret
          all_goals exact ⟨rfl, below_step B4_.out (by first | exact B9.out | exact B8.out | exact B7.out)⟩
        · by_cases hC : o1 ≤ th
          · have CFt := Aside0.mk (CF.out th 0 false (by have := BT.out; omega) (by have := BT.out; omega) (by rw [if_neg hA]))
            have d1 : decide (th ≥ o1) = true := decide_eq_true hC
            have d2 : decide (o1 ≤ th) = true := decide_eq_true hC
            have d3 : decide (th < T) = false := decide_eq_false (by have := TT.out; omega)
            have d5 : ¬ th < T := by have := TT.out; omega
            clear hA
            go_wp2_with (first | (go_at_call 16; (with_reducible refine (CFt.out _ (by repeat (first | exact B6_.out | apply pw_below_drewN | apply below_drew))).mono ?_); rintro e w7 ⟨rfl, hb7⟩; have B7 := Aside0.mk (show Below w4.heap.size w4 w7 from below_step (by repeat (first | exact B6_.out | apply pw_below_drewN | apply below_drew)) hb7); have P7 := Aside0.mk ((B7.out.block gx (blk_lt P4.out)).trans P4.out); clear x0 x1 x2 x3 x4 x5 hb7; obtain ⟨⟨x0, x1, x2, x3, x4, x5⟩, z0, z1, z2, z3, z4, z5⟩ := bp_all_ P7.out; clear z0 z1 z2 z3 z4 z5) | (go_at_call 15; (with_reducible refine (CT.out _ B7.out).mono ?_); rintro e w8 ⟨rfl, hb8⟩; have B8 := Aside0.mk (below_step B7.out hb8); have P8 := Aside0.mk ((B8.out.block gx (blk_lt P4.out)).trans P4.out); clear x0 x1 x2 x3 x4 x5 hb8; obtain ⟨⟨x0, x1, x2, x3, x4, x5⟩, z0, z1, z2, z3, z4, z5⟩ := bp_all_ P8.out; clear z0 z1 z2 z3 z4 z5) | (go_at_call 17; (with_reducible refine (CHt.out _ (by first | exact B8.out | exact B7.out)).mono ?_); rintro e w9 ⟨rfl, hb9⟩; have B9 := Aside0.mk (below_step (by first | exact B8.out | exact B7.out) hb9); clear hb9))
            all_goals go_ret
            all_goals exact ⟨rfl, below_step B4_.out (by first | exact B9.out | exact B8.out | exact B7.out)⟩
          · have CFt := Aside0.mk (CF.out th 0 false (by have := BT.out; omega) (by have := BT.out; omega) (by rw [if_neg hA]))
            have d1 : decide (th ≥ o1) = false := decide_eq_false (by omega)
            have d2 : decide (o1 ≤ th) = false := decide_eq_false hC
            clear hA
            go_wp2_with (first | (go_at_call 16; (with_reducible refine (CFt.out _ (by repeat (first | exact B6_.out | apply pw_below_drewN | apply below_drew))).mono ?_); rintro e w7 ⟨rfl, hb7⟩; have B7 := Aside0.mk (show Below w4.heap.size w4 w7 from below_step (by repeat (first | exact B6_.out | apply pw_below_drewN | apply below_drew)) hb7); have P7 := Aside0.mk ((B7.out.block gx (blk_lt P4.out)).trans P4.out); clear x0 x1 x2 x3 x4 x5 hb7; obtain ⟨⟨x0, x1, x2, x3, x4, x5⟩, z0, z1, z2, z3, z4, z5⟩ := bp_all_ P7.out; clear z0 z1 z2 z3 z4 z5) | (go_at_call 15; (with_reducible refine (CT.out _ B7.out).mono ?_); rintro e w8 ⟨rfl, hb8⟩; have B8 := Aside0.mk (below_step B7.out hb8); have P8 := Aside0.mk ((B8.out.block gx (blk_lt P4.out)).trans P4.out); clear x0 x1 x2 x3 x4 x5 hb8; obtain ⟨⟨x0, x1, x2, x3, x4, x5⟩, z0, z1, z2, z3, z4, z5⟩ := bp_all_ P8.out; clear z0 z1 z2 z3 z4 z5) | (go_at_call 17; (with_reducible refine (CHt.out _ (by first | exact B8.out | exact B7.out)).mono ?_); rintro e w9 ⟨rfl, hb9⟩; have B9 := Aside0.mk (below_step (by first | exact B8.out | exact B7.out) hb9); clear hb9))
            all_goals go_ret
            all_goals exact ⟨rfl, below_step B4_.out (by first | exact B9.out | exact B8.out | exact B7.out)⟩
  · rw [if_neg hbd] at h
    exact absurd h (by simp)
end Go.Proofs.Ytgfjjhfkgfnpaaa.PB

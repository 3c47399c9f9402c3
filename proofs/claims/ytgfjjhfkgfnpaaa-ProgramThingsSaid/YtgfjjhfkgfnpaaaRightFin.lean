/- Right, whole, where its loop of the entries and the last one are as they are told. -/
import Derived.Test.YtgfjjhfkgfnpaaaRightBase
import Derived.Deep.RegionHeld3
import Derived.Deep.DeepCutAuto
namespace Go.Proofs.Ytgfjjhfkgfnpaaa.PB
open Go.RowKit Go.Proofs.YtgfjjhfkgfnpaaaW.PrintWords Go.Proofs.YtgfjjhfkgfnpaaaW.PrintLast Go.Proofs.YtgfjjhfkgfnpaaaW.PrintMore
set_option linter.unusedVariables false
set_option linter.unusedSimpArgs false
attribute [local go_sem] fdrewN_alloc_ fdrewN_setCell_
set_option maxHeartbeats 80000000 in
set_option maxRecDepth 100000 in
theorem right15_front (HENT_ : EntSaid) : GotSaid := by
  unfold GotSaid
  intro a0 a1 a2 A3 c3 l3 A4 c4 l4 A5 c5 l5 ops hop w hr3 hc3 hr4 hc4 hr5 hc5
  have HENT_ := Aside0.mk HENT_
  have hu26 := Try.underlying26
  have hu52 := Try.underlying52
  have hu53 := Try.underlying53
  have HOPS := Aside0.mk hop
  have HR3 := Aside0.mk hr3
  have HR4 := Aside0.mk hr4
  have HR5 := Aside0.mk hr5
  have HC3 := Aside0.mk hc3
  have HC4 := Aside0.mk hc4
  have HC5 := Aside0.mk hc5
  obtain ⟨n3, hn3⟩ : ∃ n, n = l3.length := ⟨_, rfl⟩
  obtain ⟨n4, hn4⟩ : ∃ n, n = l4.length := ⟨_, rfl⟩
  obtain ⟨n5, hn5⟩ : ∃ n, n = l5.length := ⟨_, rfl⟩
  rw [← hn3, ← hn4, ← hn5]
  have N3 := Aside0.mk hn3
  have N4 := Aside0.mk hn4
  have N5 := Aside0.mk hn5
  obtain ⟨t0, ht0⟩ : ∃ t, t = a0 % 30 := ⟨_, rfl⟩
  obtain ⟨t1, ht1⟩ : ∃ t, t = a1 % 12 := ⟨_, rfl⟩
  obtain ⟨t2, ht2⟩ : ∃ t, t = a2 % 6 := ⟨_, rfl⟩
  obtain ⟨V, hV⟩ : ∃ V, V = 1 + t0 := ⟨_, rfl⟩
  obtain ⟨U, hU⟩ : ∃ V, V = 1 + t1 := ⟨_, rfl⟩
  obtain ⟨Y, hY⟩ : ∃ V, V = 1 + t2 := ⟨_, rfl⟩
  have AT0 := Aside0.mk (show ∀ W, Calls Try.prog 28 #[.int .i64 a0, .int .i64 30] W fun e w' => e = .returned (.int .i64 t0) ∧ Drawn0 W w' from fun W => by rw [ht0]; exact at15_ a0 30 (by decide) (by decide) W)
  have AT1 := Aside0.mk (show ∀ W, Calls Try.prog 28 #[.int .i64 a1, .int .i64 12] W fun e w' => e = .returned (.int .i64 t1) ∧ Drawn0 W w' from fun W => by rw [ht1]; exact at15_ a1 12 (by decide) (by decide) W)
  have AT2 := Aside0.mk (show ∀ W, Calls Try.prog 28 #[.int .i64 a2, .int .i64 6] W fun e w' => e = .returned (.int .i64 t2) ∧ Drawn0 W w' from fun W => by rw [ht2]; exact at15_ a2 6 (by decide) (by decide) W)
  have b0 : 0 ≤ t0 ∧ t0 < 30 := by rw [ht0]; omega
  have b1 : 0 ≤ t1 ∧ t1 < 12 := by rw [ht1]; omega
  have b2 : 0 ≤ t2 ∧ t2 < 6 := by rw [ht2]; omega
  have BV := Aside0.mk (show 1 ≤ V ∧ V ≤ 30 by omega)
  have BU := Aside0.mk (show 1 ≤ U ∧ U ≤ 12 by omega)
  have BY := Aside0.mk (show 1 ≤ Y ∧ Y ≤ 6 by omega)
  have wv0 : IntKind.i64.wrap (1 + t0) = V := by rw [i64_w]; unfold wrap64; omega
  have wv1 : IntKind.i64.wrap (1 + t1) = U := by rw [i64_w]; unfold wrap64; omega
  have wv2 : IntKind.i64.wrap (1 + t2) = Y := by rw [i64_w]; unfold wrap64; omega
  have TV := Aside0.mk (show V = 1 + a0 % 30 by rw [hV, ht0])
  have TU := Aside0.mk (show U = 1 + a1 % 12 by rw [hU, ht1])
  have TY := Aside0.mk (show Y = 1 + a2 % 6 by rw [hY, ht2])
  clear hop hr3 hr4 hr5 hc3 hc4 hc5 hn3 hn4 hn5 ht0 ht1 ht2 hV hU hY b0 b1 b2
  go_enter Try.func12, Try.ntmps12
  go_upto_region 1 with fail
  obtain ⟨wB, hwB⟩ : ∃ wB, wB = (w.alloc (.cells #[.int .i64 a0, .int .i64 a1, .int .i64 a2, .slice A3 n3 c3, .slice A4 n4 c4, .slice A5 n5 c5] 26)).alloc (.cells #[.int .i64 0, .int .i64 0, .int .i64 0, .slice none 0 0, .slice none 0 0, .slice none 0 0] 26) := ⟨_, rfl⟩
  obtain ⟨gp, hgp⟩ : ∃ g, g = w.heap.size := ⟨_, rfl⟩
  obtain ⟨gz, hgz⟩ : ∃ g, g = w.heap.size + 1 := ⟨_, rfl⟩
  rw [← hwB, ← hgz, ← hgp]
  have HB := Aside0.mk (show Below w.heap.size w wB by rw [hwB]; exact below_alloc (below_alloc (Below.refl _ _) _) _)
  have hp0 : wB.heap[gp]? = some (bq_ a0 a1 a2 (.slice A3 n3 c3) (.slice A4 n4 c4) (.slice A5 n5 c5)) := by rw [hwB, hgp]; exact blk_alloc (blk_new _ _) _
  have hz0 : wB.heap[gz]? = some (bq_ 0 0 0 (.slice none 0 0) (.slice none 0 0) (.slice none 0 0)) := by
    rw [hwB, hgz]
    exact few_new_ rfl (by rw [World.size_alloc])
  have BKP := Aside0.mk hp0
  have BKZ := Aside0.mk hz0
  have GP := Aside0.mk (show w.heap.size ≤ gp by omega)
  have GZ := Aside0.mk (show w.heap.size ≤ gz by omega)
  have GPZ := Aside0.mk (show gp ≠ gz by omega)
  obtain ⟨⟨q0, q1, q2, q3, q4, q5⟩, z0, z1, z2, z3, z4, z5⟩ := bq_all_ hp0
  have hgl : gp < wB.heap.size := blk_lt hp0
  clear hp0 hz0 hwB hgp hgz z0 z1 z2 z3 z4 z5
  go_cut [5] (fun v5 wc => ∃ gq, v5 = .pointer (some ⟨gq, 0, none⟩) ∧ wB.heap.size ≤ gq ∧ wc.heap[gq]? = some (bq_ V U Y (.slice none 0 0) (.slice none 0 0) (.slice none 0 0)) ∧ Below wB.heap.size wB wc)
  case first =>
    rename_i J_ K_ hJ_ hK_
    go_region_held3 (fun w' => w'.cell? ⟨gp, 0, none⟩ = some (.int .i64 a0) ∧ w'.cell? ⟨gp, 1, none⟩ = some (.int .i64 a1) ∧ w'.cell? ⟨gp, 2, none⟩ = some (.int .i64 a2)) (refine ⟨?_, ?_, ?_⟩ <;> (repeat' first | with_reducible assumption | with_reducible apply fcellA_ | with_reducible apply fcellD_ | with_reducible apply fcellN_ | (with_reducible refine fcellS_ ?_ ?_ _) | exact Nat.ne_of_lt hgl)) (first | (go_at_call_of 28 a0; (with_reducible refine (AT0.out _).mono ?_); rintro e w' ⟨rfl, ⟨nd, rfl⟩⟩) | (go_at_call_of 28 a1; (with_reducible refine (AT1.out _).mono ?_); rintro e w' ⟨rfl, ⟨nd, rfl⟩⟩) | (go_at_call_of 28 a2; (with_reducible refine (AT2.out _).mono ?_); rintro e w' ⟨rfl, ⟨nd, rfl⟩⟩))
    all_goals (refine hK_ _ _ (Met.intro (hJ_ _ _ ?_)); (repeat apply Exists.intro); refine ⟨?rel, rfl⟩; (case rel => exact ⟨wB.heap.size, rfl, Nat.le_refl _, blk_drewN (blk_new _ _) _, pw_below_drewN (below_alloc (Below.refl _ _) _) _⟩))
  obtain ⟨gq, rfl, hgq, hq, hBc⟩ := hcut
  have HI := Aside0.mk (show Rw1_ w gp gz gq a0 a1 a2 V U Y (.slice A3 n3 c3) (.slice A4 n4 c4) (.slice A5 n5 c5) (.slice none 0 0) (.slice none 0 0) (.slice none 0 0) wc from ⟨(hBc.block _ (blk_lt BKP.out)).trans BKP.out, (hBc.block _ (blk_lt BKZ.out)).trans BKZ.out, hq, below_step HB.out hBc⟩)
  have GQ := Aside0.mk (show w.heap.size ≤ gq from Nat.le_trans HB.out.size hgq)
  have GPQ := Aside0.mk (show gp ≠ gq from by omega)
  have GZQ := Aside0.mk (show gz ≠ gq from by have := blk_lt BKZ.out; omega)
  have hx3 := Kd.C_max HR3.out
  have hx4 := Kd.C_max HR4.out
  have hx5 := Kd.C_max HR5.out
  have X3 := Aside0.mk (show n3 ≤ 9223372036854775807 from by have := N3.out; omega)
  have X4 := Aside0.mk (show n4 ≤ 9223372036854775807 from by have := N4.out; omega)
  have X5 := Aside0.mk (show n5 ≤ 9223372036854775807 from by have := N5.out; omega)
  clear q0 q1 q2 q3 q4 q5 hgl BKP BKZ HB hgq hq hBc hx3 hx4 hx5 wv0 wv1 wv2 AT0 AT1 AT2
  go_upto_block 0 with fail
  go_cut [] (fun wc => ∃ v3, Rw1_ w gp gz gq a0 a1 a2 V U Y (.slice A3 n3 c3) (.slice A4 n4 c4) (.slice A5 n5 c5) v3 (.slice none 0 0) (.slice none 0 0) wc ∧ Kd.N k52 52 wc w.heap.size (fun k => (k ≠ gq ∧ k ≠ gz) ∧ w.heap.size ≤ k) v3 (fun15 V l3))
  case first =>
    go_wp2_with fail
    go_loopg [8] 8 (fun kq v8 w' => ∃ (i : Nat) (v3 : Value), v8 = .int .i64 (i : Int) ∧ i ≤ n3 ∧ i ≤ 8 ∧ kq = 8 - i ∧ Aside0 (Rw1_ w gp gz gq a0 a1 a2 V U Y (.slice A3 n3 c3) (.slice A4 n4 c4) (.slice A5 n5 c5) v3 (.slice none 0 0) (.slice none 0 0) w') ∧ Aside0 (Kd.N k52 52 w' w.heap.size (fun k => (k ≠ gq ∧ k ≠ gz) ∧ w.heap.size ≤ k) v3 (fun15 V (l3.take i))))
    case atStart => exact ⟨0, _, rfl, by omega, by omega, by omega, HI, ⟨Kd.N_nil _ _ _ _ _⟩⟩
    case round =>
      obtain ⟨i, v3, rfl, hi, h40, hk, hI, hN⟩ := hrel
      have himax : (i : Int) < 9223372036854775807 := by omega
      obtain ⟨F, hF⟩ : ∃ F, F = fun15 V (l3.take i) := ⟨_, rfl⟩
      rw [← hF] at hN
      obtain ⟨Av, cv, ev⟩ := Kd.N_slice hN.out
      obtain ⟨nv, hnv⟩ : ∃ n, n = F.length := ⟨_, rfl⟩
      rw [← hnv] at ev
      subst ev
      have NV := Aside0.mk hnv
      have HFF := Aside0.mk hF
      obtain ⟨⟨q0, q1, q2, q3, q4, q5⟩, z0, z1, z2, z3, z4, z5⟩ := bq_all_ hI.out.1
      clear q0 q1 q2 q4 q5 z0 z1 z2 z3 z4 z5 hnv hF
      by_cases hlt : i < n3
      · have hltb : decide (i < n3) = true := decide_eq_true hlt
        have hltz : (i : Int) < (n3 : Int) := by omega
        have hltzb : decide ((i : Int) < (n3 : Int)) = true := decide_eq_true hltz
        have h0z : (0 : Int) ≤ (i : Int) := by omega
        by_cases hten : i < 8
        · have htenb : decide ((i : Int) < 8) = true := decide_eq_true (by omega)
          have htenn : decide (i < 8) = true := decide_eq_true hten
          have hlt3 : i < l3.length := by have := N3.out; omega
          obtain ⟨ad, A1, c1, e1, hx0, hx1, hl1, hC1⟩ := at_T52 HR3.out (i : Int) h0z (by omega)
          subst e1
          rw [Int.toNat_natCast] at hx0 hx1
          obtain ⟨z, hz⟩ : ∃ z, z = rd_T52 l3 (i : Int) := ⟨_, rfl⟩
          have HSU := Aside0.mk (by have := fun15_succ V l3 i hlt3 hten; rw [← HFF.out] at this; exact this)
          rw [← hz] at hx0 hx1 hl1 hC1 HSU
          obtain ⟨y, ry⟩ := z
          simp only at hx0 hx1 hl1 hC1 HSU
          obtain ⟨ny, hny⟩ : ∃ n, n = y.length := ⟨_, rfl⟩
          rw [← hny] at hx0
          obtain ⟨my, hmy⟩ : ∃ n, n = (vars15 V y).length := ⟨_, rfl⟩
          obtain ⟨ra, hra⟩ : ∃ a, a = ans15 V ry := ⟨_, rfl⟩
          rw [← hra] at HSU
          have CA := Aside0.mk (show ∀ W, W.cell? ⟨gq, 0, none⟩ = some (.int .i64 V) → Calls Try.prog 30 #[.int .i64 ry, .pointer (some ⟨gq, 0, none⟩)] W fun e w' => e = .returned (.int .i64 ra) ∧ Drawn0 W w' from fun W hW => by rw [hra]; exact ans15_ ry V gq W BV.out.1 (by have := BV.out.2; omega) hW)
          have CY := Aside0.mk (show ∀ W, Below w.heap.size w W → W.cell? ⟨gq, 0, none⟩ = some (.int .i64 V) → Calls Try.prog 29 #[.slice A1 ny c1, .pointer (some ⟨gq, 0, none⟩)] W fun e w' => ∃ A c, e = .returned (.slice A my c) ∧ my ≤ c ∧ Kd.F (Kd.int .i64) w' (fun k => W.heap.size ≤ k) A my (vars15 V y) ∧ Below W.heap.size W w' from fun W hW hc => by
            rw [hny, hmy]
            refine (vars15_ A1 c1 y V gq W BV.out.1 (by have := BV.out.2; omega) (Kd.C_below hC1 hW) hl1 hc).mono ?_
            rintro e w' ⟨v, rfl, hn, hb⟩
            obtain ⟨A, c, rfl⟩ := Kd.N_slice hn
            exact ⟨A, c, rfl, (Kd.N_reads' hn).2.1, Kd.N_F hn, hb⟩)
          have MY := Aside0.mk hmy
          have y0 := pw_cell_below hI.out.2.2.2 hx0
          have y1 := pw_cell_below hI.out.2.2.2 hx1
          have HX0 := Aside0.mk hx0
          have HX1 := Aside0.mk hx1
          have AS := Aside0.mk (And.intro hi (And.intro h40 (And.intro hlt (And.intro hten (And.intro hk (show F.length ≤ 8 from by rw [HFF.out, fun15_len]; omega))))))
          clear hx0 hx1 hl1 hC1 hz hny hmy hra
          obtain ⟨⟨s0, s1, s2, s3, s4, s5⟩, t0, t1, t2, t3, t4, t5⟩ := bq_all_ hI.out.2.2.1
          clear s1 s2 s4 s5 t0 t1 t2 t4 t5
          go_upto_region 7 with fail
          have ID := (show Rw1_ w gp gz gq a0 a1 a2 V U Y (.slice (some ad) n3 c3) (.slice A4 n4 c4) (.slice A5 n5 c5) (.slice Av nv cv) (.slice none 0 0) (.slice none 0 0) wr.drew from ⟨hI.out.1, hI.out.2.1, hI.out.2.2.1, below_drew hI.out.2.2.2⟩)
          have ND := Kd.N_drew hN.out
          refine start_ (n := 23) (S := fun w' => (w'.cell? (ad.add (i * 2)) = some (.slice A1 ny c1) ∧ w'.cell? ⟨(ad.add (i * 2)).block, (ad.add (i * 2)).off + 1, none⟩ = some (.int .i64 ry)) ∧ w'.cell? ⟨gp, 3, none⟩ = some (.slice (some ad) n3 c3) ∧ w'.cell? ⟨gq, 3, none⟩ = some (.slice Av nv cv) ∧ w'.cell? ⟨gq, 0, none⟩ = some (.int .i64 V)) (ds := [22]) #[false, false, false, false, false, false, false, false, false, false, false, false, false, false, false, false, false, false, false, false, false, false, false] (by kernel_rfl) rfl rfl ⟨⟨y0, y1⟩, q3, s3, s0⟩ (fun hHeld => ?_)
          refine with_tabW rt15.tab7 rt15.bits7 (fun HT_ HW_ => ?_)
          generalize wr.drew = wD at ID ND hHeld ⊢
          refine pure_ (i := 0) (N := some 41) (v := ?_) (a' := ?_) #[true, false, false, false, false, false, false, false, false, false, false, false, false, false, false, false, false, false, false, false, false, false, false] rfl rfl (any_of HT_.out (by kernel_rfl)) (fun _ _ _ h => h) (Or.inl ⟨by rfl, ?_⟩) ?_ ?_
          rotate_left
          · intro w'
            go_simp
            with_reducible rfl
          rotate_left
          · simp only [Act.put, List.setIfInBounds_toArray, List.set_cons_zero, List.set_cons_succ, i64_w, i32_w]
            rfl
          refine pure_ (i := 2) (N := some 43) (v := ?_) (a' := ?_) #[true, false, true, false, false, false, false, false, false, false, false, false, false, false, false, false, false, false, false, false, false, false, false] rfl rfl (any_of HT_.out (by kernel_rfl)) (fun _ _ _ h => h) (Or.inl ⟨by rfl, ?_⟩) ?_ ?_
          rotate_left
          · intro w'
            go_simp
            with_reducible rfl
          rotate_left
          · simp only [Act.put, List.setIfInBounds_toArray, List.set_cons_zero, List.set_cons_succ, i64_w, i32_w]
            rfl
          refine pure_ (i := 3) (N := some 44) (v := ?_) (a' := ?_) #[true, false, true, true, false, false, false, false, false, false, false, false, false, false, false, false, false, false, false, false, false, false, false] rfl rfl (any_of HT_.out (by kernel_rfl)) (fun _ _ _ h => h) (Or.inl ⟨by rfl, ?_⟩) ?_ ?_
          rotate_left
          · intro w'
            go_simp
            with_reducible rfl
          rotate_left
          · simp only [Act.put, List.setIfInBounds_toArray, List.set_cons_zero, List.set_cons_succ, i64_w, i32_w]
            rfl
          refine pure_ (i := 5) (N := some 46) (v := ?_) (a' := ?_) #[true, false, true, true, false, true, false, false, false, false, false, false, false, false, false, false, false, false, false, false, false, false, false] rfl rfl (any_of HT_.out (by kernel_rfl)) (fun _ _ _ h => h) (Or.inl ⟨by rfl, ?_⟩) ?_ ?_
          rotate_left
          · intro w'
            go_simp
            with_reducible rfl
          rotate_left
          · simp only [Act.put, List.setIfInBounds_toArray, List.set_cons_zero, List.set_cons_succ, i64_w, i32_w]
            rfl
          refine pure_ (i := 10) (N := some 51) (v := ?_) (a' := ?_) #[true, false, true, true, false, true, false, false, false, false, true, false, false, false, false, false, false, false, false, false, false, false, false] rfl rfl (any_of HT_.out (by kernel_rfl)) (fun _ _ _ h => h) (Or.inl ⟨by rfl, ?_⟩) ?_ ?_
          rotate_left
          · intro w'
            go_simp
            with_reducible rfl
          rotate_left
          · simp only [Act.put, List.setIfInBounds_toArray, List.set_cons_zero, List.set_cons_succ, i64_w, i32_w]
            rfl
          refine pure_ (i := 11) (N := some 52) (v := ?_) (a' := ?_) #[true, false, true, true, false, true, false, false, false, false, true, true, false, false, false, false, false, false, false, false, false, false, false] rfl rfl (any_of HT_.out (by kernel_rfl)) (fun _ _ _ h => h) (Or.inl ⟨by rfl, ?_⟩) ?_ ?_
          rotate_left
          · intro w'
            go_simp
            with_reducible rfl
          rotate_left
          · simp only [Act.put, List.setIfInBounds_toArray, List.set_cons_zero, List.set_cons_succ, i64_w, i32_w]
            rfl
          refine pure_ (i := 13) (N := some 54) (v := ?_) (a' := ?_) #[true, false, true, true, false, true, false, false, false, false, true, true, false, true, false, false, false, false, false, false, false, false, false] rfl rfl (any_of HT_.out (by kernel_rfl)) (fun _ _ _ h => h) (Or.inl ⟨by rfl, ?_⟩) ?_ ?_
          rotate_left
          · intro w'
            go_simp
            with_reducible rfl
          rotate_left
          · simp only [Act.put, List.setIfInBounds_toArray, List.set_cons_zero, List.set_cons_succ, i64_w, i32_w]
            rfl
          refine take_ (i := 1) (N := some 42) (v := ?_) (a' := ?_) #[true, true, true, true, false, true, false, false, false, false, true, true, false, true, false, false, false, false, false, false, false, false, false] rfl rfl (take_ofW HT_.out HW_.out (by kernel_rfl)) (fun _ _ _ h => h) (Or.inl ⟨by rfl, ?_⟩) hHeld ?_ ?_
          rotate_left
          · rintro w' ⟨⟨s0, s1⟩, s2, s3, s4⟩
            go_simp
            with_reducible rfl
          rotate_left
          · simp only [Act.put, List.setIfInBounds_toArray, List.set_cons_zero, List.set_cons_succ, i64_w, i32_w]
            rfl
          refine take_ (i := 4) (N := some 45) (v := ?_) (a' := ?_) #[true, true, true, true, true, true, false, false, false, false, true, true, false, true, false, false, false, false, false, false, false, false, false] rfl rfl (take_ofW HT_.out HW_.out (by kernel_rfl)) (fun _ _ _ h => h) (Or.inl ⟨by rfl, ?_⟩) hHeld ?_ ?_
          rotate_left
          · rintro w' ⟨⟨s0, s1⟩, s2, s3, s4⟩
            go_simp
            with_reducible rfl
          rotate_left
          · simp only [Act.put, List.setIfInBounds_toArray, List.set_cons_zero, List.set_cons_succ, i64_w, i32_w]
            rfl
          refine take_ (i := 12) (N := some 53) (v := ?_) (a' := ?_) #[true, true, true, true, true, true, false, false, false, false, true, true, true, true, false, false, false, false, false, false, false, false, false] rfl rfl (take_ofW HT_.out HW_.out (by kernel_rfl)) (fun _ _ _ h => h) (Or.inl ⟨by rfl, ?_⟩) hHeld ?_ ?_
          rotate_left
          · rintro w' ⟨⟨s0, s1⟩, s2, s3, s4⟩
            go_simp
            with_reducible rfl
          rotate_left
          · simp only [Act.put, List.setIfInBounds_toArray, List.set_cons_zero, List.set_cons_succ, i64_w, i32_w]
            rfl
          refine pure_ (i := 6) (N := some 47) (v := ?_) (a' := ?_) #[true, true, true, true, true, true, true, false, false, false, true, true, true, true, false, false, false, false, false, false, false, false, false] rfl rfl (any_of HT_.out (by kernel_rfl)) (fun _ _ _ h => h) (Or.inl ⟨by rfl, ?_⟩) ?_ ?_
          rotate_left
          · intro w'
            go_simp
            with_reducible rfl
          rotate_left
          · simp only [Act.put, List.setIfInBounds_toArray, List.set_cons_zero, List.set_cons_succ, i64_w, i32_w]
            rfl
          refine pure_ (i := 14) (N := some 55) (v := ?_) (a' := ?_) #[true, true, true, true, true, true, true, false, false, false, true, true, true, true, true, false, false, false, false, false, false, false, false] rfl rfl (any_of HT_.out (by kernel_rfl)) (fun _ _ _ h => h) (Or.inl ⟨by rfl, ?_⟩) ?_ ?_
          rotate_left
          · intro w'
            go_simp
            with_reducible rfl
          rotate_left
          · simp only [Act.put, List.setIfInBounds_toArray, List.set_cons_zero, List.set_cons_succ, i64_w, i32_w]
            rfl
          refine pure_ (i := 7) (N := some 48) (v := ?_) (a' := ?_) #[true, true, true, true, true, true, true, true, false, false, true, true, true, true, true, false, false, false, false, false, false, false, false] rfl rfl (any_of HT_.out (by kernel_rfl)) (fun _ _ _ h => h) (Or.inl ⟨by rfl, ?_⟩) ?_ ?_
          rotate_left
          · intro w'
            go_simp
            with_reducible rfl
          rotate_left
          · simp only [Act.put, List.setIfInBounds_toArray, List.set_cons_zero, List.set_cons_succ, i64_w, i32_w]
            rfl
          refine pure_ (i := 15) (N := some 56) (v := ?_) (a' := ?_) #[true, true, true, true, true, true, true, true, false, false, true, true, true, true, true, true, false, false, false, false, false, false, false] rfl rfl (any_of HT_.out (by kernel_rfl)) (fun _ _ _ h => h) (Or.inl ⟨by rfl, ?_⟩) ?_ ?_
          rotate_left
          · intro w'
            go_simp
            with_reducible rfl
          rotate_left
          · simp only [Act.put, List.setIfInBounds_toArray, List.set_cons_zero, List.set_cons_succ, i64_w, i32_w]
            rfl
          refine take_ (i := 8) (N := some 49) (v := ?_) (a' := ?_) #[true, true, true, true, true, true, true, true, true, false, true, true, true, true, true, true, false, false, false, false, false, false, false] rfl rfl (take_ofW HT_.out HW_.out (by kernel_rfl)) (fun _ _ _ h => h) (Or.inl ⟨by rfl, ?_⟩) hHeld ?_ ?_
          rotate_left
          · rintro w' ⟨⟨s0, s1⟩, s2, s3, s4⟩
            go_simp
            with_reducible rfl
          rotate_left
          · simp only [Act.put, List.setIfInBounds_toArray, List.set_cons_zero, List.set_cons_succ, i64_w, i32_w]
            rfl
          refine take_ (i := 16) (N := some 57) (v := ?_) (a' := ?_) #[true, true, true, true, true, true, true, true, true, false, true, true, true, true, true, true, true, false, false, false, false, false, false] rfl rfl (take_ofW HT_.out HW_.out (by kernel_rfl)) (fun _ _ _ h => h) (Or.inl ⟨by rfl, ?_⟩) hHeld ?_ ?_
          rotate_left
          · rintro w' ⟨⟨s0, s1⟩, s2, s3, s4⟩
            go_simp
            with_reducible rfl
          rotate_left
          · simp only [Act.put, List.setIfInBounds_toArray, List.set_cons_zero, List.set_cons_succ, i64_w, i32_w]
            rfl
          refine one_ (i := 9) (N := some 50) #[true, true, true, true, true, true, true, true, true, true, true, true, true, true, true, true, true, false, false, false, false, false, false] rfl rfl (one_of HT_.out (by kernel_rfl)) (by decide) (fun K hK => ?_)
          refine call_ 29 #[.slice A1 ny c1, .pointer (some ⟨gq, 0, none⟩)] (by rfl) rfl (by go_simp) ?_
          refine (CY.out _ ID.2.2.2 hHeld.2.2.2).mono ?_
          rintro e wE ⟨Ap, cp, rfl, hcp, hFp, hbp⟩
          refine ⟨_, rfl, ?_⟩
          have FO : Aside0 (∀ k, wD.heap.size ≤ k → ((k ≠ gq ∧ k ≠ gz) ∧ w.heap.size ≤ k) ∧ some k ≠ (Value.slice Av nv cv).ownBlock) := ⟨fun k hk => ⟨⟨by have := blk_lt ID.2.2.1; have := blk_lt ID.2.1; omega, Nat.le_trans ID.2.2.2.size hk⟩, fun e => by have := Kd.N_lt ND k e.symm; omega⟩⟩
          have IE := ID.below hbp
          have NE := Kd.N_below ND hbp
          have FP := Aside0.mk hFp
          have CP := Aside0.mk hcp
          refine hK.out _ _ ⟨⟨pw_cell_below IE.2.2.2 HX0.out, pw_cell_below IE.2.2.2 HX1.out⟩, (bq_all_ IE.1).1.2.2.2.1, (bq_all_ IE.2.2.1).1.2.2.2.1, (bq_all_ IE.2.2.1).1.1⟩ (fun hHeld => ?_)
          clear hK K
          refine norm_ (a' := ?_) ?_ ?_
          rotate_left
          · show Act.put _ (some 50) _ = _
            simp only [Act.put, List.setIfInBounds_toArray, List.set_cons_zero, List.set_cons_succ, i64_w, i32_w]
            rfl
          clear ID ND hbp hFp hcp
          generalize wD.heap.size = bD at FO FP
          refine one_ (i := 17) (N := some 58) #[true, true, true, true, true, true, true, true, true, true, true, true, true, true, true, true, true, true, false, false, false, false, false] rfl rfl (one_of HT_.out (by kernel_rfl)) (by decide) (fun K hK => ?_)
          refine call_ 30 #[.int .i64 ry, .pointer (some ⟨gq, 0, none⟩)] (by rfl) rfl (by go_simp) ?_
          refine (CA.out _ hHeld.2.2.2).mono ?_
          rintro e w' ⟨rfl, ⟨nd, rfl⟩⟩
          refine ⟨_, rfl, ?_⟩
          refine hK.out _ _ hHeld (fun hHeld => ?_)
          clear hK K
          refine norm_ (a' := ?_) ?_ ?_
          rotate_left
          · show Act.put _ (some 58) _ = _
            simp only [Act.put, List.setIfInBounds_toArray, List.set_cons_zero, List.set_cons_succ, i64_w, i32_w]
            rfl
          have IG : Rw1_ w gp gz gq a0 a1 a2 V U Y (.slice (some ad) n3 c3) (.slice A4 n4 c4) (.slice A5 n5 c5) (.slice Av nv cv) (.slice none 0 0) (.slice none 0 0) (wE.drewN nd) := ⟨IE.1, IE.2.1, IE.2.2.1, pw_below_drewN IE.2.2.2 _⟩
          have NG := Kd.N_drewN NE nd
          have FG := Aside0.mk (Kd.F_below FP.out (pw_below_drewN (Below.refl _ _) nd))
          clear IE NE FP
          generalize wE.drewN nd = wG at IG NG FG hHeld ⊢
          refine pure_ (i := 18) (N := some 59) (v := ?_) (a' := ?_) #[true, true, true, true, true, true, true, true, true, true, true, true, true, true, true, true, true, true, true, false, false, false, false] rfl rfl (any_of HT_.out (by kernel_rfl)) (fun _ _ _ h => h) (Or.inl ⟨by rfl, ?_⟩) ?_ ?_
          rotate_left
          · intro w'
            go_simp
            with_reducible rfl
          rotate_left
          · simp only [Act.put, List.setIfInBounds_toArray, List.set_cons_zero, List.set_cons_succ, i64_w, i32_w]
            rfl
          refine one_ (i := 19) (N := some 60) #[true, true, true, true, true, true, true, true, true, true, true, true, true, true, true, true, true, true, true, true, false, false, false] rfl rfl (one_of HT_.out (by kernel_rfl)) (by decide) (fun K hK => ?_)
          refine value_ (w1 := ?_) (v := ?_) (by rfl) rfl ?_ ?_
          rotate_left 2
          · go_simp
            constructor
            · rfl
            · rfl
          refine hK.out _ _ ⟨⟨fcellA_ hHeld.1.1 _, fcellA_ hHeld.1.2 _⟩, fcellA_ hHeld.2.1 _, fcellA_ hHeld.2.2.1 _, fcellA_ hHeld.2.2.2 _⟩ (fun hHeld => ?_)
          clear hK K
          refine norm_ (a' := ?_) ?_ ?_
          rotate_left
          · show Act.put _ (some 60) _ = _
            simp only [Act.put, List.setIfInBounds_toArray, List.set_cons_zero, List.set_cons_succ, i64_w, i32_w]
            rfl
          refine one_ (i := 20) (N := some 61) #[true, true, true, true, true, true, true, true, true, true, true, true, true, true, true, true, true, true, true, true, true, false, false] rfl rfl (one_of HT_.out (by kernel_rfl)) (by decide) (fun K hK => ?_)
          refine Kd.N_append_step k52 (w0 := w) w.heap.size (by rfl) (.tmp 42) (.tmp 60) 22 52 (.agg #[.slice none 0 0, .int .i64 0]) 32 rfl Try.underlying22 few15.info52 rfl (by decide) (by omega) (.slice Av nv cv) F ⟨vars15 V y, ra⟩ [.slice Ap my cp, .int .i64 ra] (fun k => (k ≠ gq ∧ k ≠ gz) ∧ w.heap.size ≤ k) (fun k => bD ≤ k) rfl rfl (fk52_ MY.out CP.out FG.out) FO.out (fun k hk => by have := blk_lt IG.2.2.1; have := blk_lt IG.2.1; have := IG.2.2.2.size; omega) NG IG.2.2.2 IG.2.2.2.size (by have := AS.out; omega) ?_
          intro v9 w9 hN9 hb9 hg9 _
          have I9 := IG.grown hg9 hb9 (fun h => Kd.N_ne NG h (by decide))
          obtain ⟨A9, c9, e9⟩ := Kd.N_slice hN9
          rw [List.length_append, List.length_singleton] at e9
          subst e9
          have h39 := bq_all_ I9.1
          have h49 := bq_all_ I9.2.2.1
          refine hK.out _ _ ⟨⟨pw_cell_below hb9 HX0.out, pw_cell_below hb9 HX1.out⟩, h39.1.2.2.2.1, h49.1.2.2.2.1, h49.1.1⟩ (fun hHeld => ?_)
          clear hK K
          refine norm_ (a' := ?_) ?_ ?_
          rotate_left
          · show Act.put _ (some 61) _ = _
            simp only [Act.put, List.setIfInBounds_toArray, List.set_cons_zero, List.set_cons_succ, i64_w, i32_w]
            rfl
          clear IG NG hg9
          refine pure_ (i := 21) (N := some 62) (v := ?_) (a' := ?_) #[true, true, true, true, true, true, true, true, true, true, true, true, true, true, true, true, true, true, true, true, true, true, false] rfl rfl (any_of HT_.out (by kernel_rfl)) (fun _ _ _ h => h) (Or.inl ⟨by rfl, ?_⟩) ?_ ?_
          rotate_left
          · intro w'
            go_simp
            with_reducible rfl
          rotate_left
          · simp only [Act.put, List.setIfInBounds_toArray, List.set_cons_zero, List.set_cons_succ, i64_w, i32_w]
            rfl
          refine last_ (i := 22) (N := none) #[true, true, true, true, true, true, true, true, true, true, true, true, true, true, true, true, true, true, true, true, true, true, true] rfl rfl (one_of HT_.out (by kernel_rfl)) (by decide) (fun K hK => ?_)
          have f9 := h49.2.2.2.2.1
          have g9 := h49.1.2.2.2.1
          refine skip_ (w1 := ?_) (by rfl) rfl ?_ ?_
          rotate_left
          · go_simp
            rfl
          refine hK.out _ _ ?_
          clear hK K
          refine done_ (done_of HT_.out (by kernel_rfl)) ?_
          go_wp2_with fail
          go_roundg (8 - (i + 1))
          case measure => have := AS.out; omega
          case rel => exact ⟨i + 1, _, by go_num, by have := AS.out; omega, by have := AS.out; omega, rfl, ⟨I9.set3 GPQ.out GZQ.out GQ.out⟩, ⟨by rw [HSU.out]; exact Kd.N_far (p := ⟨gq, 3, none⟩) hN9 (fun k hk => hk.1.1) _⟩⟩
        · have htenb : decide ((i : Int) < 8) = false := decide_eq_false (by omega)
          have htenn : decide (i < 8) = false := decide_eq_false hten
          have FU := Aside0.mk (fun15_full V l3 i (.inr (by omega)))
          go_wp2_with fail
          go_meet
          case rel => exact ⟨_, hI.out, by rw [← FU.out, ← HFF.out]; exact hN.out⟩
      · have hltb : decide (i < n3) = false := decide_eq_false hlt
        have hltz : ¬ (i : Int) < (n3 : Int) := by omega
        have hltzb : decide ((i : Int) < (n3 : Int)) = false := decide_eq_false hltz
        have FU := Aside0.mk (fun15_full V l3 i (.inl (by have := N3.out; omega)))
        go_wp2_with fail
        go_meet
        case rel => exact ⟨_, hI.out, by rw [← FU.out, ← HFF.out]; exact hN.out⟩
  obtain ⟨v3, hF1, hN3⟩ := hcut
  obtain ⟨F, hF⟩ : ∃ F, F = fun15 V l3 := ⟨_, rfl⟩
  rw [← hF] at hN3
  obtain ⟨Av, cv, ev⟩ := Kd.N_slice hN3
  obtain ⟨nv, hnv⟩ : ∃ n, n = F.length := ⟨_, rfl⟩
  rw [← hnv] at ev
  subst ev
  have HFG := Aside0.mk (show fun15g V l3 = if nv = 0 then [⟨[], -1⟩] else F by unfold fun15g; rw [← hF, ← hnv])
  have HF1 := Aside0.mk hF1
  have HN3 := Aside0.mk hN3
  obtain ⟨⟨s0, s1, s2, s3, s4, s5⟩, t0, t1, t2, t3, t4, t5⟩ := bq_all_ hF1.2.2.1
  clear s0 s1 s2 s4 s5 t0 t1 t2 t4 t5 hF hnv hF1 hN3 HI
  go_step
  go_step
  go_cut [] (fun wc => ∃ v3, Rw1_ w gp gz gq a0 a1 a2 V U Y (.slice A3 n3 c3) (.slice A4 n4 c4) (.slice A5 n5 c5) v3 (.slice none 0 0) (.slice none 0 0) wc ∧ Kd.N k52 52 wc w.heap.size (fun k => (k ≠ gq ∧ k ≠ gz) ∧ w.heap.size ≤ k) v3 (fun15g V l3))
  case first =>
    by_cases hv0 : nv = 0
    · have hvb : ((nv : Int) == 0) = true := by rw [beq_iff_eq]; omega
      have hvz : (nv : Int) = 0 := by omega
      have tA : (wc.alloc (.cells #[.slice none 0 0, .int .i64 (-1)] 52)).frozen? ⟨gq, 3, none⟩ = false := (bq_all_ (blk_alloc HF1.out.2.2.1 _)).2.2.2.2.1
      have sA : (wc.alloc (.cells #[.slice none 0 0, .int .i64 (-1)] 52)).cell? ⟨gq, 3, none⟩ = some (.slice Av nv cv) := (bq_all_ (blk_alloc HF1.out.2.2.1 _)).1.2.2.2.1
      go_wp2_with fail
      go_meet
      case rel => exact ⟨_, (HF1.out.below (below_alloc (Below.refl _ _) _)).set3 GPQ.out GZQ.out GQ.out, by
        rw [HFG.out, if_pos hv0]
        exact Kd.N_far (p := ⟨gq, 3, none⟩) (lit52_ _ _ _ HF1.out.2.2.2.size ⟨by have := blk_lt HF1.out.2.2.1; have := blk_lt HF1.out.2.1; omega, HF1.out.2.2.2.size⟩) (fun k hk => hk.1.1) _⟩
    · have hvb : ((nv : Int) == 0) = false := by rw [beq_eq_false_iff_ne]; omega
      have hvz : ¬ (nv : Int) = 0 := by omega
      go_wp2_with fail
      go_meet
      case rel => exact ⟨_, HF1.out, by rw [HFG.out, if_neg hv0]; exact HN3.out⟩
  clear HF1 HN3 HFG s3 t3
  go_step
  refine HENT_.out a0 a1 a2 A3 c3 n3 l3 A4 c4 n4 l4 A5 c5 n5 l5 ops V U Y w _ gp gz gq HOPS.out HR4.out N4.out X4.out HR5.out N5.out X5.out BV.out BU.out BY.out TV.out TU.out TY.out GP.out GZ.out GQ.out GPZ.out GPQ.out GZQ.out hcut _ _ _ _ _ _ _ _ _ _ _ _ _ _ _ _ _ _ _ _ _ _ _ _ _ _ _ _ _ _ _ _ _ _ _ _ _ _ _ _ _ _ _ _ _ _ _ _ _ _ _ _ _ _ _ _ _ _ _ _ _ _ _ _ _ _ _ _ _ _ _ _ _ _ _ _ _ _ _ _ _ _ _ _ _ _ _ _ _ _ _ _ _ _ _ _ _ _ _ _ _ _ _ _ _ _ _ _ _ _ _ _ _ _ _ _ _ _ _ _ _ _ _ _ _ _ _ _ _ _ _ _ _ _ _ _ _ _ _ _ _ _ _ _ _ _ _ _ _ _ _ _ _ _ _ _ _ _ _ _ _ _ _ _ _ _ _ _ _ _ _ _ _ _ _ _ _ _ _ _ _ _ _ _ _ _ _ _ _ _ _ _ _ _ _ _ _ _ _ _ _
end Go.Proofs.Ytgfjjhfkgfnpaaa.PB

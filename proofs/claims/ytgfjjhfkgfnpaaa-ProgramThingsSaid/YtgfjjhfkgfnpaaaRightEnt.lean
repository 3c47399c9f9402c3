/- Right, from the loop of the entries on, where its last loop is as it is told. -/
import Derived.Test.YtgfjjhfkgfnpaaaRightBase
import Derived.Deep.RegionHeld3
import Derived.Deep.DeepCutAuto
namespace Go.Proofs.Ytgfjjhfkgfnpaaa.PB
open Go.RowKit Go.Proofs.YtgfjjhfkgfnpaaaW.PrintWords Go.Proofs.YtgfjjhfkgfnpaaaW.PrintLast Go.Proofs.YtgfjjhfkgfnpaaaW.PrintMore
set_option linter.unusedVariables false
set_option linter.unusedSimpArgs false
attribute [local go_sem] fdrewN_alloc_ fdrewN_setCell_
set_option maxHeartbeats 80000000 in
set_option maxRecDepth 100000 in
theorem right15_entry (HOPS_ : OpsSaid) : EntSaid := by
  unfold EntSaid
  intro a0 a1 a2 A3 c3 n3 l3 A4 c4 n4 l4 A5 c5 n5 l5 ops V U Y w wc gp gz gq hop hr4 hn4 x4 hr5 hn5 x5 bv bu by_ tv tu_ ty_ hgp hgz hgq hpz hpq hzq_ hcut u3 u8 u9 u10 u11 u12 u13 u14 u15 u16 u17 u18 u19 u20 u21 u22 u23 u24 u25 u26 u27 u28 u29 u30 u31 u32 u33 u34 u35 u36 u37 u38 u39 u40 u41 u42 u43 u44 u45 u46 u47 u48 u49 u50 u51 u52 u53 u54 u55 u56 u57 u58 u59 u60 u61 u62 u63 u64 u65 u66 u67 u68 u69 u70 u71 u72 u73 u74 u75 u76 u77 u78 u79 u80 u81 u82 u83 u84 u85 u86 u87 u88 u89 u90 u91 u92 u93 u94 u95 u96 u97 u98 u99 u100 u101 u102 u103 u104 u105 u106 u107 u108 u109 u110 u111 u112 u113 u114 u115 u116 u117 u118 u119 u120 u121 u122 u123 u124 u125 u126 u127 u128 u129 u130 u131 u132 u133 u134 u135 u136 u137 u138 u139 u140 u141 u142 u143 u144 u145 u146 u147 u148 u149 u150 u151 u152 u153 u154 u155 u156 u157 u158 u159 u160 u161 u162 u163 u164 u165 u166 u167 u168 u169 u170 u171 u172 u173 u174 u175 u176 u177 u178 u179 u180 u181 u182 u183 u184 u185 u186 u187 u188 u189 u190 u191 u192 u193 u194 u195 u196 u197 u198 u199 u200 u201 u202 u203 u204 u205 u206 u207
  have HOPS_ := Aside0.mk HOPS_
  have hu26 := Try.underlying26
  have hu52 := Try.underlying52
  have hu53 := Try.underlying53
  have HR4 := Aside0.mk hr4
  have N4 := Aside0.mk hn4
  have X4 := Aside0.mk x4
  have HOPS := Aside0.mk hop
  have HR5 := Aside0.mk hr5
  have N5 := Aside0.mk hn5
  have X5 := Aside0.mk x5
  have BV := Aside0.mk bv
  have BU := Aside0.mk bu
  have BY := Aside0.mk by_
  have TV := Aside0.mk tv
  have TU := Aside0.mk tu_
  have TY := Aside0.mk ty_
  have GP := Aside0.mk hgp
  have GZ := Aside0.mk hgz
  have GQ := Aside0.mk hgq
  have GPZ := Aside0.mk hpz
  have GPQ := Aside0.mk hpq
  have GZQ := Aside0.mk hzq_
  clear hr4 hn4 x4 hop hr5 hn5 x5 bv bu by_ tv tu_ ty_ hgp hgz hgq hpz hpq hzq_
  conv => arg 2; whnf
  obtain ⟨v3, hF1, hN3⟩ := hcut
  obtain ⟨A3', c3', e3'⟩ := Kd.N_slice hN3
  obtain ⟨nf, hnf⟩ : ∃ n, n = (fun15g V l3).length := ⟨_, rfl⟩
  rw [← hnf] at e3'
  subst e3'
  have NF := Aside0.mk hnf
  have BF := Aside0.mk (show 1 ≤ nf ∧ nf ≤ 8 by rw [hnf]; exact fun15g_len V l3)
  obtain ⟨lo, hlo⟩ : ∃ lo, lo = wc.heap.size := ⟨_, rfl⟩
  have HN3 := Aside0.mk (show Kd.N k52 52 wc w.heap.size (fun k => ((k ≠ gq ∧ k ≠ gz) ∧ w.heap.size ≤ k) ∧ k < lo) (.slice A3' nf c3') (fun15g V l3) from by rw [hlo]; exact Kd.N_bound hN3)
  have HF1 := Aside0.mk hF1
  have LO := Aside0.mk (show gp < lo ∧ gz < lo ∧ gq < lo ∧ w.heap.size ≤ lo from by rw [hlo]; exact ⟨blk_lt hF1.1, blk_lt hF1.2.1, blk_lt hF1.2.2.1, hF1.2.2.2.size⟩)
  have HLO := Aside0.mk (show lo ≤ wc.heap.size from Nat.le_of_eq hlo)
  obtain ⟨⟨s0, s1, s2, s3, s4, s5⟩, t0, t1, t2, t3, t4, t5⟩ := bq_all_ hF1.2.2.1
  clear s0 s1 s2 s4 s5 t0 t1 t2 t3 t4 t5 hN3 hF1 hlo hnf
  go_upto_block 2 with fail
  go_cut [] (fun wd => ∃ v4, Rw1_ w gp gz gq a0 a1 a2 V U Y (.slice A3 n3 c3) (.slice A4 n4 c4) (.slice A5 n5 c5) (.slice A3' nf c3') v4 (.slice none 0 0) wd ∧ Kd.N k52 52 wd w.heap.size (fun k => ((k ≠ gq ∧ k ≠ gz) ∧ w.heap.size ≤ k) ∧ k < lo) (.slice A3' nf c3') (fun15g V l3) ∧ Kd.N (Kd.int .i64) 3 wd lo (fun k => (k ≠ gq ∧ k ≠ gz) ∧ lo ≤ k) v4 (ent15 (nf : Int) l4 nf) ∧ lo ≤ wd.heap.size)
  case first =>
    clear s3
    go_wp2_with fail
    go_loopg [73] nf (fun kq v73 w' => ∃ (f : Nat) (v4 : Value), v73 = .int .i64 (f : Int) ∧ f ≤ nf ∧ kq = nf - f ∧ Aside0 (Rw1_ w gp gz gq a0 a1 a2 V U Y (.slice A3 n3 c3) (.slice A4 n4 c4) (.slice A5 n5 c5) (.slice A3' nf c3') v4 (.slice none 0 0) w') ∧ Aside0 (Kd.N k52 52 w' w.heap.size (fun k => ((k ≠ gq ∧ k ≠ gz) ∧ w.heap.size ≤ k) ∧ k < lo) (.slice A3' nf c3') (fun15g V l3)) ∧ Aside0 (Kd.N (Kd.int .i64) 3 w' lo (fun k => (k ≠ gq ∧ k ≠ gz) ∧ lo ≤ k) v4 (ent15 (nf : Int) l4 f)) ∧ Aside0 (lo ≤ w'.heap.size))
    case atStart => exact ⟨0, _, rfl, by omega, by omega, HF1, HN3, ⟨Kd.N_nil _ _ _ _ _⟩, HLO⟩
    case round =>
      obtain ⟨f, v4, rfl, hf, hk, hI, hM, hN, hD⟩ := hrel
      have hfmax : (f : Int) < 9223372036854775807 := by have := BF.out; omega
      by_cases hlt : f < nf
      · have hltb : decide (f < nf) = true := decide_eq_true hlt
        have hltz : (f : Int) < (nf : Int) := by omega
        have hltzb : decide ((f : Int) < (nf : Int)) = true := decide_eq_true hltz
        have h0z : (0 : Int) ≤ (f : Int) := by omega
        obtain ⟨⟨q0, q1, q2, q3, q4, q5⟩, z0, z1, z2, z3, z4, z5⟩ := bq_all_ hI.out.1
        clear q0 q1 q2 q3 q5 z0 z1 z2 z3 z4 z5 HF1 HN3 HLO
        have AF := Aside0.mk (And.intro hf (And.intro hk hlt))
        go_wp2_with fail
        go_loopg [79] n4 (fun kq v79 w' => ∃ (i : Nat) (v4 : Value), v79 = .int .i64 (i : Int) ∧ i ≤ n4 ∧ kq = n4 - i ∧ Aside0 (Rw1_ w gp gz gq a0 a1 a2 V U Y (.slice A3 n3 c3) (.slice A4 n4 c4) (.slice A5 n5 c5) (.slice A3' nf c3') v4 (.slice none 0 0) w') ∧ Aside0 (Kd.N k52 52 w' w.heap.size (fun k => ((k ≠ gq ∧ k ≠ gz) ∧ w.heap.size ≤ k) ∧ k < lo) (.slice A3' nf c3') (fun15g V l3)) ∧ Aside0 (Kd.N (Kd.int .i64) 3 w' lo (fun k => (k ≠ gq ∧ k ≠ gz) ∧ lo ≤ k) v4 (en15 (nf : Int) (f : Int) (ent15 (nf : Int) l4 f) (l4.take i))) ∧ Aside0 (lo ≤ w'.heap.size))
        case atStart => exact ⟨0, _, rfl, by omega, by omega, hI, hM, hN, hD⟩
        case round =>
          obtain ⟨i, v4, rfl, hi, hki, hI, hM, hN, hD⟩ := hrel
          obtain ⟨F, hF⟩ : ∃ F, F = en15 (nf : Int) (f : Int) (ent15 (nf : Int) l4 f) (l4.take i) := ⟨_, rfl⟩
          rw [← hF] at hN
          obtain ⟨Av, cv, ev⟩ := Kd.N_slice hN.out
          obtain ⟨nv, hnv⟩ : ∃ n, n = F.length := ⟨_, rfl⟩
          rw [← hnv] at ev
          subst ev
          have NV := Aside0.mk hnv
          have HFF := Aside0.mk hF
          have FL := Aside0.mk (show F.length ≤ 9 by
            have h1 := ent15_len (nf : Int) l4 f
            have h2 := BF.out
            rcases en15_cases (nf : Int) (f : Int) (ent15 (nf : Int) l4 f) (l4.take i) with h | h
            · rw [HFF.out, h]; omega
            · rw [HFF.out, h, List.length_append, List.length_singleton]; omega)
          clear hnv hF
          by_cases hli : i < n4
          · have hlib : decide (i < n4) = true := decide_eq_true hli
            have hliz : (i : Int) < (n4 : Int) := by omega
            have hlizb : decide ((i : Int) < (n4 : Int)) = true := decide_eq_true hliz
            have hi0z : (0 : Int) ≤ (i : Int) := by omega
            have hli4 : i < l4.length := by have := N4.out; omega
            have himax : (i : Int) < 9223372036854775807 := by have := X4.out; omega
            obtain ⟨ad, e1, hx0⟩ := ReadsInt.at_ (Kd.reads_of_C (enc := Value.int .i64) (d := (0 : Int)) HR4.out) (i : Int) hi0z (by omega)
            subst e1
            rw [Int.toNat_natCast] at hx0
            obtain ⟨z, hz⟩ : ∃ z, z = rd l4 (i : Int) := ⟨_, rfl⟩
            have HSU := Aside0.mk (by have := en15_succ (nf : Int) (f : Int) (ent15 (nf : Int) l4 f) l4 i hli4; rw [← HFF.out, ← hz] at this; exact this)
            rw [← hz] at hx0
            obtain ⟨tz, htz⟩ : ∃ t, t = z % (nf : Int) := ⟨_, rfl⟩
            have AT := Aside0.mk (show ∀ W, Calls Try.prog 28 #[.int .i64 z, .int .i64 (nf : Int)] W fun e w' => e = .returned (.int .i64 tz) ∧ Drawn0 W w' from fun W => by rw [htz]; exact at15_ z (nf : Int) (by have := BF.out; omega) (by have := BF.out; omega) W)
            have TZ := Aside0.mk htz
            have y0 := pw_cell_below hI.out.2.2.2 hx0
            have AI := Aside0.mk (And.intro hi (And.intro hki (And.intro hli FL.out)))
            obtain ⟨⟨s0, s1, s2, s3, s4, s5⟩, t0, t1, t2, t3, t4, t5⟩ := bq_all_ hI.out.2.2.1
            clear s0 s1 s2 s5 t0 t1 t2 t3 t5 hx0 hz htz
            by_cases hc1 : tz = (f : Int)
            · have hb1 : (tz == (f : Int)) = true := by rw [beq_iff_eq]; exact hc1
              have HC1 := Aside0.mk (show z % (nf : Int) = (f : Int) by rw [← TZ.out]; exact hc1)
              have hcc : decide (tz = (f : Int)) = true := decide_eq_true hc1
              clear hc1
              by_cases hc2 : nv = 0
              · have hb2 : ((nv : Int) == 0) = true := by rw [beq_iff_eq]; omega
                have SS := Aside0.mk (show st15 (nf : Int) (f : Int) F z = F ++ [(f : Int)] by unfold st15; rw [if_pos HC1.out, if_pos (by have := NV.out; omega)])
                clear hc2
                go_wp2_with (first | (go_at_call 28; (with_reducible refine (AT.out _).mono ?_); rintro e w' ⟨rfl, ⟨nd, rfl⟩⟩; have I2 := Aside0.mk (hI.out.below (pw_below_drewN (Below.refl _ _) nd)); have M2 := Aside0.mk (Kd.N_drewN hM.out nd); have N2 := Aside0.mk (Kd.N_drewN hN.out nd); have D2 := Aside0.mk (show lo ≤ (wr.drewN nd).heap.size from hD.out); generalize wr.drewN nd = w2 at I2 M2 N2 D2 ⊢; clear s3 s4 t4 y0; obtain ⟨⟨s0, s1, s2, s3, s4, s5⟩, t0, t1, t2, t3, t4, t5⟩ := bq_all_ I2.out.2.2.1; clear s0 s1 s2 s3 s5 t0 t1 t2 t3 t5) | ((with_reducible refine gate_builtin (b := .append) (xs := #[.tmp 109, .tmp 111]) rfl ?_); at_builtin; refine Kd.N_append (Kd.int .i64) (w0 := w2) lo rfl (.tmp 109) (.tmp 111) 23 3 (.int .i64 0) 8 rfl Try.underlying23 rv15.info3 rfl (by decide) (by omega) (.slice Av nv cv) F (f : Int) [.int .i64 (f : Int)] (fun k => (k ≠ gq ∧ k ≠ gz) ∧ lo ≤ k) (fun k => False) rfl rfl (fun W' _ => rfl) (fun _ h => h.elim) (fun k hk => by have := blk_lt I2.out.2.2.1; have := blk_lt I2.out.2.1; have := D2.out; omega) N2.out (Below.refl _ _) D2.out (by have := AI.out; omega) ?_; intro v9 w9 hN9 hb9 hg9 _; obtain ⟨A9, c9, e9⟩ := Kd.N_slice hN9; rw [List.length_append, List.length_singleton] at e9; subst e9; have I9 := Aside0.mk (I2.out.grown hg9 (below_weaken I2.out.2.2.2 LO.out.2.2.2 hb9) (fun h => Kd.N_ne N2.out h (by decide))); have M9 := Aside0.mk (Kd.N_grown M2.out hg9 (fun k hk e => by have := Kd.N_base N2.out k e.symm; have := hk.2; omega)); have N9 := Aside0.mk hN9; have B9 := Aside0.mk (Nat.le_trans D2.out hb9.size); clear s4 t4 hN9 hb9 hg9; obtain ⟨⟨s0, s1, s2, s3, s4, s5⟩, t0, t1, t2, t3, t4, t5⟩ := bq_all_ I9.out.2.2.1; clear s0 s1 s2 s3 s5 t0 t1 t2 t3 t5))
                go_roundg (n4 - (i + 1))
                case measure => have := AI.out; omega
                case rel => exact ⟨i + 1, _, by go_num, by have := AI.out; omega, rfl, ⟨I9.out.set4 GPQ.out GZQ.out GQ.out⟩, ⟨Kd.N_far (p := ⟨gq, 4, none⟩) M9.out (fun k hk => hk.1.1.1) _⟩, ⟨by rw [HSU.out, SS.out]; exact Kd.N_far (p := ⟨gq, 4, none⟩) N9.out (fun k hk => hk.1.1) _⟩, ⟨by have := B9.out; simpa [World.setCell] using this⟩⟩
              · have hb2 : ((nv : Int) == 0) = false := by rw [beq_eq_false_iff_ne]; omega
                have hz2 : ¬ (nv : Int) = 0 := by omega
                obtain ⟨ae, e2, hxe⟩ := ReadsInt.at_ (Kd.reads_of_C (enc := Value.int .i64) (d := (0 : Int)) (by have := (Kd.N_reads' hN.out).2.2; rw [← NV.out] at this; exact this)) ((nv - 1 : Nat) : Int) (by omega) (by omega)
                subst e2
                rw [Int.toNat_natCast] at hxe
                obtain ⟨ze, hze⟩ : ∃ z, z = rd F ((nv - 1 : Nat) : Int) := ⟨_, rfl⟩
                rw [← hze] at hxe
                have hwp : wrap64 ((nv : Int) - 1) = ((nv - 1 : Nat) : Int) := by have := NV.out; have := FL.out; unfold wrap64; omega
                have hwp2 : IntKind.i64.wrap ((nv : Int) - 1) = ((nv - 1 : Nat) : Int) := by rw [i64_w]; exact hwp
                have hq0 : (0 : Int) ≤ ((nv - 1 : Nat) : Int) := by omega
                have hq1 : ((nv - 1 : Nat) : Int) < (nv : Int) := by omega
                have hq2 : nv - 1 < nv := by omega
                have HZE := Aside0.mk (show rd F ((F.length - 1 : Nat) : Int) = ze by rw [hze, NV.out])
                have hn0 : ¬ F.length = 0 := by have := NV.out; omega
                have HN0 := Aside0.mk hn0
                clear hze hn0
                by_cases hc3 : ze < (f : Int)
                · have hb3 : decide (ze < (f : Int)) = true := decide_eq_true hc3
                  have SS := Aside0.mk (show st15 (nf : Int) (f : Int) F z = F ++ [(f : Int)] by unfold st15; rw [if_pos HC1.out, if_neg HN0.out, HZE.out, if_pos hc3])
                  go_wp2_with (first | (go_at_call 28; (with_reducible refine (AT.out _).mono ?_); rintro e w' ⟨rfl, ⟨nd, rfl⟩⟩; have I2 := Aside0.mk (hI.out.below (pw_below_drewN (Below.refl _ _) nd)); have M2 := Aside0.mk (Kd.N_drewN hM.out nd); have N2 := Aside0.mk (Kd.N_drewN hN.out nd); have D2 := Aside0.mk (show lo ≤ (wr.drewN nd).heap.size from hD.out); have hxe2 : (wr.drewN nd).cell? (ae.add (nv - 1)) = some (.int .i64 ze) := hxe; generalize wr.drewN nd = w2 at I2 M2 N2 D2 hxe2 ⊢; clear s3 s4 t4 y0; obtain ⟨⟨s0, s1, s2, s3, s4, s5⟩, t0, t1, t2, t3, t4, t5⟩ := bq_all_ I2.out.2.2.1; clear s0 s1 s2 s3 s5 t0 t1 t2 t3 t5) | ((with_reducible refine gate_builtin (b := .append) (xs := #[.tmp 109, .tmp 111]) rfl ?_); at_builtin; refine Kd.N_append (Kd.int .i64) (w0 := w2) lo rfl (.tmp 109) (.tmp 111) 23 3 (.int .i64 0) 8 rfl Try.underlying23 rv15.info3 rfl (by decide) (by omega) (.slice (some ae) nv cv) F (f : Int) [.int .i64 (f : Int)] (fun k => (k ≠ gq ∧ k ≠ gz) ∧ lo ≤ k) (fun k => False) rfl rfl (fun W' _ => rfl) (fun _ h => h.elim) (fun k hk => by have := blk_lt I2.out.2.2.1; have := blk_lt I2.out.2.1; have := D2.out; omega) N2.out (Below.refl _ _) D2.out (by have := AI.out; omega) ?_; intro v9 w9 hN9 hb9 hg9 _; obtain ⟨A9, c9, e9⟩ := Kd.N_slice hN9; rw [List.length_append, List.length_singleton] at e9; subst e9; have I9 := Aside0.mk (I2.out.grown hg9 (below_weaken I2.out.2.2.2 LO.out.2.2.2 hb9) (fun h => Kd.N_ne N2.out h (by decide))); have M9 := Aside0.mk (Kd.N_grown M2.out hg9 (fun k hk e => by have := Kd.N_base N2.out k e.symm; have := hk.2; omega)); have N9 := Aside0.mk hN9; have B9 := Aside0.mk (Nat.le_trans D2.out hb9.size); clear s4 t4 hN9 hb9 hg9; obtain ⟨⟨s0, s1, s2, s3, s4, s5⟩, t0, t1, t2, t3, t4, t5⟩ := bq_all_ I9.out.2.2.1; clear s0 s1 s2 s3 s5 t0 t1 t2 t3 t5))
                  go_roundg (n4 - (i + 1))
                  case measure => have := AI.out; omega
                  case rel => exact ⟨i + 1, _, by go_num, by have := AI.out; omega, rfl, ⟨I9.out.set4 GPQ.out GZQ.out GQ.out⟩, ⟨Kd.N_far (p := ⟨gq, 4, none⟩) M9.out (fun k hk => hk.1.1.1) _⟩, ⟨by rw [HSU.out, SS.out]; exact Kd.N_far (p := ⟨gq, 4, none⟩) N9.out (fun k hk => hk.1.1) _⟩, ⟨by have := B9.out; simpa [World.setCell] using this⟩⟩
                · have hb3 : decide (ze < (f : Int)) = false := decide_eq_false hc3
                  have SS := Aside0.mk (show st15 (nf : Int) (f : Int) F z = F by unfold st15; rw [if_pos HC1.out, if_neg HN0.out, HZE.out, if_neg hc3])
                  go_wp2_with (first | (go_at_call 28; (with_reducible refine (AT.out _).mono ?_); rintro e w' ⟨rfl, ⟨nd, rfl⟩⟩; have I2 := Aside0.mk (hI.out.below (pw_below_drewN (Below.refl _ _) nd)); have M2 := Aside0.mk (Kd.N_drewN hM.out nd); have N2 := Aside0.mk (Kd.N_drewN hN.out nd); have D2 := Aside0.mk (show lo ≤ (wr.drewN nd).heap.size from hD.out); have hxe2 : (wr.drewN nd).cell? (ae.add (nv - 1)) = some (.int .i64 ze) := hxe; generalize wr.drewN nd = w2 at I2 M2 N2 D2 hxe2 ⊢; clear s3 s4 t4 y0; obtain ⟨⟨s0, s1, s2, s3, s4, s5⟩, t0, t1, t2, t3, t4, t5⟩ := bq_all_ I2.out.2.2.1; clear s0 s1 s2 s3 s5 t0 t1 t2 t3 t5))
                  go_roundg (n4 - (i + 1))
                  case measure => have := AI.out; omega
                  case rel => exact ⟨i + 1, _, by go_num, by have := AI.out; omega, rfl, I2, M2, ⟨by rw [HSU.out, SS.out]; exact N2.out⟩, D2⟩
            · have hb1 : (tz == (f : Int)) = false := by rw [beq_eq_false_iff_ne]; exact hc1
              have hcc : decide (tz = (f : Int)) = false := decide_eq_false hc1
              have SS := Aside0.mk (show st15 (nf : Int) (f : Int) F z = F by unfold st15; rw [if_neg (by rw [← TZ.out]; exact hc1)])
              clear hc1
              go_wp2_with (first | (go_at_call 28; (with_reducible refine (AT.out _).mono ?_); rintro e w' ⟨rfl, ⟨nd, rfl⟩⟩; have I2 := Aside0.mk (hI.out.below (pw_below_drewN (Below.refl _ _) nd)); have M2 := Aside0.mk (Kd.N_drewN hM.out nd); have N2 := Aside0.mk (Kd.N_drewN hN.out nd); have D2 := Aside0.mk (show lo ≤ (wr.drewN nd).heap.size from hD.out); generalize wr.drewN nd = w2 at I2 M2 N2 D2 ⊢; clear s3 s4 t4 y0; obtain ⟨⟨s0, s1, s2, s3, s4, s5⟩, t0, t1, t2, t3, t4, t5⟩ := bq_all_ I2.out.2.2.1; clear s0 s1 s2 s3 s5 t0 t1 t2 t3 t5))
              go_roundg (n4 - (i + 1))
              case measure => have := AI.out; omega
              case rel => exact ⟨i + 1, _, by go_num, by have := AI.out; omega, rfl, I2, M2, ⟨by rw [HSU.out, SS.out]; exact N2.out⟩, D2⟩
          · have hlib : decide (i < n4) = false := decide_eq_false hli
            have hliz : ¬ (i : Int) < (n4 : Int) := by omega
            have hlizb : decide ((i : Int) < (n4 : Int)) = false := decide_eq_false hliz
            have FU := Aside0.mk (show F = ent15 (nf : Int) l4 (f + 1) by rw [HFF.out, List.take_of_length_le (by have := N4.out; omega)]; rfl)
            go_wp2_with fail
            go_roundg (nf - (f + 1))
            case measure => have := AF.out; omega
            case rel => exact ⟨f + 1, _, by go_num, by have := AF.out; omega, rfl, hI, hM, ⟨by rw [← FU.out]; exact hN.out⟩, hD⟩
      · have hltb : decide (f < nf) = false := decide_eq_false hlt
        have hltz : ¬ (f : Int) < (nf : Int) := by omega
        have hltzb : decide ((f : Int) < (nf : Int)) = false := decide_eq_false hltz
        obtain rfl : f = nf := by omega
        go_wp2_with fail
        go_meet
        case rel => exact ⟨_, hI.out, hM.out, hN.out, hD.out⟩
  go_step
  refine HOPS_.out a0 a1 a2 A3 c3 n3 l3 A4 c4 n4 l4 A5 c5 n5 l5 ops V U Y w _ gp gz gq lo nf c3' A3' HOPS.out HR5.out N5.out X5.out BV.out BU.out BY.out BF.out TV.out TU.out TY.out NF.out GP.out GZ.out GQ.out GPZ.out GPQ.out GZQ.out LO.out hcut _ _ _ _ _ _ _ _ _ _ _ _ _ _ _ _ _ _ _ _ _ _ _ _ _ _ _ _ _ _ _ _ _ _ _ _ _ _ _ _ _ _ _ _ _ _ _ _ _ _ _ _ _ _ _ _ _ _ _ _ _ _ _ _ _ _ _ _ _ _ _ _ _ _ _ _ _ _ _ _ _ _ _ _ _ _ _ _ _ _ _ _ _ _ _ _ _ _ _ _ _ _ _ _ _ _ _ _ _ _ _ _ _ _ _ _ _ _ _ _ _ _ _ _ _ _ _ _ _ _ _ _ _ _ _ _ _ _ _ _ _ _ _ _ _ _ _ _ _ _ _ _ _ _ _ _ _ _ _ _ _ _ _ _ _ _ _ _ _ _ _ _ _ _ _ _ _ _ _ _ _ _ _ _ _ _ _ _ _ _ _ _ _ _ _ _ _ _ _ _ _
end Go.Proofs.Ytgfjjhfkgfnpaaa.PB

/- Right, from the last loop on. No conditions. -/
import Derived.Test.YtgfjjhfkgfnpaaaRightBase
import Derived.Deep.RegionHeld3
import Derived.Deep.DeepCutAuto
namespace Go.Proofs.Ytgfjjhfkgfnpaaa.PB
open Go.RowKit Go.Proofs.YtgfjjhfkgfnpaaaW.PrintWords Go.Proofs.YtgfjjhfkgfnpaaaW.PrintLast Go.Proofs.YtgfjjhfkgfnpaaaW.PrintMore
set_option linter.unusedVariables false
set_option linter.unusedSimpArgs false
attribute [local go_sem] fdrewN_alloc_ fdrewN_setCell_
set_option maxHeartbeats 80000000 in
set_option maxRecDepth 100000 in
theorem right15_ops : OpsSaid := by
  unfold OpsSaid
  intro a0 a1 a2 A3 c3 n3 l3 A4 c4 n4 l4 A5 c5 n5 l5 ops V U Y w wc gp gz gq lo nf c3' A3' hop hr5 hn5 x5 bv bu by_ bf tv tu_ ty_ hnf hgp hgz hgq hpz hpq hzq_ hlo_ hcut u3 u8 u9 u10 u11 u12 u13 u14 u15 u16 u17 u18 u19 u20 u21 u22 u23 u24 u25 u26 u27 u28 u29 u30 u31 u32 u33 u34 u35 u36 u37 u38 u39 u40 u41 u42 u43 u44 u45 u46 u47 u48 u49 u50 u51 u52 u53 u54 u55 u56 u57 u58 u59 u60 u61 u62 u63 u64 u65 u66 u67 u68 u69 u70 u71 u72 u73 u74 u75 u76 u77 u78 u79 u80 u81 u82 u83 u84 u85 u86 u87 u88 u89 u90 u91 u92 u93 u94 u95 u96 u97 u98 u99 u100 u101 u102 u103 u104 u105 u106 u107 u108 u109 u110 u111 u112 u113 u114 u115 u116 u117 u118 u119 u120 u121 u122 u123 u124 u125 u126 u127 u128 u129 u130 u131 u132 u133 u134 u135 u136 u137 u138 u139 u140 u141 u142 u143 u144 u145 u146 u147 u148 u149 u150 u151 u152 u153 u154 u155 u156 u157 u158 u159 u160 u161 u162 u163 u164 u165 u166 u167 u168 u169 u170 u171 u172 u173 u174 u175 u176 u177 u178 u179 u180 u181 u182 u183 u184 u185 u186 u187 u188 u189 u190 u191 u192 u193 u194 u195 u196 u197 u198 u199 u200 u201 u202 u203 u204 u205 u206 u207
  have hu26 := Try.underlying26
  have hu52 := Try.underlying52
  have hu53 := Try.underlying53
  have HOPS := Aside0.mk hop
  have HR5 := Aside0.mk hr5
  have N5 := Aside0.mk hn5
  have X5 := Aside0.mk x5
  have BV := Aside0.mk bv
  have BU := Aside0.mk bu
  have BY := Aside0.mk by_
  have BF := Aside0.mk bf
  have TV := Aside0.mk tv
  have TU := Aside0.mk tu_
  have TY := Aside0.mk ty_
  have NF := Aside0.mk hnf
  have GP := Aside0.mk hgp
  have GZ := Aside0.mk hgz
  have GQ := Aside0.mk hgq
  have GPZ := Aside0.mk hpz
  have GPQ := Aside0.mk hpq
  have GZQ := Aside0.mk hzq_
  have LO := Aside0.mk hlo_
  clear hop hr5 hn5 x5 bv bu by_ bf tv tu_ ty_ hnf hgp hgz hgq hpz hpq hzq_ hlo_
  conv => arg 2; whnf
  obtain ⟨v4, hF1, hN3, hN4, hS⟩ := hcut
  obtain ⟨A4', c4', e4'⟩ := Kd.N_slice hN4
  obtain ⟨EL, hEL⟩ : ∃ E, E = ent15 (nf : Int) l4 nf := ⟨_, rfl⟩
  rw [← hEL] at hN4 e4'
  obtain ⟨ne, hne⟩ : ∃ n, n = EL.length := ⟨_, rfl⟩
  rw [← hne] at e4'
  subst e4'
  have HEL := Aside0.mk hEL
  have NE := Aside0.mk hne
  obtain ⟨lo2, hlo2⟩ : ∃ lo, lo = wc.heap.size := ⟨_, rfl⟩
  have HN4 := Aside0.mk (show Kd.N (Kd.int .i64) 3 wc lo (fun k => ((k ≠ gq ∧ k ≠ gz) ∧ lo ≤ k) ∧ k < lo2) (.slice A4' ne c4') EL from by rw [hlo2]; exact Kd.N_bound hN4)
  have HN3 := Aside0.mk hN3
  have HF1 := Aside0.mk hF1
  have LO2 := Aside0.mk (show gp < lo2 ∧ gz < lo2 ∧ gq < lo2 ∧ w.heap.size ≤ lo2 ∧ lo ≤ lo2 from by rw [hlo2]; exact ⟨blk_lt hF1.1, blk_lt hF1.2.1, blk_lt hF1.2.2.1, hF1.2.2.2.size, hS⟩)
  have HLO := Aside0.mk (show lo2 ≤ wc.heap.size from Nat.le_of_eq hlo2)
  clear hN3 hN4 hF1 hlo2 hne hEL hS
  go_upto_block 6 with fail
  go_cut [] (fun wd => ∃ v5, Rw1_ w gp gz gq a0 a1 a2 V U Y (.slice A3 n3 c3) (.slice A4 n4 c4) (.slice A5 n5 c5) (.slice A3' nf c3') (.slice A4' ne c4') v5 wd ∧ Kd.N k52 52 wd w.heap.size (fun k => ((k ≠ gq ∧ k ≠ gz) ∧ w.heap.size ≤ k) ∧ k < lo) (.slice A3' nf c3') (fun15g V l3) ∧ Kd.N (Kd.int .i64) 3 wd lo (fun k => ((k ≠ gq ∧ k ≠ gz) ∧ lo ≤ k) ∧ k < lo2) (.slice A4' ne c4') EL ∧ Kd.N k53 53 wd lo2 (fun k => (k ≠ gq ∧ k ≠ gz) ∧ lo2 ≤ k) v5 (ops15 V U Y (nf : Int) (l5.take ops.toNat)))
  case first =>
    go_wp2_with fail
    go_loopg [12] n5 (fun kq v12 w' => ∃ (i : Nat) (v5 : Value), v12 = .int .i64 (i : Int) ∧ i ≤ n5 ∧ i ≤ ops.toNat ∧ kq = n5 - i ∧ Aside0 (Rw1_ w gp gz gq a0 a1 a2 V U Y (.slice A3 n3 c3) (.slice A4 n4 c4) (.slice A5 n5 c5) (.slice A3' nf c3') (.slice A4' ne c4') v5 w') ∧ Aside0 (Kd.N k52 52 w' w.heap.size (fun k => ((k ≠ gq ∧ k ≠ gz) ∧ w.heap.size ≤ k) ∧ k < lo) (.slice A3' nf c3') (fun15g V l3)) ∧ Aside0 (Kd.N (Kd.int .i64) 3 w' lo (fun k => ((k ≠ gq ∧ k ≠ gz) ∧ lo ≤ k) ∧ k < lo2) (.slice A4' ne c4') EL) ∧ Aside0 (Kd.N k53 53 w' lo2 (fun k => (k ≠ gq ∧ k ≠ gz) ∧ lo2 ≤ k) v5 (ops15 V U Y (nf : Int) (l5.take i))) ∧ Aside0 (lo2 ≤ w'.heap.size))
    case atStart => exact ⟨0, _, rfl, by omega, by omega, by omega, HF1, HN3, HN4, ⟨Kd.N_nil _ _ _ _ _⟩, HLO⟩
    case round =>
      obtain ⟨i, v5, rfl, hi, h40, hk, hI, hM, hE, hN, hD⟩ := hrel
      obtain ⟨F, hF⟩ : ∃ F, F = ops15 V U Y (nf : Int) (l5.take i) := ⟨_, rfl⟩
      rw [← hF] at hN
      obtain ⟨Av, cv, ev⟩ := Kd.N_slice hN.out
      obtain ⟨nv, hnv⟩ : ∃ n, n = F.length := ⟨_, rfl⟩
      rw [← hnv] at ev
      subst ev
      have NV := Aside0.mk hnv
      have HFF := Aside0.mk hF
      obtain ⟨⟨q0, q1, q2, q3, q4, q5⟩, z0, z1, z2, z3, z4, z5⟩ := bq_all_ hI.out.1
      clear q0 q1 q2 q3 q4 z0 z1 z2 z3 z4 z5 hnv hF HF1 HN3 HN4 HLO
      by_cases hlt : i < n5
      · have hltb : decide (i < n5) = true := decide_eq_true hlt
        have himax : (i : Int) < 9223372036854775807 := by have := X5.out; omega
        have hltz : (i : Int) < (n5 : Int) := by omega
        have hltzb : decide ((i : Int) < (n5 : Int)) = true := decide_eq_true hltz
        have h0z : (0 : Int) ≤ (i : Int) := by omega
        by_cases hten : (i : Int) < ops
        · have htenb : decide ((i : Int) < ops) = true := decide_eq_true hten
          have hlt5 : i < l5.length := by have := N5.out; omega
          obtain ⟨ad, A1, c1, e1, hx0, hx1, hx2, hx3, hx4, hx5, hx6, hl1, hC1⟩ := at_T53 HR5.out (i : Int) h0z (by omega)
          subst e1
          rw [Int.toNat_natCast] at hx0 hx1 hx2 hx3 hx4 hx5 hx6
          obtain ⟨z, hz⟩ : ∃ z, z = rd_T53 l5 (i : Int) := ⟨_, rfl⟩
          have HSU : Aside0 (ops15 V U Y (nf : Int) (l5.take (i + 1)) = F ++ [op15 V U Y (nf : Int) (rd_T53 l5 (i : Int))]) := ⟨(ops15_succ V U Y (nf : Int) l5 i hlt5).trans (congrArg (fun q => q ++ [op15 V U Y (nf : Int) (rd_T53 l5 (i : Int))]) HFF.out.symm)⟩
          rw [← hz] at hx0 hx1 hx2 hx3 hx4 hx5 hx6 hl1 hC1 HSU
          obtain ⟨o0, o1, o2, o3, o4, y, o6⟩ := z
          simp only at hx0 hx1 hx2 hx3 hx4 hx5 hx6 hl1 hC1
          obtain ⟨ny, hny⟩ : ∃ n, n = y.length := ⟨_, rfl⟩
          obtain ⟨my, hmy⟩ : ∃ n, n = (vars15 V y).length := ⟨_, rfl⟩
          rw [← hny] at hx5
          have CY := Aside0.mk (show ∀ W, Below w.heap.size w W → W.cell? ⟨gq, 0, none⟩ = some (.int .i64 V) → Calls Try.prog 29 #[.slice A1 ny c1, .pointer (some ⟨gq, 0, none⟩)] W fun e w' => ∃ A c, e = .returned (.slice A my c) ∧ my ≤ c ∧ Kd.F (Kd.int .i64) w' (fun k => W.heap.size ≤ k) A my (vars15 V y) ∧ Below W.heap.size W w' from fun W hW hc => by
            rw [hny, hmy]
            refine (vars15_ A1 c1 y V gq W BV.out.1 (by have := BV.out.2; omega) (Kd.C_below hC1 hW) hl1 hc).mono ?_
            rintro e w' ⟨v, rfl, hn, hb⟩
            obtain ⟨A, c, rfl⟩ := Kd.N_slice hn
            exact ⟨A, c, rfl, (Kd.N_reads' hn).2.1, Kd.N_F hn, hb⟩)
          have MY := Aside0.mk hmy
          obtain ⟨m0, hm0⟩ : ∃ m, m = Go.bits .and .i64 o0 65535 := ⟨_, rfl⟩
          obtain ⟨m6, hm6⟩ : ∃ m, m = IntKind.i64.wrap (m0 + 6) := ⟨_, rfl⟩
          obtain ⟨k7, hk7⟩ : ∃ k, k = m6 % 7 := ⟨_, rfl⟩
          obtain ⟨kk, hkk⟩ : ∃ k, k = 1 + k7 := ⟨_, rfl⟩
          have hb7 : 0 ≤ k7 ∧ k7 < 7 := by rw [hk7]; omega
          have KK := Aside0.mk (show kk = kind15 o0 by rw [hkk, hk7, hm6, hm0]; rfl)
          have KB := Aside0.mk (show 1 ≤ kk ∧ kk ≤ 7 by omega)
          have wk : IntKind.i64.wrap (1 + k7) = kk := by rw [i64_w, hkk]; unfold wrap64; omega
          obtain ⟨oi, hoi⟩ : ∃ x, x = o1 % (nf : Int) := ⟨_, rfl⟩
          obtain ⟨oa, hoa⟩ : ∃ x, x = o2 % V := ⟨_, rfl⟩
          obtain ⟨ob, hob⟩ : ∃ x, x = o3 % V := ⟨_, rfl⟩
          obtain ⟨ra, hra⟩ : ∃ x, x = ans15 V o2 := ⟨_, rfl⟩
          have OI := Aside0.mk hoi
          have OA := Aside0.mk hoa
          have OB := Aside0.mk hob
          have RA := Aside0.mk hra
          have A0 := Aside0.mk (show ∀ W, Calls Try.prog 28 #[.int .i64 m6, .int .i64 7] W fun e w' => e = .returned (.int .i64 k7) ∧ Drawn0 W w' from fun W => by rw [hk7]; exact at15_ m6 7 (by decide) (by decide) W)
          have A1_ := Aside0.mk (show ∀ W, Calls Try.prog 28 #[.int .i64 o1, .int .i64 (nf : Int)] W fun e w' => e = .returned (.int .i64 oi) ∧ Drawn0 W w' from fun W => by rw [hoi]; exact at15_ o1 (nf : Int) (by have := BF.out; omega) (by have := BF.out; omega) W)
          have A2_ := Aside0.mk (show ∀ W, Calls Try.prog 28 #[.int .i64 o2, .int .i64 V] W fun e w' => e = .returned (.int .i64 oa) ∧ Drawn0 W w' from fun W => by rw [hoa]; exact at15_ o2 V BV.out.1 (by have := BV.out; omega) W)
          have A3_ := Aside0.mk (show ∀ W, Calls Try.prog 28 #[.int .i64 o3, .int .i64 V] W fun e w' => e = .returned (.int .i64 ob) ∧ Drawn0 W w' from fun W => by rw [hob]; exact at15_ o3 V BV.out.1 (by have := BV.out; omega) W)
          have CA := Aside0.mk (show ∀ W, W.cell? ⟨gq, 0, none⟩ = some (.int .i64 V) → Calls Try.prog 30 #[.int .i64 o2, .pointer (some ⟨gq, 0, none⟩)] W fun e w' => e = .returned (.int .i64 ra) ∧ Drawn0 W w' from fun W hW => by rw [hra]; exact ans15_ o2 V gq W BV.out.1 (by have := BV.out.2; omega) hW)
          have hm0' := hm0.symm
          have hm6' := hm6.symm
          have y0 := pw_cell_below hI.out.2.2.2 hx0
          have y1 := pw_cell_below hI.out.2.2.2 hx1
          have y2 := pw_cell_below hI.out.2.2.2 hx2
          have y3 := pw_cell_below hI.out.2.2.2 hx3
          have y4 := pw_cell_below hI.out.2.2.2 hx4
          have y5 := pw_cell_below hI.out.2.2.2 hx5
          have y6 := pw_cell_below hI.out.2.2.2 hx6
          have hFL : F.length ≤ 1000 := by rw [HFF.out]; unfold ops15; rw [List.length_map, List.length_take]; have := HOPS.out; omega
          have AS := Aside0.mk (And.intro hi (And.intro hlt (And.intro hten (And.intro hk hFL))))
          clear hx0 hx1 hx2 hx3 hx4 hx5 hx6 hl1 hC1 hz hny hmy hm0 hm6 hk7 hkk hb7 hoi hoa hob hra hFL
          go_upto_region 24 with fail
          obtain ⟨w7, hw7⟩ : ∃ w7, w7 = wr.alloc (.cells #[.int .i64 o0, .int .i64 o1, .int .i64 o2, .int .i64 o3, .int .i64 o4, .slice A1 ny c1, .float .f64 o6] 53) := ⟨_, rfl⟩
          obtain ⟨go, hgo⟩ : ∃ g, g = wr.heap.size := ⟨_, rfl⟩
          rw [← hw7, ← hgo]
          have B7 := Aside0.mk (show Below wr.heap.size wr w7 by rw [hw7]; exact below_alloc (Below.refl _ _) _)
          have H7 := Aside0.mk (show w7.heap[go]? = some (bx_ o0 o1 o2 o3 o4 (.slice A1 ny c1) o6) from few_new_ hw7 hgo)
          have GO := Aside0.mk (show wr.heap.size ≤ go from Nat.le_of_eq hgo.symm)
          have I7 := Aside0.mk (hI.out.below B7.out)
          obtain ⟨⟨s0, s1, s2, s3, s4, s5⟩, t0, t1, t2, t3, t4, t5⟩ := bq_all_ I7.out.2.2.1
          obtain ⟨⟨e0, e1, e2, e3, e4, e5, e6⟩, f2, f3, f4, f5, f6⟩ := bx_all_ H7.out
          have hgl : go < w7.heap.size := blk_lt H7.out
          have hql : gq < w7.heap.size := blk_lt I7.out.2.2.1
          clear y0 y1 y2 y3 y4 y5 y6 q5 hw7 hgo s1 s2 s4 s5 t0 t1 t2 t3 t4 t5 e4 e5 e6 f2 f3 f4 f5 f6
          go_cut [14] (fun v14 wc => ∃ gx, v14 = .pointer (some ⟨gx, 0, none⟩) ∧ w7.heap.size ≤ gx ∧ wc.heap[gx]? = some (bx_ kk oi oa ob 0 (.slice none 0 0) 0) ∧ Below w7.heap.size w7 wc)
          case first =>
            rename_i J_ K_ hJ_ hK_
            go_region_held3 (fun w' => (w'.cell? ⟨go, 0, none⟩ = some (.int .i64 o0) ∧ w'.cell? ⟨go, 1, none⟩ = some (.int .i64 o1)) ∧ (w'.cell? ⟨go, 2, none⟩ = some (.int .i64 o2) ∧ w'.cell? ⟨go, 3, none⟩ = some (.int .i64 o3)) ∧ w'.cell? ⟨gq, 0, none⟩ = some (.int .i64 V) ∧ w'.cell? ⟨gq, 3, none⟩ = some (.slice A3' nf c3')) (refine ⟨⟨?_, ?_⟩, ⟨?_, ?_⟩, ?_, ?_⟩ <;> (repeat' first | with_reducible assumption | with_reducible apply fcellA_ | with_reducible apply fcellD_ | with_reducible apply fcellN_ | (with_reducible refine fcellS_ ?_ ?_ _) | exact Nat.ne_of_lt hgl | exact Nat.ne_of_lt hql)) (first | (go_at_call_of 28 m6; (with_reducible refine (A0.out _).mono ?_); rintro e w' ⟨rfl, ⟨nd, rfl⟩⟩) | (go_at_call_of 28 o1; (with_reducible refine (A1_.out _).mono ?_); rintro e w' ⟨rfl, ⟨nd, rfl⟩⟩) | (go_at_call_of 28 o2; (with_reducible refine (A2_.out _).mono ?_); rintro e w' ⟨rfl, ⟨nd, rfl⟩⟩) | (go_at_call_of 28 o3; (with_reducible refine (A3_.out _).mono ?_); rintro e w' ⟨rfl, ⟨nd, rfl⟩⟩))
            all_goals (refine hK_ _ _ (Met.intro (hJ_ _ _ ?_)); (repeat apply Exists.intro); refine ⟨?rel, rfl⟩; (case rel => exact ⟨w7.heap.size, rfl, Nat.le_refl _, blk_drewN (blk_new _ _) _, pw_below_drewN (below_alloc (Below.refl _ _) _) _⟩))
          obtain ⟨gx, rfl, hgx, hX, hB⟩ := hcut
          have BX := Aside0.mk (show Below wr.heap.size wr wc from below_step B7.out hB)
          have GX := Aside0.mk (show wr.heap.size ≤ gx from Nat.le_trans B7.out.size hgx)
          have GOX := Aside0.mk (show go ≠ gx from by omega)
          have GQX := Aside0.mk (show gq ≠ gx from by omega)
          have HO := Aside0.mk (show wc.heap[go]? = some (bx_ o0 o1 o2 o3 o4 (.slice A1 ny c1) o6) from (hB.block _ hgl).trans H7.out)
          have HX := Aside0.mk hX
          have I8 := Aside0.mk (I7.out.below hB)
          clear hgl hql hgx hX hB s0 s3 e0 e1 e2 e3 I7 H7 B7 wk hm0' hm6' A0 A1_ A2_ A3_
          obtain ⟨⟨s0, s1, s2, s3, s4, s5⟩, t0, t1, t2, t3, t4, t5⟩ := bq_all_ I8.out.2.2.1
          obtain ⟨⟨e0, e1, e2, e3, e4, e5, e6⟩, f2, f3, f4, f5, f6⟩ := bx_all_ HO.out
          obtain ⟨⟨x0, x1, x2, x3, x4, x5, x6⟩, g2, g3, g4, g5, g6⟩ := bx_all_ HX.out
          clear s0 s4 s5 t0 t1 t2 t3 t4 t5 e0 e1 e2 e5 e6 f2 f3 f4 f5 f6 x1 x2 x5 x6 g2 g5 g6
          go_step
          go_step
          go_cut [] (fun wd => ∃ b c, (b = b15 V U (nf : Int) kk o3 ∧ c = c15 Y kk o4) ∧ wd.heap[gx]? = some (bx_ kk oi oa b c (.slice none 0 0) 0) ∧ wd.heap[go]? = some (bx_ o0 o1 o2 o3 o4 (.slice A1 ny c1) o6) ∧ Below wr.heap.size wr wd)
          case first =>
            obtain ⟨tu, htu⟩ : ∃ x, x = o3 % U := ⟨_, rfl⟩
            obtain ⟨tn, htn⟩ : ∃ x, x = o3 % (nf : Int) := ⟨_, rfl⟩
            obtain ⟨ty, hty⟩ : ∃ x, x = o4 % Y := ⟨_, rfl⟩
            have AU := Aside0.mk (show ∀ W, Calls Try.prog 28 #[.int .i64 o3, .int .i64 U] W fun e w' => e = .returned (.int .i64 tu) ∧ Drawn0 W w' from fun W => by rw [htu]; exact at15_ o3 U BU.out.1 (by have := BU.out; omega) W)
            have AN := Aside0.mk (show ∀ W, Calls Try.prog 28 #[.int .i64 o3, .int .i64 (nf : Int)] W fun e w' => e = .returned (.int .i64 tn) ∧ Drawn0 W w' from fun W => by rw [htn]; exact at15_ o3 (nf : Int) (by have := BF.out; omega) (by have := BF.out; omega) W)
            have AY := Aside0.mk (show ∀ W, Calls Try.prog 28 #[.int .i64 o4, .int .i64 Y] W fun e w' => e = .returned (.int .i64 ty) ∧ Drawn0 W w' from fun W => by rw [hty]; exact at15_ o4 Y BY.out.1 (by have := BY.out; omega) W)
            have TU_ := Aside0.mk htu
            have TN_ := Aside0.mk htn
            have TY_ := Aside0.mk hty
            clear htu htn hty
            by_cases hc1 : kk = 1
            · have HK := Aside0.mk hc1
              have d1 : (kk == 1) = true := by rw [beq_iff_eq]; exact hc1
              clear hc1
              go_wp2_with (go_at_call 28; (with_reducible refine (AU.out _).mono ?_); rintro e w' ⟨rfl, ⟨nd, rfl⟩⟩)
              go_meet
              case rel => exact ⟨tu, 0, ⟨by unfold b15; rw [if_pos HK.out, TU_.out], by unfold c15; rw [if_neg (by have := HK.out; omega)]⟩, blk_drewN (bx_set3_ HX.out _) _, blk_drewN ((Below.heap_setCell _ ⟨gx, _, none⟩ _ go GOX.out).trans HO.out) _, pw_below_drewN (BX.out.setCell (p := ⟨gx, _, none⟩) GX.out _) _⟩
            by_cases hc3 : kk = 3
            · have HK := Aside0.mk hc3
              have d1 : (kk == 1) = false := by rw [beq_eq_false_iff_ne]; omega
              have d3 : (kk == 3) = true := by rw [beq_iff_eq]; exact hc3
              clear hc3
              go_wp2_with (go_at_call 28; (with_reducible refine (AY.out _).mono ?_); rintro e w' ⟨rfl, ⟨nd, rfl⟩⟩)
              go_meet
              case rel => exact ⟨ob, ty, ⟨by unfold b15; rw [if_neg (by have := HK.out; omega), if_neg (by have := HK.out; omega), OB.out], by unfold c15; rw [if_pos (by have := HK.out; omega), TY_.out]⟩, blk_drewN (bx_set4_ HX.out _) _, blk_drewN ((Below.heap_setCell _ ⟨gx, _, none⟩ _ go GOX.out).trans HO.out) _, pw_below_drewN (BX.out.setCell (p := ⟨gx, _, none⟩) GX.out _) _⟩
            by_cases hc4 : kk = 4
            · have HK := Aside0.mk hc4
              have d1 : (kk == 1) = false := by rw [beq_eq_false_iff_ne]; omega
              have d3 : (kk == 3) = false := by rw [beq_eq_false_iff_ne]; omega
              have d4 : (kk == 4) = true := by rw [beq_iff_eq]; exact hc4
              clear hc4
              go_wp2_with (go_at_call 28; (with_reducible refine (AY.out _).mono ?_); rintro e w' ⟨rfl, ⟨nd, rfl⟩⟩)
              go_meet
              case rel => exact ⟨ob, ty, ⟨by unfold b15; rw [if_neg (by have := HK.out; omega), if_neg (by have := HK.out; omega), OB.out], by unfold c15; rw [if_pos (by have := HK.out; omega), TY_.out]⟩, blk_drewN (bx_set4_ HX.out _) _, blk_drewN ((Below.heap_setCell _ ⟨gx, _, none⟩ _ go GOX.out).trans HO.out) _, pw_below_drewN (BX.out.setCell (p := ⟨gx, _, none⟩) GX.out _) _⟩
            by_cases hc5 : kk = 5
            · have HK := Aside0.mk hc5
              have d1 : (kk == 1) = false := by rw [beq_eq_false_iff_ne]; omega
              have d3 : (kk == 3) = false := by rw [beq_eq_false_iff_ne]; omega
              have d4 : (kk == 4) = false := by rw [beq_eq_false_iff_ne]; omega
              have d5 : (kk == 5) = true := by rw [beq_iff_eq]; exact hc5
              clear hc5
              go_wp2_with (go_at_call 28; (with_reducible refine (AN.out _).mono ?_); rintro e w' ⟨rfl, ⟨nd, rfl⟩⟩)
              go_meet
              case rel => exact ⟨tn, 0, ⟨by unfold b15; rw [if_neg (by have := HK.out; omega), if_pos (by have := HK.out; omega), TN_.out], by unfold c15; rw [if_neg (by have := HK.out; omega)]⟩, blk_drewN (bx_set3_ HX.out _) _, blk_drewN ((Below.heap_setCell _ ⟨gx, _, none⟩ _ go GOX.out).trans HO.out) _, pw_below_drewN (BX.out.setCell (p := ⟨gx, _, none⟩) GX.out _) _⟩
            by_cases hc6 : kk = 6
            · have HK := Aside0.mk hc6
              have d1 : (kk == 1) = false := by rw [beq_eq_false_iff_ne]; omega
              have d3 : (kk == 3) = false := by rw [beq_eq_false_iff_ne]; omega
              have d4 : (kk == 4) = false := by rw [beq_eq_false_iff_ne]; omega
              have d5 : (kk == 5) = false := by rw [beq_eq_false_iff_ne]; omega
              have d6 : (kk == 6) = true := by rw [beq_iff_eq]; exact hc6
              clear hc6
              go_wp2_with (go_at_call 28; (with_reducible refine (AN.out _).mono ?_); rintro e w' ⟨rfl, ⟨nd, rfl⟩⟩)
              go_meet
              case rel => exact ⟨tn, 0, ⟨by unfold b15; rw [if_neg (by have := HK.out; omega), if_pos (by have := HK.out; omega), TN_.out], by unfold c15; rw [if_neg (by have := HK.out; omega)]⟩, blk_drewN (bx_set3_ HX.out _) _, blk_drewN ((Below.heap_setCell _ ⟨gx, _, none⟩ _ go GOX.out).trans HO.out) _, pw_below_drewN (BX.out.setCell (p := ⟨gx, _, none⟩) GX.out _) _⟩
            have HK := Aside0.mk (show kk = 2 ∨ kk = 7 from by have := KB.out; omega)
            have d1 : (kk == 1) = false := by rw [beq_eq_false_iff_ne]; omega
            have d3 : (kk == 3) = false := by rw [beq_eq_false_iff_ne]; omega
            have d4 : (kk == 4) = false := by rw [beq_eq_false_iff_ne]; omega
            have d5 : (kk == 5) = false := by rw [beq_eq_false_iff_ne]; omega
            have d6 : (kk == 6) = false := by rw [beq_eq_false_iff_ne]; omega
            clear hc1 hc3 hc4 hc5 hc6
            go_wp2_with fail
            go_meet
            case rel => exact ⟨ob, 0, ⟨by unfold b15; rw [if_neg (by have := HK.out; omega), if_neg (by have := HK.out; omega), OB.out], by unfold c15; rw [if_neg (by have := HK.out; omega)]⟩, HX.out, HO.out, BX.out⟩
          obtain ⟨b, c, hbc, hX, hO, hB⟩ := hcut
          have HBC := Aside0.mk hbc
          clear HX HO BX I8 s1 s2 s3 e3 e4 x0 x3 x4 g3 g4 hbc
          have HX := Aside0.mk hX
          have HO := Aside0.mk hO
          have BX := Aside0.mk hB
          have I8 := Aside0.mk (hI.out.below hB)
          obtain ⟨⟨s0, s1, s2, s3, s4, s5⟩, t0, t1, t2, t3, t4, t5⟩ := bq_all_ I8.out.2.2.1
          obtain ⟨⟨e0, e1, e2, e3, e4, e5, e6⟩, f2, f3, f4, f5, f6⟩ := bx_all_ hO
          obtain ⟨⟨x0, x1, x2, x3, x4, x5, x6⟩, g2, g3, g4, g5, g6⟩ := bx_all_ hX
          clear s1 s2 s3 s4 s5 t0 t1 t2 t3 t4 t5 e0 e1 e3 e4 f2 f3 f4 f5 f6 x1 x2 x3 x4 x5 x6 g2 g3 g4 g5 g6 hX hO hB
          go_step
          go_step
          go_cut [] (fun wd => ∃ (A : Option Addr) (m cp h2 : Nat) (b2 : Int) (l2 : List Int), op15 V U Y (nf : Int) ⟨o0, o1, o2, o3, o4, y, o6⟩ = ⟨kk, oi, b2, b, c, l2, h2⟩ ∧ wd.heap[gx]? = some (bx_ kk oi b2 b c (.slice A m cp) h2) ∧ (m = l2.length ∧ m ≤ cp) ∧ Kd.F (Kd.int .i64) wd (fun k => gx < k) A m l2 ∧ Below wr.heap.size wr wd)
          case first =>
            by_cases hk5 : kk > 5
            · have d5 : decide (kk > 5) = true := decide_eq_true hk5
              have d6 : decide (5 < kk) = true := decide_eq_true hk5
              have HOP := Aside0.mk (show op15 V U Y (nf : Int) ⟨o0, o1, o2, o3, o4, y, o6⟩ = ⟨kk, oi, ra, b, c, vars15 V y, o6⟩ by unfold op15; simp only; rw [← KK.out, if_pos hk5, OI.out, RA.out, HBC.out.1, HBC.out.2])
              go_upto_region 35 with fail
              have DB : Below wr.heap.size wr wc.drew := below_drew BX.out
              have XB : wc.drew.heap[gx]? = some (bx_ kk oi oa b c (.slice none 0 0) 0) := HX.out
              refine start_ (n := 16) (S := fun w' => w'.cell? ⟨go, 2, none⟩ = some (.int .i64 o2) ∧ w'.cell? ⟨go, 5, none⟩ = some (.slice A1 ny c1) ∧ w'.cell? ⟨go, 6, none⟩ = some (.float .f64 o6) ∧ w'.cell? ⟨gq, 0, none⟩ = some (.int .i64 V)) (ds := []) #[false, false, false, false, false, false, false, false, false, false, false, false, false, false, false, false] (by kernel_rfl) rfl rfl ⟨e2, e5, e6, s0⟩ (fun hHeld => ?_)
              refine with_tabW rt15.tab35 rt15.bits35 (fun HT_ HW_ => ?_)
              generalize wc.drew = wD at DB XB hHeld ⊢
              refine pure_ (i := 0) (N := some 188) (v := ?_) (a' := ?_) #[true, false, false, false, false, false, false, false, false, false, false, false, false, false, false, false] rfl rfl (any_of HT_.out (by kernel_rfl)) (fun _ _ _ h => h) (Or.inl ⟨by rfl, ?_⟩) ?_ ?_
              rotate_left
              · intro w'
                go_simp
                with_reducible rfl
              rotate_left
              · simp only [Act.put, List.setIfInBounds_toArray, List.set_cons_zero, List.set_cons_succ, i64_w, i32_w]
                rfl
              refine pure_ (i := 1) (N := some 189) (v := ?_) (a' := ?_) #[true, true, false, false, false, false, false, false, false, false, false, false, false, false, false, false] rfl rfl (any_of HT_.out (by kernel_rfl)) (fun _ _ _ h => h) (Or.inl ⟨by rfl, ?_⟩) ?_ ?_
              rotate_left
              · intro w'
                go_simp
                with_reducible rfl
              rotate_left
              · simp only [Act.put, List.setIfInBounds_toArray, List.set_cons_zero, List.set_cons_succ, i64_w, i32_w]
                rfl
              refine pure_ (i := 4) (N := some 192) (v := ?_) (a' := ?_) #[true, true, false, false, true, false, false, false, false, false, false, false, false, false, false, false] rfl rfl (any_of HT_.out (by kernel_rfl)) (fun _ _ _ h => h) (Or.inl ⟨by rfl, ?_⟩) ?_ ?_
              rotate_left
              · intro w'
                go_simp
                with_reducible rfl
              rotate_left
              · simp only [Act.put, List.setIfInBounds_toArray, List.set_cons_zero, List.set_cons_succ, i64_w, i32_w]
                rfl
              refine pure_ (i := 5) (N := some 193) (v := ?_) (a' := ?_) #[true, true, false, false, true, true, false, false, false, false, false, false, false, false, false, false] rfl rfl (any_of HT_.out (by kernel_rfl)) (fun _ _ _ h => h) (Or.inl ⟨by rfl, ?_⟩) ?_ ?_
              rotate_left
              · intro w'
                go_simp
                with_reducible rfl
              rotate_left
              · simp only [Act.put, List.setIfInBounds_toArray, List.set_cons_zero, List.set_cons_succ, i64_w, i32_w]
                rfl
              refine pure_ (i := 8) (N := some 196) (v := ?_) (a' := ?_) #[true, true, false, false, true, true, false, false, true, false, false, false, false, false, false, false] rfl rfl (any_of HT_.out (by kernel_rfl)) (fun _ _ _ h => h) (Or.inl ⟨by rfl, ?_⟩) ?_ ?_
              rotate_left
              · intro w'
                go_simp
                with_reducible rfl
              rotate_left
              · simp only [Act.put, List.setIfInBounds_toArray, List.set_cons_zero, List.set_cons_succ, i64_w, i32_w]
                rfl
              refine take_ (i := 2) (N := some 190) (v := ?_) (a' := ?_) #[true, true, true, false, true, true, false, false, true, false, false, false, false, false, false, false] rfl rfl (take_ofW HT_.out HW_.out (by kernel_rfl)) (fun _ _ _ h => h) (Or.inl ⟨by rfl, ?_⟩) hHeld ?_ ?_
              rotate_left
              · rintro w' ⟨s0, s1, s2, s3⟩
                go_simp
                with_reducible rfl
              rotate_left
              · simp only [Act.put, List.setIfInBounds_toArray, List.set_cons_zero, List.set_cons_succ, i64_w, i32_w]
                rfl
              refine take_ (i := 6) (N := some 194) (v := ?_) (a' := ?_) #[true, true, true, false, true, true, true, false, true, false, false, false, false, false, false, false] rfl rfl (take_ofW HT_.out HW_.out (by kernel_rfl)) (fun _ _ _ h => h) (Or.inl ⟨by rfl, ?_⟩) hHeld ?_ ?_
              rotate_left
              · rintro w' ⟨s0, s1, s2, s3⟩
                go_simp
                with_reducible rfl
              rotate_left
              · simp only [Act.put, List.setIfInBounds_toArray, List.set_cons_zero, List.set_cons_succ, i64_w, i32_w]
                rfl
              refine take_ (i := 9) (N := some 197) (v := ?_) (a' := ?_) #[true, true, true, false, true, true, true, false, true, true, false, false, false, false, false, false] rfl rfl (take_ofW HT_.out HW_.out (by kernel_rfl)) (fun _ _ _ h => h) (Or.inl ⟨by rfl, ?_⟩) hHeld ?_ ?_
              rotate_left
              · rintro w' ⟨s0, s1, s2, s3⟩
                go_simp
                with_reducible rfl
              rotate_left
              · simp only [Act.put, List.setIfInBounds_toArray, List.set_cons_zero, List.set_cons_succ, i64_w, i32_w]
                rfl
              refine one_ (i := 3) (N := some 191) #[true, true, true, true, true, true, true, false, true, true, false, false, false, false, false, false] rfl rfl (one_of HT_.out (by kernel_rfl)) (by decide) (fun K hK => ?_)
              refine call_ 30 #[.int .i64 o2, .pointer (some ⟨gq, 0, none⟩)] (by rfl) rfl (by go_simp) ?_
              refine (CA.out _ hHeld.2.2.2).mono ?_
              rintro e w' ⟨rfl, ⟨nd, rfl⟩⟩
              refine ⟨_, rfl, ?_⟩
              refine hK.out _ _ hHeld (fun hHeld => ?_)
              clear hK K
              refine norm_ (a' := ?_) ?_ ?_
              rotate_left
              · show Act.put _ (some 191) _ = _
                simp only [Act.put, List.setIfInBounds_toArray, List.set_cons_zero, List.set_cons_succ, i64_w, i32_w]
                rfl
              have DD := pw_below_drewN DB nd
              have XD := blk_drewN XB nd
              clear DB XB
              generalize wD.drewN nd = wE at DD XD hHeld ⊢
              refine pure_ (i := 10) (N := some 198) (v := ?_) (a' := ?_) #[true, true, true, true, true, true, true, false, true, true, true, false, false, false, false, false] rfl rfl (any_of HT_.out (by kernel_rfl)) (fun _ _ _ h => h) (Or.inl ⟨by rfl, ?_⟩) ?_ ?_
              rotate_left
              · intro w'
                go_simp
                with_reducible rfl
              rotate_left
              · simp only [Act.put, List.setIfInBounds_toArray, List.set_cons_zero, List.set_cons_succ, i64_w, i32_w]
                rfl
              refine one_ (i := 7) (N := some 195) #[true, true, true, true, true, true, true, true, true, true, true, false, false, false, false, false] rfl rfl (one_of HT_.out (by kernel_rfl)) (by decide) (fun K hK => ?_)
              refine call_ 29 #[.slice A1 ny c1, .pointer (some ⟨gq, 0, none⟩)] (by rfl) rfl (by go_simp) ?_
              refine (CY.out _ (below_step hI.out.2.2.2 DD) hHeld.2.2.2).mono ?_
              rintro e wG ⟨Ap, cp, rfl, hcp, hFp, hbp⟩
              refine ⟨_, rfl, ?_⟩
              have DG := below_step DD hbp
              have XG := (hbp.block _ (blk_lt XD)).trans XD
              have FP := Aside0.mk (Kd.F_mono hFp (fun k hk => Nat.lt_of_lt_of_le (blk_lt XD) hk))
              have CP := Aside0.mk hcp
              refine hK.out _ _ ⟨pw_cell_below hbp hHeld.1, pw_cell_below hbp hHeld.2.1, pw_cell_below hbp hHeld.2.2.1, pw_cell_below hbp hHeld.2.2.2⟩ (fun hHeld => ?_)
              clear hK K
              refine norm_ (a' := ?_) ?_ ?_
              rotate_left
              · show Act.put _ (some 195) _ = _
                simp only [Act.put, List.setIfInBounds_toArray, List.set_cons_zero, List.set_cons_succ, i64_w, i32_w]
                rfl
              clear DD XD hFp hcp hbp
              have D0 := Aside0.mk DG
              have X0 := Aside0.mk XG
              clear DG XG
              refine one_ (i := 11) (N := none) #[true, true, true, true, true, true, true, true, true, true, true, true, false, false, false, false] rfl rfl (one_of HT_.out (by kernel_rfl)) (by decide) (fun K hK => ?_)
              have f9 := (bx_all_ X0.out).1.2.2.1
              have g9 := (bx_all_ X0.out).2.1
              refine skip_ (w1 := ?_) (by rfl) rfl ?_ ?_
              rotate_left
              · go_simp
                rfl
              refine hK.out _ _ ⟨fcellS_ hHeld.1 GOX.out _, fcellS_ hHeld.2.1 GOX.out _, fcellS_ hHeld.2.2.1 GOX.out _, fcellS_ hHeld.2.2.2 GQX.out _⟩ (fun hHeld => ?_)
              clear hK K
              have X1 := Aside0.mk (bx_set2_ X0.out ra)
              have D1 := Aside0.mk (D0.out.setCell (p := ⟨gx, 2, none⟩) GX.out (.int .i64 ra))
              have FP := Aside0.mk (f_far_ FP.out (fun k hk => Nat.ne_of_gt hk) 2 (.int .i64 ra))
              clear f9 g9
              refine pure_ (i := 12) (N := some 199) (v := ?_) (a' := ?_) #[true, true, true, true, true, true, true, true, true, true, true, true, true, false, false, false] rfl rfl (any_of HT_.out (by kernel_rfl)) (fun _ _ _ h => h) (Or.inl ⟨by rfl, ?_⟩) ?_ ?_
              rotate_left
              · intro w'
                go_simp
                with_reducible rfl
              rotate_left
              · simp only [Act.put, List.setIfInBounds_toArray, List.set_cons_zero, List.set_cons_succ, i64_w, i32_w]
                rfl
              refine one_ (i := 13) (N := none) #[true, true, true, true, true, true, true, true, true, true, true, true, true, true, false, false] rfl rfl (one_of HT_.out (by kernel_rfl)) (by decide) (fun K hK => ?_)
              have f9 := (bx_all_ X1.out).1.2.2.2.2.2.1
              have g9 := (bx_all_ X1.out).2.2.2.2.1
              refine skip_ (w1 := ?_) (by rfl) rfl ?_ ?_
              rotate_left
              · go_simp
                rfl
              refine hK.out _ _ ⟨fcellS_ hHeld.1 GOX.out _, fcellS_ hHeld.2.1 GOX.out _, fcellS_ hHeld.2.2.1 GOX.out _, fcellS_ hHeld.2.2.2 GQX.out _⟩ (fun hHeld => ?_)
              clear hK K
              have X2 := Aside0.mk (bx_set5_ X1.out (.slice Ap my cp))
              have D2 := Aside0.mk (D1.out.setCell (p := ⟨gx, 5, none⟩) GX.out (.slice Ap my cp))
              have FP := Aside0.mk (f_far_ FP.out (fun k hk => Nat.ne_of_gt hk) 5 (.slice Ap my cp))
              clear f9 g9
              refine pure_ (i := 14) (N := some 200) (v := ?_) (a' := ?_) #[true, true, true, true, true, true, true, true, true, true, true, true, true, true, true, false] rfl rfl (any_of HT_.out (by kernel_rfl)) (fun _ _ _ h => h) (Or.inl ⟨by rfl, ?_⟩) ?_ ?_
              rotate_left
              · intro w'
                go_simp
                with_reducible rfl
              rotate_left
              · simp only [Act.put, List.setIfInBounds_toArray, List.set_cons_zero, List.set_cons_succ, i64_w, i32_w]
                rfl
              refine one_ (i := 15) (N := none) #[true, true, true, true, true, true, true, true, true, true, true, true, true, true, true, true] rfl rfl (one_of HT_.out (by kernel_rfl)) (by decide) (fun K hK => ?_)
              have f9 := (bx_all_ X2.out).1.2.2.2.2.2.2
              have g9 := (bx_all_ X2.out).2.2.2.2.2
              refine skip_ (w1 := ?_) (by rfl) rfl ?_ ?_
              rotate_left
              · go_simp
                rfl
              refine hK.out _ _ ⟨fcellS_ hHeld.1 GOX.out _, fcellS_ hHeld.2.1 GOX.out _, fcellS_ hHeld.2.2.1 GOX.out _, fcellS_ hHeld.2.2.2 GQX.out _⟩ (fun hHeld => ?_)
              clear hK K
              have X3 := Aside0.mk (bx_set6_ X2.out o6)
              have D3 := Aside0.mk (D2.out.setCell (p := ⟨gx, 6, none⟩) GX.out (.float .f64 o6))
              have FP := Aside0.mk (f_far_ FP.out (fun k hk => Nat.ne_of_gt hk) 6 (.float .f64 o6))
              clear f9 g9
              refine done_ (done_of HT_.out (by kernel_rfl)) ?_
              go_wp2_with fail
              go_meet
              case rel => exact ⟨_, _, _, _, _, _, HOP.out, X3.out, ⟨MY.out, CP.out⟩, FP.out, D3.out⟩
            · have d5 : decide (kk > 5) = false := decide_eq_false hk5
              have d6 : decide (5 < kk) = false := decide_eq_false hk5
              have d7 : ¬ 5 < kk := hk5
              have HOP := Aside0.mk (show op15 V U Y (nf : Int) ⟨o0, o1, o2, o3, o4, y, o6⟩ = ⟨kk, oi, oa, b, c, [], 0⟩ by unfold op15; simp only; rw [← KK.out, if_neg hk5, OI.out, OA.out, HBC.out.1, HBC.out.2])
              go_wp2_with fail
              go_meet
              case rel => exact ⟨none, 0, 0, _, _, _, HOP.out, HX.out, ⟨rfl, Nat.le_refl _⟩, Kd.N_F (Kd.N_nil (Kd.int .i64) 3 wc 0 (fun k => gx < k)), BX.out⟩
          obtain ⟨Ap, mp, cp, h2, b2, l2, hop, hX, hm, hF, hB⟩ := hcut
          have HOP := Aside0.mk hop
          have HMP := Aside0.mk hm
          have FP := Aside0.mk hF
          clear HX HO BX I8 s0 e2 e5 e6 x0 hop hm
          have HX := Aside0.mk hX
          have BX := Aside0.mk hB
          have I8 := Aside0.mk (hI.out.below hB)
          have M8 := Aside0.mk (Kd.N_below hM.out hB)
          have E8 := Aside0.mk (Kd.N_below hE.out hB)
          have N8 := Aside0.mk (Kd.N_below hN.out hB)
          have X8 := Aside0.mk (show gq < wc.heap.size ∧ gz < wc.heap.size ∧ lo2 ≤ wc.heap.size from ⟨blk_lt I8.out.2.2.1, blk_lt I8.out.2.1, Nat.le_trans hD.out hB.size⟩)
          have FO : Aside0 (∀ k, gx < k → ((k ≠ gq ∧ k ≠ gz) ∧ lo2 ≤ k) ∧ some k ≠ (Value.slice Av nv cv).ownBlock) := ⟨fun k hk => ⟨by have h1 := blk_lt hI.out.2.2.1; have h3 := blk_lt hI.out.2.1; have h4 := GX.out; have h5 := hD.out; omega, fun e => by have := Kd.N_lt hN.out k e.symm; have := GX.out; omega⟩⟩
          obtain ⟨⟨s0, s1, s2, s3, s4, s5⟩, t0, t1, t2, t3, t4, t5⟩ := bq_all_ I8.out.2.2.1
          obtain ⟨⟨x0, x1, x2, x3, x4, x5, x6⟩, g2, g3, g4, g5, g6⟩ := bx_all_ hX
          have FL := Aside0.mk (show F.length ≤ 1000 by have := AS.out; omega)
          clear s0 s1 s2 s3 s4 t0 t1 t2 t3 t4 t5 g2 g3 g4 g5 g6 hX hF hB
          go_wp2_with ((with_reducible refine gate_builtin (b := .append) (xs := #[.tmp 202, .tmp 204]) rfl ?_); at_builtin; refine Kd.N_append k53 (w0 := wc) lo2 rfl (.tmp 202) (.tmp 204) 24 53 (.agg #[.int .i64 0, .int .i64 0, .int .i64 0, .int .i64 0, .int .i64 0, .slice none 0 0, .float .f64 0]) 72 rfl Try.underlying24 few15.info53 rfl (by decide) (by omega) (.slice Av nv cv) F ⟨kk, oi, b2, b, c, l2, h2⟩ [.int .i64 kk, .int .i64 oi, .int .i64 b2, .int .i64 b, .int .i64 c, .slice Ap mp cp, .float .f64 h2] (fun k => (k ≠ gq ∧ k ≠ gz) ∧ lo2 ≤ k) (fun k => gx < k) rfl rfl (fk53_ HMP.out.1 HMP.out.2 FP.out) FO.out (fun k hk => by have := X8.out; omega) N8.out (Below.refl _ _) X8.out.2.2 (by have := FL.out; omega) ?_; intro v9 w9 hN9 hb9 hg9 _; obtain ⟨A9, c9, e9⟩ := Kd.N_slice hN9; rw [List.length_append, List.length_singleton] at e9; subst e9; have I9 := Aside0.mk (I8.out.grown hg9 (below_weaken I8.out.2.2.2 LO2.out.2.2.2.1 hb9) (fun h => Kd.N_ne N8.out h (by decide))); have M9 := Aside0.mk (Kd.N_grown M8.out hg9 (fun k hk e => by have := Kd.N_base N8.out k e.symm; have := hk.2; have := LO2.out; omega)); have E9 := Aside0.mk (Kd.N_grown E8.out hg9 (fun k hk e => by have := Kd.N_base N8.out k e.symm; have := hk.2; omega)); have N9 := Aside0.mk hN9; have B9 := Aside0.mk (Nat.le_trans X8.out.2.2 hb9.size); clear s5 x0 x1 x2 x3 x4 x5 x6 hN9 hb9 hg9; obtain ⟨⟨s0, s1, s2, s3, s4, s5⟩, t0, t1, t2, t3, t4, t5⟩ := bq_all_ I9.out.2.2.1; clear s0 s1 s2 s3 s4 t0 t1 t2 t3 t4)
          go_roundg (n5 - (i + 1))
          case measure => have := AS.out; omega
          case rel => exact ⟨i + 1, _, by go_num, by have := AS.out; omega, by have := AS.out; omega, rfl, ⟨I9.out.set5 GPQ.out GZQ.out GQ.out⟩, ⟨Kd.N_far (p := ⟨gq, 5, none⟩) M9.out (fun k hk => hk.1.1.1) _⟩, ⟨Kd.N_far (p := ⟨gq, 5, none⟩) E9.out (fun k hk => hk.1.1.1) _⟩, ⟨by rw [HSU.out, HOP.out]; exact Kd.N_far (p := ⟨gq, 5, none⟩) N9.out (fun k hk => hk.1.1) _⟩, ⟨by have := B9.out; simpa [World.setCell] using this⟩⟩
        · have htenb : decide ((i : Int) < ops) = false := decide_eq_false hten
          have FU := Aside0.mk (show l5.take i = l5.take ops.toNat by rw [show i = ops.toNat by omega])
          go_wp2_with fail
          go_meet
          case rel => exact ⟨_, hI.out, hM.out, hE.out, by rw [← FU.out, ← HFF.out]; exact hN.out⟩
      · have hltb : decide (i < n5) = false := decide_eq_false hlt
        have hltz : ¬ (i : Int) < (n5 : Int) := by omega
        have hltzb : decide ((i : Int) < (n5 : Int)) = false := decide_eq_false hltz
        have FU := Aside0.mk (show l5.take i = l5.take ops.toNat by rw [List.take_of_length_le (by have := N5.out; omega), List.take_of_length_le (by have := N5.out; omega)])
        go_wp2_with fail
        go_meet
        case rel => exact ⟨_, hI.out, hM.out, hE.out, by rw [← FU.out, ← HFF.out]; exact hN.out⟩
  obtain ⟨v5, hF1, hN3, hN4, hN5⟩ := hcut
  obtain ⟨OL, hOL⟩ : ∃ O, O = ops15 V U Y (nf : Int) (l5.take ops.toNat) := ⟨_, rfl⟩
  rw [← hOL] at hN5
  obtain ⟨A5', c5', e5'⟩ := Kd.N_slice hN5
  obtain ⟨no, hno⟩ : ∃ n, n = OL.length := ⟨_, rfl⟩
  rw [← hno] at e5'
  subst e5'
  have HOL := Aside0.mk hOL
  have NO := Aside0.mk hno
  have HF0 := Aside0.mk hF1.2.2.2
  have HN3 := Aside0.mk hN3
  have HN4 := Aside0.mk hN4
  have HN5 := Aside0.mk hN5
  have hqz := GZQ.out
  have hzq := hqz.symm
  obtain ⟨⟨q0, q1, q2, q3, q4, q5⟩, z0, z1, z2, z3, z4, z5⟩ := bq_all_ hF1.2.2.1
  obtain ⟨⟨s0, s1, s2, s3, s4, s5⟩, f0, f1, f2, f3, f4, f5⟩ := bq_all_ hF1.2.1
  have BZ := Aside0.mk (show wc.heap[gz]? = some (.cells #[.int .i64 0, .int .i64 0, .int .i64 0, .slice none 0 0, .slice none 0 0, .slice none 0 0] 26 (0, 0)) from hF1.2.1)
  clear hF1 hN3 hN4 hN5 hOL hno z0 z1 z2 z3 z4 z5
  go_wp2_with fail
  refine bodyPost_ret (results_cell_row rfl _ _ gz 26 #[.int .i64 V, .int .i64 U, .int .i64 Y, .slice A3' nf c3', .slice A4' ne c4', .slice A5' no c5'] (0, 0) _ rfl (by refine blk_put (cs := #[.int .i64 V, .int .i64 U, .int .i64 Y, .slice A3' nf c3', .slice A4' ne c4', .slice none 0 0]) ?_ 5 _ rfl; refine blk_put (cs := #[.int .i64 V, .int .i64 U, .int .i64 Y, .slice A3' nf c3', .slice none 0 0, .slice none 0 0]) ?_ 4 _ rfl; refine blk_put (cs := #[.int .i64 V, .int .i64 U, .int .i64 Y, .slice none 0 0, .slice none 0 0, .slice none 0 0]) ?_ 3 _ rfl; refine blk_put (cs := #[.int .i64 V, .int .i64 U, .int .i64 0, .slice none 0 0, .slice none 0 0, .slice none 0 0]) ?_ 2 _ rfl; refine blk_put (cs := #[.int .i64 V, .int .i64 0, .int .i64 0, .slice none 0 0, .slice none 0 0, .slice none 0 0]) ?_ 1 _ rfl; refine blk_put (cs := #[.int .i64 0, .int .i64 0, .int .i64 0, .slice none 0 0, .slice none 0 0, .slice none 0 0]) ?_ 0 _ rfl; exact BZ.out) Try.underlying26 rfl (by kernel_rfl)) rfl ?_
  have M3 := Kd.N_reads' HN3.out
  have M4 := Kd.N_reads' HN4.out
  have M5 := Kd.N_reads' HN5.out
  have F3 := six15_ (Kd.N_F HN3.out) (fun k hk => hk.1.1.2) (.int .i64 V) (.int .i64 U) (.int .i64 Y) (.slice A3' nf c3') (.slice A4' ne c4') (.slice A5' no c5')
  have F4 := six15_ (Kd.N_F HN4.out) (fun k hk => hk.1.1.2) (.int .i64 V) (.int .i64 U) (.int .i64 Y) (.slice A3' nf c3') (.slice A4' ne c4') (.slice A5' no c5')
  have F5 := six15_ (Kd.N_F HN5.out) (fun k hk => hk.1.2) (.int .i64 V) (.int .i64 U) (.int .i64 Y) (.slice A3' nf c3') (.slice A4' ne c4') (.slice A5' no c5')
  have BB := ((((((HF0.out.setCell (p := ⟨gz, 0, none⟩) GZ.out (.int .i64 V)).setCell (p := ⟨gz, 1, none⟩) GZ.out (.int .i64 U)).setCell (p := ⟨gz, 2, none⟩) GZ.out (.int .i64 Y)).setCell (p := ⟨gz, 3, none⟩) GZ.out (.slice A3' nf c3')).setCell (p := ⟨gz, 4, none⟩) GZ.out (.slice A4' ne c4')).setCell (p := ⟨gz, 5, none⟩) GZ.out (.slice A5' no c5'))
  refine ⟨V, U, Y, nf, EL, OL, _, _, _, _, _, _, _, _, rfl, ⟨TV.out, TU.out, TY.out, NF.out, HEL.out, HOL.out⟩, ⟨Kd.F_mono F3 (fun k hk => hk.1.2), M3.2.1⟩, ⟨M4.1, Kd.F_mono F4 (fun k hk => Nat.le_trans LO.out.2.2.2 hk.1.2), M4.2.1⟩, ⟨M5.1, Kd.F_mono F5 (fun k hk => Nat.le_trans LO2.out.2.2.2.1 hk.2), M5.2.1⟩, BB⟩
end Go.Proofs.Ytgfjjhfkgfnpaaa.PB

-- Written by this session's own program wip/bin/dprint.py, over the kit's print.py, with own texts for some functions: no print of print.sh's
import Derived.Test.YtefiadhmcdfdoaaPCx0
import Derived.Test.YtefiadhmcdfdoaaPCx1
import Derived.Test.YtefiadhmcdfdoaaPCx2
import Derived.Test.YtefiadhmcdfdoaaPCx5
import Derived.Test.YtefiadhmcdfdoaaPCx8
import Derived.Test.YtefiadhmcdfdoaaPCx9
namespace Go.Proofs.Ytefiadhmcdfdoaa.PC
open Go.RowKit Go.Proofs.YtefiadhmcdfdoaaW.PrintWords Go.Proofs.YtefiadhmcdfdoaaW.PrintLast Go.Proofs.YtefiadhmcdfdoaaW.PrintMore
attribute [local go_sem] max2_int min2_int max_two min_two max_three min_three max_four min_four   -- for this text's walks alone
set_option linter.unusedVariables false
set_option linter.unusedSimpArgs false

attribute [local go_sem high] eqA76

/-! ### dowserref13_FromPairs: function 22 (own text) -/
section
mutual
def dowserref13_FromPairs.l0 : Nat → ByteArray → Nat → Int → List S76 → Option (List S76 × Int)
  | 0, _, _, _, _ => none
  | k + 1, s, i, n, out => if (i : Int) < n then dowserref13_FromPairs.h0 k s i n out 0 0 0 else (if s.toList = ([] : List UInt8) then (dowserref13_Rise.f k out).bind fun t => (if t = true then some (out, 0) else some ([], 1)) else some ([], 3))
def dowserref13_FromPairs.h0 : Nat → ByteArray → Nat → Int → List S76 → Nat → Int → Int → Option (List S76 × Int)
  | 0, _, _, _, _, _, _, _ => none
  | k + 1, s, i, n, out, h, a, b => if h < 2 then (dowserref01_Head.f k s).bind fun t => (if t.2.2 = 0 then (if t.1 > 2147483647 then some ([], 4) else (if 0 ≤ t.2.1 then (if t.2.1 ≤ (s.size : Int) then dowserref13_FromPairs.h0 k (s.extract t.2.1.toNat s.size) i n out (h + 1) (if h = 0 then wrap64 t.1 else a) (if h = 0 then b else wrap64 t.1) else none) else none)) else some ([], t.2.2)) else (if out.length < 8796093022208 then dowserref13_FromPairs.l0 k s (i + 1) n (out ++ [(⟨a, b⟩ : S76)]) else none)
end
def dowserref13_FromPairs.f (k : Nat) (a0 : ByteArray) : Option (List S76 × Int) := (dowserref01_Head.f k a0).bind fun t => (if t.2.2 = 0 then (if t.1 > 2147483647 then some ([], 4) else (if 0 ≤ t.2.1 then (if t.2.1 ≤ (a0.size : Int) then dowserref13_FromPairs.l0 k (a0.extract t.2.1.toNat a0.size) 0 t.1 [] else none) else none)) else some ([], t.2.2))
theorem dowserref13_FromPairs.mono_l : ∀ k, (∀ s i n out, LeO (dowserref13_FromPairs.l0 k s i n out) (dowserref13_FromPairs.l0 (k + 1) s i n out)) ∧ (∀ s i n out h a b, LeO (dowserref13_FromPairs.h0 k s i n out h a b) (dowserref13_FromPairs.h0 (k + 1) s i n out h a b))
  | 0 => ⟨fun _ _ _ _ r h => by simp [dowserref13_FromPairs.l0] at h, fun _ _ _ _ _ _ _ r h => by simp [dowserref13_FromPairs.h0] at h⟩
  | k + 1 => by
    obtain ⟨ih0, ih1⟩ := dowserref13_FromPairs.mono_l k
    refine ⟨fun s i n out => ?_, fun s i n out h a b => ?_⟩
    · rw [dowserref13_FromPairs.l0, dowserref13_FromPairs.l0]
      exact LeO.ite (ih1 _ _ _ _ _ _ _) (LeO.ite (LeO.bind (dowserref13_Rise.mono _ _) (fun _ => LeO.refl _)) (LeO.refl _))
    · rw [dowserref13_FromPairs.h0, dowserref13_FromPairs.h0]
      exact LeO.ite (LeO.bind (dowserref01_Head.mono _ _) (fun t => LeO.ite (LeO.ite (LeO.refl _) (LeO.ite (LeO.ite (ih1 _ _ _ _ _ _ _) (LeO.refl _)) (LeO.refl _))) (LeO.refl _))) (LeO.ite (ih0 _ _ _ _) (LeO.refl _))
theorem dowserref13_FromPairs.mono : ∀ a0 k, LeO (dowserref13_FromPairs.f k a0) (dowserref13_FromPairs.f (k + 1) a0) := by
  intro a0 k
  unfold dowserref13_FromPairs.f
  exact LeO.bind (dowserref01_Head.mono _ _) (fun t => LeO.ite (LeO.ite (LeO.refl _) (LeO.ite (LeO.ite ((dowserref13_FromPairs.mono_l k).1 _ _ _ _) (LeO.refl _)) (LeO.refl _))) (LeO.refl _))
theorem dowserref13_FromPairs.empty_ (w : World) : Kd.R k76 76 (w.alloc (.cells #[] 76)) w.heap.size (fun _ => True) (.slice (some ⟨w.heap.size, 0, none⟩) 0 0) [] :=
  ⟨fun _ _ => trivial, OwnRow.lit w w.heap.size (inner := []) ⟨rfl, fun j p h => by simp at h⟩ (Nat.le_refl _) (by simp)⟩
set_option maxHeartbeats 8000000 in
set_option maxRecDepth 100000 in
theorem dowserref13_FromPairs.calls (k : Nat) (a0 : ByteArray) (r1 : List S76) (r2 : Int) (w : World) (h : dowserref13_FromPairs.f k a0 = some (r1, r2)) :
    Calls Try.prog 22 #[.string a0] w fun e w' => ∃ v0_ : Value, e = .returned (.tuple #[v0_, .int .i64 r2]) ∧ Kd.R k76 76 w' w.heap.size (fun _ => True) v0_ r1 ∧ Below w.heap.size w w' := by
  unfold dowserref13_FromPairs.f at h
  obtain ⟨⟨n, m, e⟩, h1, h⟩ := Option.bind_eq_some_iff.mp h
  have H1 := Aside0.mk h1
  dsimp only at h
  by_cases e0 : e = 0
  · rw [if_pos e0] at h
    subst e0
    by_cases e1 : n > 2147483647
    · rw [if_pos e1] at h
      injection Option.some.inj h with q1 q2
      subst q1 q2
      have e1b : decide (2147483647 < n) = true := decide_eq_true e1
      clear h h1
      go_enter Try.func22, Try.ntmps22
      go_wp2_with (go_at_call 44; (with_reducible refine (dowserref01_Head.calls k a0 _ _ _ _ H1.out).mono ?_); rintro e w' ⟨rfl, ⟨m1, rfl⟩⟩)
      go_ret2
      exact ⟨_, rfl, Kd.R_nil _ _ _ _ _, by repeat (first | exact Below.refl _ _ | apply pw_below_drewN)⟩
    · rw [if_neg e1] at h
      have e1b : decide (2147483647 < n) = false := decide_eq_false e1
      by_cases m0 : 0 ≤ m
      · rw [if_pos m0] at h
        by_cases m1 : m ≤ (a0.size : Int)
        · rw [if_pos m1] at h
          have H := Aside0.mk h
          have hn : n ≤ 2147483647 := by omega
          have HN := Aside0.mk hn
          have HE := Aside0.mk (dowserref13_FromPairs.empty_ w)
          clear h h1 hn e1
          go_enter Try.func22, Try.ntmps22
          go_wp2_with (go_at_call 44; (with_reducible refine (dowserref01_Head.calls k a0 _ _ _ _ H1.out).mono ?_); rintro e w' ⟨rfl, ⟨m1, rfl⟩⟩)
          go_loopg [0, 7, 8] k (fun kq v0 v7 v8 w' => ∃ (s : ByteArray) (i : Nat) (out : List S76), v0 = .string s ∧ v8 = .int .u64 (i : Int) ∧ Aside0 (dowserref13_FromPairs.l0 kq s i n out = some (r1, r2)) ∧ Aside0 (kq ≤ k) ∧ Aside0 (Kd.R k76 76 w' w.heap.size (fun _ => True) v7 out) ∧ Aside0 (Below w.heap.size w w'))
          case atStart => exact ⟨_, 0, [], rfl, rfl, H, ⟨Nat.le_refl _⟩, ⟨by first | exact HE.out | exact Kd.R_drewN HE.out _⟩, ⟨by repeat (first | exact Below.refl _ _ | apply below_alloc | apply pw_below_drewN)⟩⟩
          case round =>
            obtain ⟨s, i, out, rfl, rfl, hl, hk, hR, hB⟩ := hrel
            clear HE H H1 m0 m1
            cases gk with
            | zero => exact absurd hl.out (by simp [dowserref13_FromPairs.l0])
            | succ k1 =>
              have H := hl.out
              clear hl
              rw [dowserref13_FromPairs.l0] at H
              by_cases hi : (i : Int) < n
              · rw [if_pos hi] at H
                have hib : decide ((i : Int) < n) = true := decide_eq_true hi
                have HH := Aside0.mk H
                clear H
                go_wp2_with fail
                have hbk : (wr.alloc (.cells #[.int .i64 0, .int .i64 0] 76)).heap[wr.heap.size]? = some (.cells #[.int .i64 0, .int .i64 0] 76 (0, 0)) := blk_new _ _
                have hr5 : Kd.R k76 76 (wr.alloc (.cells #[.int .i64 0, .int .i64 0] 76)) w.heap.size (fun k => k ≠ wr.heap.size ∧ True) u7 out := Kd.R_alloc (Kd.R_mono (Kd.R_bound hR.out) (fun k hk => ⟨by have := hk.2.2.1; omega, trivial⟩)) _
                have hb5 : Below w.heap.size w (wr.alloc (.cells #[.int .i64 0, .int .i64 0] 76)) := below_alloc hB.out _
                have HGP := Aside0.mk hB.out.size
                obtain ⟨gp, hgp⟩ : ∃ g, g = wr.heap.size := ⟨_, rfl⟩
                obtain ⟨W5, hW5⟩ : ∃ W, W = wr.alloc (.cells #[.int .i64 0, .int .i64 0] 76) := ⟨_, rfl⟩
                rw [← hgp, ← hW5] at hbk hr5
                rw [← hW5] at hb5
                rw [← hgp] at HGP
                rw [← hgp, ← hW5]
                have HBK := Aside0.mk hbk
                have HR5 := Aside0.mk hr5
                have HB5 := Aside0.mk hb5
                have HI := Aside0.mk hi
                clear hgp hW5 hbk hr5 hb5 hR hB hib hi
                go_loopg [0, 10] k1 (fun kq v0 v10 w' => ∃ (s : ByteArray) (h : Nat) (a b : Int), v0 = .string s ∧ v10 = .int .i64 (h : Int) ∧ h ≤ 2 ∧ Aside0 (dowserref13_FromPairs.h0 kq s i n out h a b = some (r1, r2)) ∧ Aside0 (kq ≤ k1) ∧ Aside0 (w'.heap[gp]? = some (.cells #[.int .i64 a, .int .i64 b] 76 (0, 0))) ∧ Aside0 (Kd.R k76 76 w' w.heap.size (fun k => k ≠ gp ∧ True) u7 out) ∧ Aside0 (Below w.heap.size w w'))
                case atStart => exact ⟨s, 0, 0, 0, rfl, rfl, by omega, HH, ⟨Nat.le_refl _⟩, HBK, HR5, HB5⟩
                case round =>
                  clear HH HBK HR5 HB5
                  obtain ⟨s, h, a, b, rfl, rfl, hh2, hl, hk2, hBK, hR5, hB5⟩ := hrel
                  cases gk with
                  | zero => exact absurd hl.out (by simp [dowserref13_FromPairs.h0])
                  | succ k2 =>
                    have H := hl.out
                    clear hl
                    rw [dowserref13_FromPairs.h0] at H
                    by_cases hlt : h < 2
                    · rw [if_pos hlt] at H
                      obtain ⟨⟨x, m, e⟩, g1, H⟩ := Option.bind_eq_some_iff.mp H
                      have HD := Aside0.mk g1
                      dsimp only at H
                      clear g1
                      have hltz : (h : Int) < 2 := by omega
                      by_cases e0 : e = 0
                      · rw [if_pos e0] at H
                        subst e0
                        by_cases e1 : x > 2147483647
                        · rw [if_pos e1] at H
                          injection Option.some.inj H with q1 q2
                          subst q1 q2
                          have e1b : decide (2147483647 < x) = true := decide_eq_true e1
                          clear H
                          go_wp2_with (go_at_call 44; (with_reducible refine (dowserref01_Head.calls k2 s _ _ _ _ HD.out).mono ?_); rintro e w6 ⟨rfl, ⟨m6, rfl⟩⟩)
                          go_ret2
                          exact ⟨_, rfl, Kd.R_nil _ _ _ _ _, by repeat (first | exact hB5.out | apply pw_below_drewN)⟩
                        · rw [if_neg e1] at H
                          have e1b : decide (2147483647 < x) = false := decide_eq_false e1
                          by_cases m0 : 0 ≤ m
                          · rw [if_pos m0] at H
                            by_cases m1 : m ≤ (s.size : Int)
                            · rw [if_pos m1] at H
                              have HQ := Aside0.mk H
                              clear H e1
                              rcases (show h = 0 ∨ h = 1 by omega) with rfl | rfl
                              · clear hlt hltz hh2
                                have p0 := blk_cell hBK.out 0
                                have p1 := blk_cell hBK.out 1
                                have f0 := blk_frozen hBK.out 0
                                go_wp2_with (go_at_call 44; (with_reducible refine (dowserref01_Head.calls k2 s _ _ _ _ HD.out).mono ?_); rintro e w6 ⟨rfl, ⟨m6, rfl⟩⟩)
                                go_roundg k2
                                case measure => have := hk2.out; omega
                                case rel => exact ⟨s.extract m.toNat s.size, 1, wrap64 x, b, by first | rfl | go_num, by first | rfl | go_num, by omega, HQ, ⟨by have := hk2.out; omega⟩, ⟨by first | exact blk_put hBK.out 0 _ rfl | exact blk_put (blk_drewN hBK.out _) 0 _ rfl⟩, ⟨by first | exact Kd.R_far hR5.out (fun k hk => hk.1) _ | exact Kd.R_far (Kd.R_drewN hR5.out _) (fun k hk => hk.1) _⟩, ⟨by first | exact below_set hB5.out (by exact HGP.out) | exact below_set (pw_below_drewN hB5.out _) (by exact HGP.out)⟩⟩
                              · clear hlt hltz hh2
                                have p0 := blk_cell hBK.out 0
                                have p1 := blk_cell hBK.out 1
                                have f0 := blk_frozen hBK.out 1
                                go_wp2_with (go_at_call 44; (with_reducible refine (dowserref01_Head.calls k2 s _ _ _ _ HD.out).mono ?_); rintro e w6 ⟨rfl, ⟨m6, rfl⟩⟩)
                                go_roundg k2
                                case measure => have := hk2.out; omega
                                case rel => exact ⟨s.extract m.toNat s.size, 2, a, wrap64 x, by first | rfl | go_num, by first | rfl | go_num, by omega, HQ, ⟨by have := hk2.out; omega⟩, ⟨by first | exact blk_put hBK.out 1 _ rfl | exact blk_put (blk_drewN hBK.out _) 1 _ rfl⟩, ⟨by first | exact Kd.R_far hR5.out (fun k hk => hk.1) _ | exact Kd.R_far (Kd.R_drewN hR5.out _) (fun k hk => hk.1) _⟩, ⟨by first | exact below_set hB5.out (by exact HGP.out) | exact below_set (pw_below_drewN hB5.out _) (by exact HGP.out)⟩⟩
                            · rw [if_neg m1] at H; cases H
                          · rw [if_neg m0] at H; cases H
                      · rw [if_neg e0] at H
                        injection Option.some.inj H with q1 q2
                        subst q1 q2
                        have e0b : (e == 0) = false := beq_eq_false_iff_ne.mpr e0
                        have e0n : (e != 0) = true := bne_iff_ne.mpr e0
                        clear H
                        go_wp2_with (go_at_call 44; (with_reducible refine (dowserref01_Head.calls k2 s _ _ _ _ HD.out).mono ?_); rintro e w6 ⟨rfl, ⟨m6, rfl⟩⟩)
                        go_ret2
                        exact ⟨_, rfl, Kd.R_nil _ _ _ _ _, by repeat (first | exact hB5.out | apply pw_below_drewN)⟩
                    · rw [if_neg hlt] at H
                      obtain rfl : h = 2 := by omega
                      by_cases c : out.length < 8796093022208
                      · rw [if_pos c] at H
                        have HQ := Aside0.mk H
                        have LMc := Aside0.mk c
                        have p0 := blk_cell hBK.out 0
                        have p1 := blk_cell hBK.out 1
                        have hu76 := Try.underlying76
                        have himax : (i : Int) < 9223372036854775807 := by have := HI.out; have := HN.out; omega
                        clear H c hlt hh2
                        go_wp2_with ((with_reducible refine gate_builtin (b := .append) (xs := #[.tmp 65, .tmp 67]) rfl ?_); at_builtin; refine Kd.R_append k76 (w0 := w) w.heap.size rfl (.tmp 65) (.tmp 67) 45 76 (.agg #[(.int .i64 0), (.int .i64 0)]) 16 rfl Try.underlying45 info76 rfl (by decide) (by omega) u7 out (⟨a, b⟩ : S76) [.int .i64 a, .int .i64 b] (fun _ => True) (fun _ => False) rfl rfl ?aP (fun _ hk => hk.elim) ?aF ?aO ?aB ?aS ?aL ?_; (case aP => exact k76_mkM _ _ _ (⟨a, b⟩ : S76)); (case aB => exact (by repeat (first | (with_reducible first | exact hB5.out | apply below_alloc | apply pw_below_drewN | apply below_drew1) | exact hB5.out))); (case aF => exact (fun _ _ => trivial)); (case aO => exact (by (with_reducible repeat (first | apply Kd.R_alloc | apply Kd.R_drewN | apply Kd.R_drew)); exact Kd.R_mono hR5.out (fun _ _ => trivial))); (case aS => exact (below_size (by repeat (first | (with_reducible first | exact hB5.out | apply below_alloc | apply pw_below_drewN | apply below_drew1) | exact hB5.out)))); (case aL => have := LMc.out; omega); intro v210 w16 ho hb hg hat; have HO2 := Aside0.mk ho; have HB2 := Aside0.mk hb; clear ho hb hg hat)
                        go_roundg k2
                        case measure => have := hk2.out; omega
                        case rel => exact ⟨s, i + 1, out ++ [(⟨a, b⟩ : S76)], rfl, by go_num, HQ, ⟨by have := hk2.out; have := hk.out; omega⟩, HO2, HB2⟩
                      · rw [if_neg c] at H; cases H
              · rw [if_neg hi] at H
                have hib : decide ((i : Int) < n) = false := decide_eq_false hi
                by_cases c : s.toList = ([] : List UInt8)
                · rw [if_pos c] at H
                  have hcb : (s.toList == ([] : List UInt8)) = true := beq_iff_eq.mpr c
                  have hcn : (s.toList != ([] : List UInt8)) = false := bne_eq_false_iff_eq.mpr c
                  obtain ⟨t, g1, H⟩ := Option.bind_eq_some_iff.mp H
                  have G1 := Aside0.mk g1
                  clear g1
                  obtain ⟨A, cp, rfl, hc, hC⟩ := Kd.R_reads hR.out
                  have HC := Aside0.mk hC
                  clear hC
                  cases t with
                  | true =>
                    rw [if_pos rfl] at H
                    injection Option.some.inj H with q1 q2
                    subst q1 q2
                    clear H
                    go_wp2_with (go_at_call 25; (with_reducible refine (dowserref13_Rise.calls k1 A cp out true _ ?side1 hc G1.out).mono ?_); (case side1 => exact HC.out); rintro e w5 ⟨rfl, hb⟩; have HB5 := Aside0.mk hb; clear hb)
                    go_ret2
                    exact ⟨_, rfl, Kd.R_below hR.out HB5.out, below_then hB.out hB.out.size HB5.out⟩
                  | false =>
                    rw [if_neg (by simp)] at H
                    injection Option.some.inj H with q1 q2
                    subst q1 q2
                    clear H
                    go_wp2_with (go_at_call 25; (with_reducible refine (dowserref13_Rise.calls k1 A cp out false _ ?side1 hc G1.out).mono ?_); (case side1 => exact HC.out); rintro e w5 ⟨rfl, hb⟩; have HB5 := Aside0.mk hb; clear hb)
                    go_ret2
                    exact ⟨_, rfl, Kd.R_nil _ _ _ _ _, below_then hB.out hB.out.size HB5.out⟩
                · rw [if_neg c] at H
                  have hcb : (s.toList == ([] : List UInt8)) = false := beq_eq_false_iff_ne.mpr c
                  have hcn : (s.toList != ([] : List UInt8)) = true := bne_iff_ne.mpr c
                  injection Option.some.inj H with q1 q2
                  subst q1 q2
                  clear H
                  go_wp2_with fail
                  go_ret2
                  exact ⟨_, rfl, Kd.R_nil _ _ _ _ _, hB.out⟩
        · rw [if_neg m1] at h; cases h
      · rw [if_neg m0] at h; cases h
  · rw [if_neg e0] at h
    injection Option.some.inj h with q1 q2
    subst q1 q2
    have e0b : (e == 0) = false := beq_eq_false_iff_ne.mpr e0
    have e0n : (e != 0) = true := bne_iff_ne.mpr e0
    clear h h1
    go_enter Try.func22, Try.ntmps22
    go_wp2_with (go_at_call 44; (with_reducible refine (dowserref01_Head.calls k a0 _ _ _ _ H1.out).mono ?_); rintro e w' ⟨rfl, ⟨m1, rfl⟩⟩)
    go_ret2
    exact ⟨_, rfl, Kd.R_nil _ _ _ _ _, by repeat (first | exact Below.refl _ _ | apply pw_below_drewN)⟩
end

/-! ### dowserlaw13_same: function 23 -/
def dowserlaw13_same.l0 : Nat → List (S76) → List (S76) → Int → Int → Option (Bool)
  | 0, _, _, _, _ => none
  | k + 1, x0, x1, x12, x13 => if x13 < x12 then (if 0 ≤ x13 then (if x13 < (x0.length : Int) then (if x13 < (x1.length : Int) then (if (!(((rd_T76 x0 x13).f0) == ((rd_T76 x1 x13).f0)) || (!(((rd_T76 x0 x13).f1) == ((rd_T76 x1 x13).f1)))) = true then (some false) else (dowserlaw13_same.l0 k x0 x1 x12 (wrap64 (x13 + 1)))) else (none)) else (none)) else (none)) else (some true)
def dowserlaw13_same.f (k : Nat) (l0 : List (S76)) (l1 : List (S76)) : Option (Bool) := if (l0.length : Int) = (l1.length : Int) then (dowserlaw13_same.l0 k l0 l1 (l0.length : Int) 0) else (some false)
theorem dowserlaw13_same.mono_l : ∀ k, (∀ y0 y1 y2 y3, LeO (dowserlaw13_same.l0 k y0 y1 y2 y3) (dowserlaw13_same.l0 (k + 1) y0 y1 y2 y3))
  | 0 => fun _ _ _ _ r h => by simp [dowserlaw13_same.l0] at h
  | k + 1 => by
    have ih0 := dowserlaw13_same.mono_l k
    · intro y0 y1 y2 y3
      unfold dowserlaw13_same.l0
      repeat' first
      | (with_reducible exact ih0 _ _ _ _)
      | (with_reducible exact LeO.refl _)
      | (with_reducible exact LeO.none _)
      | (with_reducible refine LeO.ite ?_ ?_)
      | (with_reducible refine LeO.bind ?_ (fun _ => ?_))
      | exact ih0 _ _ _ _
      | exact LeO.none _
      | refine LeO.ite ?_ ?_
      | refine LeO.bind ?_ (fun _ => ?_)
theorem dowserlaw13_same.mono : ∀ a0 a1 k, LeO (dowserlaw13_same.f k a0 a1) (dowserlaw13_same.f (k + 1) a0 a1) := by
  intro a0 a1 k
  have ih0 := dowserlaw13_same.mono_l k
  unfold dowserlaw13_same.f
  repeat' first
      | (with_reducible exact ih0 _ _ _ _)
      | (with_reducible exact LeO.refl _)
      | (with_reducible exact LeO.none _)
      | (with_reducible refine LeO.ite ?_ ?_)
      | (with_reducible refine LeO.bind ?_ (fun _ => ?_))
      | exact ih0 _ _ _ _
      | exact LeO.none _
      | refine LeO.ite ?_ ?_
      | refine LeO.bind ?_ (fun _ => ?_)
set_option maxHeartbeats 40000000 in
set_option maxRecDepth 100000 in
theorem dowserlaw13_same.calls (k : Nat) (A0 : Option Addr) (c0 : Nat) (l0 : List (S76)) (A1 : Option Addr) (c1 : Nat) (l1 : List (S76)) (r : Bool) (w : World) (hr0 : Kd.C k76 w A0 l0.length l0) (hc0 : l0.length ≤ c0) (hr1 : Kd.C k76 w A1 l1.length l1) (hc1 : l1.length ≤ c1) (h : dowserlaw13_same.f k l0 l1 = some r) :
    Calls Try.prog 23 #[.slice A0 l0.length c0, .slice A1 l1.length c1] w fun e w' => e = .returned (.bool r) ∧ Drawn0 w w' := by
  have hu76 := Try.underlying76
  have HR0 := Aside0.mk hr0
  have HC0 := Aside0.mk hc0
  clear hr0 hc0
  have HR1 := Aside0.mk hr1
  have HC1 := Aside0.mk hc1
  clear hr1 hc1
  have H : (if (l0.length : Int) = (l1.length : Int) then (dowserlaw13_same.l0 k l0 l1 (l0.length : Int) 0) else (some false)) = some r := h
  clear h
  by_cases c3 : (l0.length : Int) = (l1.length : Int)
  · rw [if_pos c3] at H
    have c3b0 : ((l0.length : Int) == (l1.length : Int)) = true := beq_iff_eq.mpr c3
    have c3b1 : ((l0.length : Int) != (l1.length : Int)) = false := bne_eq_false_iff_eq.mpr c3
    have c3b2 : (l0.length == l1.length) = true := by first | simpa using c3 | (simp at c3 ⊢; omega)
    clear c3
    have H' := Aside0.mk H
    clear H
    go_enter Try.func23, Try.ntmps23
    go_wp2
    repeat (go_quiet (fail); try go_wp2)
    go_loopg [13] k (fun kq v13 w' => ∃ (x13_1 : Int), v13 = .int .i64 x13_1 ∧ Aside0 (dowserlaw13_same.l0 kq l0 l1 (l0.length : Int) x13_1 = some r) ∧ Aside0 (kq ≤ k) ∧ Drawn0 w w')
    case atStart => exact ⟨(0), (by first | rfl | (simp; done) | (simp [*]; done) | (simp; rw [Bool.eq_iff_iff]; simp; done)), H', ⟨Nat.le_refl _⟩, by repeat (first | exact Drawn0.refl _ | apply Drawn0.step)⟩
    case round =>
      clear H'
      try clear c1
      try clear c2
      try clear p2
      try clear c3
      try clear c3b0
      try clear c3b1
      try clear c3b2
      obtain ⟨x13_1, rfl, HA, HK1, ⟨m1, rfl⟩⟩ := hrel
      cases gk with
      | zero => exact absurd HA.out (by simp [dowserlaw13_same.l0])
      | succ k1 =>
        have H := HA.out
        clear HA
        simp only [dowserlaw13_same.l0] at H
        by_cases c4 : x13_1 < (l0.length : Int)
        · rw [if_pos c4] at H
          have c4b0 : decide (x13_1 < (l0.length : Int)) = true := decide_eq_true c4
          clear c4
          by_cases c5 : 0 ≤ x13_1
          · rw [if_pos c5] at H
            have c5b0 : decide (0 ≤ x13_1) = true := decide_eq_true c5
            clear c5
            by_cases c6 : x13_1 < (l0.length : Int)
            · rw [if_pos c6] at H
              have c6b0 : decide (x13_1 < (l0.length : Int)) = true := decide_eq_true c6
              clear c6
              by_cases c7 : x13_1 < (l1.length : Int)
              · rw [if_pos c7] at H
                have c7b0 : decide (x13_1 < (l1.length : Int)) = true := decide_eq_true c7
                clear c7
                by_cases c8 : (!(((rd_T76 l0 x13_1).f0) == ((rd_T76 l1 x13_1).f0)) || (!(((rd_T76 l0 x13_1).f1) == ((rd_T76 l1 x13_1).f1)))) = true
                · rw [if_pos c8] at H
                  have c8b0 : (!(((rd_T76 l0 x13_1).f0) == ((rd_T76 l1 x13_1).f0)) || (!(((rd_T76 l0 x13_1).f1) == ((rd_T76 l1 x13_1).f1)))) = true := c8
                  clear c8
                  obtain rfl := Option.some.inj H
                  have p221 : 0 ≤ (x13_1 : Int) := of_decide_eq_true (by first | (with_reducible assumption) | assumption)
                  have q221 : x13_1 < (l0.length : Int) := of_decide_eq_true (by first | (with_reducible assumption) | assumption)
                  obtain ⟨ad221, e221, hx221_0, hx221_1⟩ := at_T76 HR0.out x13_1 p221 q221
                  cases e221
                  replace p221 := eq_true p221
                  replace q221 := eq_true q221
                  have p222 : 0 ≤ (x13_1 : Int) := of_decide_eq_true (by first | (with_reducible assumption) | assumption)
                  have q222 : x13_1 < (l1.length : Int) := of_decide_eq_true (by first | (with_reducible assumption) | assumption)
                  obtain ⟨ad222, e222, hx222_0, hx222_1⟩ := at_T76 HR1.out x13_1 p222 q222
                  cases e222
                  replace p222 := eq_true p222
                  replace q222 := eq_true q222
                  go_wp2
                  repeat (go_quiet (fail); try go_wp2)
                  go_ret
                  exact ⟨by first | rfl | (simp; done) | (simp [*]; done) | (simp; rw [Bool.eq_iff_iff]; simp; done), by repeat (first | exact Drawn0.refl _ | apply Drawn0.step)⟩
                · rw [if_neg c8] at H
                  have c8b0 : (!(((rd_T76 l0 x13_1).f0) == ((rd_T76 l1 x13_1).f0)) || (!(((rd_T76 l0 x13_1).f1) == ((rd_T76 l1 x13_1).f1)))) = false := by simpa using c8
                  clear c8
                  have H' := Aside0.mk H
                  clear H
                  have p221 : 0 ≤ (x13_1 : Int) := of_decide_eq_true (by first | (with_reducible assumption) | assumption)
                  have q221 : x13_1 < (l0.length : Int) := of_decide_eq_true (by first | (with_reducible assumption) | assumption)
                  obtain ⟨ad221, e221, hx221_0, hx221_1⟩ := at_T76 HR0.out x13_1 p221 q221
                  cases e221
                  replace p221 := eq_true p221
                  replace q221 := eq_true q221
                  have p222 : 0 ≤ (x13_1 : Int) := of_decide_eq_true (by first | (with_reducible assumption) | assumption)
                  have q222 : x13_1 < (l1.length : Int) := of_decide_eq_true (by first | (with_reducible assumption) | assumption)
                  obtain ⟨ad222, e222, hx222_0, hx222_1⟩ := at_T76 HR1.out x13_1 p222 q222
                  cases e222
                  replace p222 := eq_true p222
                  replace q222 := eq_true q222
                  go_wp2
                  repeat (go_quiet (fail); try go_wp2)
                  go_roundg k1
                  case measure => have := HK1.out; omega
                  case rel => exact ⟨(wrap64 (x13_1 + 1)), (by first | rfl | (simp; done) | (simp [*]; done) | (simp; rw [Bool.eq_iff_iff]; simp; done)), H', ⟨by have := HK1.out; omega⟩, by repeat (first | exact Drawn0.refl _ | apply Drawn0.step)⟩
              · rw [if_neg c7] at H
                exact absurd H (by simp)
            · rw [if_neg c6] at H
              exact absurd H (by simp)
          · rw [if_neg c5] at H
            exact absurd H (by simp)
        · rw [if_neg c4] at H
          have c4b0 : decide (x13_1 < (l0.length : Int)) = false := decide_eq_false c4
          clear c4
          obtain rfl := Option.some.inj H
          go_wp2
          repeat (go_quiet (fail); try go_wp2)
          go_ret
          exact ⟨by first | rfl | (simp; done) | (simp [*]; done) | (simp; rw [Bool.eq_iff_iff]; simp; done), by repeat (first | exact Drawn0.refl _ | apply Drawn0.step)⟩
  · rw [if_neg c3] at H
    have c3b0 : ((l0.length : Int) == (l1.length : Int)) = false := beq_eq_false_iff_ne.mpr c3
    have c3b1 : ((l0.length : Int) != (l1.length : Int)) = true := bne_iff_ne.mpr c3
    have c3b2 : (l0.length == l1.length) = false := by first | simpa using c3 | (simp at c3 ⊢; omega)
    obtain rfl := Option.some.inj H
    go_enter Try.func23, Try.ntmps23
    go_wp2
    repeat (go_quiet (fail); try go_wp2)
    go_ret
    exact ⟨by first | rfl | (simp; done) | (simp [*]; done) | (simp; rw [Bool.eq_iff_iff]; simp; done), by repeat (first | exact Drawn0.refl _ | apply Drawn0.step)⟩


/-! ### setcode_Pairs: function 24 (own text) -/
section
def setcode_Pairs.l0 : Nat → List S76 → Nat → List UInt8 → Option ByteArray
  | 0, _, _, _ => none
  | k + 1, l, i, acc => if i < l.length then (varint_Num.f k (IntKind.u64.wrap (rd_T76 l (i : Int)).f0)).bind fun t => (varint_Num.f k (IntKind.u64.wrap (rd_T76 l (i : Int)).f1)).bind fun u => (if acc.length + (t ++ u).size ≤ 140737488355328 then setcode_Pairs.l0 k l (i + 1) (acc ++ (t ++ u).data.toList) else none) else some ⟨acc.toArray⟩
def setcode_Pairs.b (k : Nat) (l : List S76) : Option (ByteArray × Int) := if l.length ≤ 9223372036854775807 then (varint_Num.f k (l.length : Int)).bind fun t => (if t.size ≤ 140737488355328 then (setcode_Pairs.l0 k l 0 t.data.toList).bind fun s => some (s, 0) else none) else none
def setcode_Pairs.f (k : Nat) (l0 : List S76) : Option (ByteArray × Int) := (setcode_rise.f k l0).bind fun t => if t = true then setcode_Pairs.b k l0 else some (⟨#[]⟩, 1)
theorem setcode_Pairs.mono_l : ∀ k l i acc, LeO (setcode_Pairs.l0 k l i acc) (setcode_Pairs.l0 (k + 1) l i acc)
  | 0 => fun _ _ _ => LeO.none _
  | k + 1 => fun l i acc => by
    have ih := setcode_Pairs.mono_l k
    unfold setcode_Pairs.l0
    exact LeO.ite (LeO.bind (varint_Num.mono _ _) (fun t => LeO.bind (varint_Num.mono _ _) (fun u => LeO.ite (ih _ _ _) (LeO.refl _)))) (LeO.refl _)
theorem setcode_Pairs.mono_b (k : Nat) (l : List S76) : LeO (setcode_Pairs.b k l) (setcode_Pairs.b (k + 1) l) := by
  unfold setcode_Pairs.b
  exact LeO.ite (LeO.bind (varint_Num.mono _ _) (fun t => LeO.ite (LeO.bind (setcode_Pairs.mono_l _ _ _ _) (fun _ => LeO.refl _)) (LeO.refl _))) (LeO.refl _)
theorem setcode_Pairs.mono : ∀ a0 k, LeO (setcode_Pairs.f k a0) (setcode_Pairs.f (k + 1) a0) := by
  intro a0 k
  unfold setcode_Pairs.f
  exact LeO.bind (setcode_rise.mono _ _) (fun t => LeO.ite (setcode_Pairs.mono_b _ _) (LeO.refl _))
set_option maxHeartbeats 4000000 in
set_option maxRecDepth 100000 in
theorem setcode_Pairs.bad (k : Nat) (A0 : Option Addr) (c0 : Nat) (l0 : List S76) (w : World) (hr0 : Kd.C k76 w A0 l0.length l0) (hc0 : l0.length ≤ c0) (h : setcode_rise.f k l0 = some false) :
    Calls Try.prog 24 #[.slice A0 l0.length c0] w fun e w' => e = .returned (.tuple #[.string ⟨#[]⟩, .int .i64 1]) ∧ Below w.heap.size w w' := by
  have HR0 := Aside0.mk hr0
  have HC0 := Aside0.mk hc0
  have H := Aside0.mk h
  clear hr0 hc0 h
  go_enter Try.func24, Try.ntmps24
  go_wp2_with (go_at_call 45; (with_reducible refine (setcode_rise.calls k A0 c0 l0 false _ ?side1 HC0.out H.out).mono ?_); (case side1 => exact HR0.out); rintro e w1 ⟨rfl, hb⟩; have HB := Aside0.mk hb; clear hb)
  go_ret2
  exact ⟨rfl, by repeat (first | exact HB.out | apply pw_below_drewN)⟩
set_option maxHeartbeats 4000000 in
set_option maxRecDepth 100000 in
theorem setcode_Pairs.good (k : Nat) (A0 : Option Addr) (c0 : Nat) (l0 : List S76) (r : ByteArray × Int) (w : World) (hr0 : Kd.C k76 w A0 l0.length l0) (hc0 : l0.length ≤ c0) (h : setcode_rise.f k l0 = some true) (hb : setcode_Pairs.b k l0 = some r) :
    Calls Try.prog 24 #[.slice A0 l0.length c0] w fun e w' => e = .returned (.tuple #[.string r.1, .int .i64 r.2]) ∧ Below w.heap.size w w' := by
  have HR0 := Aside0.mk hr0
  have HC0 := Aside0.mk hc0
  have HRI := Aside0.mk h
  have hm := Kd.C_max hr0
  unfold setcode_Pairs.b at hb
  rw [if_pos hm] at hb
  obtain ⟨t, h1, hb⟩ := Option.bind_eq_some_iff.mp hb
  have H1 := Aside0.mk h1
  by_cases c : t.size ≤ 140737488355328
  · rw [if_pos c] at hb
    obtain ⟨s, h2, hb⟩ := Option.bind_eq_some_iff.mp hb
    have hr := Option.some.inj hb
    subst hr
    have H2 := Aside0.mk h2
    clear h2 h1 hr0 hc0 h hb
    go_enter Try.func24, Try.ntmps24
    go_wp2_with (go_at_call 45; (with_reducible refine (setcode_rise.calls k A0 c0 l0 true _ ?side1 HC0.out HRI.out).mono ?_); (case side1 => exact HR0.out); rintro e w1 ⟨rfl, hb⟩; have HB := Aside0.mk hb; clear hb)
    refine (varint_Num.calls k _ t _ H1.out).mono ?_
    rintro e w2 ⟨rfl, hb1⟩
    have hH : Go.Proofs.Ytefiadhmcdfdoaa.Bld.Holds w1.heap.size w1.heap.size [] w2 := (Go.Proofs.Ytefiadhmcdfdoaa.Bld.Holds.fresh w1).below hb1
    have hB1 : Below w1.heap.size w1 w2 := below_step (below_alloc (Below.refl _ _) _) hb1
    go_wp2_with (go_at_call 29; refine (Go.Proofs.Ytefiadhmcdfdoaa.Bld.write w1.heap.size w1.heap.size [] t _ hH (by rw [List.length_nil, Nat.zero_add]; exact c) hB1.size).mono ?_)
    rintro e w3 ⟨rfl, hH2, hb2⟩
    rw [List.nil_append] at hH2
    have HH := Aside0.mk hH2
    have HB3 := Aside0.mk (hB1.trans hb2)
    clear hH hB1 hb1 hb2 hH2
    go_wp2
    go_loopg [17] k (fun kq v17 w' => ∃ (i : Nat) (acc : List UInt8), v17 = .int .i64 (i : Int) ∧ Aside0 (setcode_Pairs.l0 kq l0 i acc = some s) ∧ Aside0 (kq ≤ k) ∧ Aside0 (Go.Proofs.Ytefiadhmcdfdoaa.Bld.Holds w1.heap.size w1.heap.size acc w') ∧ Aside0 (Below w1.heap.size w1 w'))
    case atStart => exact ⟨0, t.data.toList, rfl, H2, ⟨Nat.le_refl _⟩, HH, HB3⟩
    case round =>
      obtain ⟨i, acc, rfl, hl, hk, hh, hbw⟩ := hrel
      clear HH HB3 H2
      cases gk with
      | zero => exact absurd hl.out (by simp [setcode_Pairs.l0])
      | succ k1 =>
        have H := hl.out
        clear hl
        unfold setcode_Pairs.l0 at H
        by_cases hi : i < l0.length
        · rw [if_pos hi] at H
          obtain ⟨x0, hx0⟩ : ∃ x, x = (rd_T76 l0 (i : Int)).f0 := ⟨_, rfl⟩
          obtain ⟨x1, hx1⟩ : ∃ x, x = (rd_T76 l0 (i : Int)).f1 := ⟨_, rfl⟩
          rw [← hx0, ← hx1] at H
          obtain ⟨t2, g1, H⟩ := Option.bind_eq_some_iff.mp H
          obtain ⟨t3, g2, H⟩ := Option.bind_eq_some_iff.mp H
          have G1 := Aside0.mk g1
          have G2 := Aside0.mk g2
          by_cases c3 : acc.length + (t2 ++ t3).size ≤ 140737488355328
          · rw [if_pos c3] at H
            have G3 := Aside0.mk H
            clear H g1 g2
            have C3 := Aside0.mk c3
            have hcat : (9223372036854775807 < t2.size + t3.size) = False := eq_false (by rw [ByteArray.size_append] at c3; omega)
            have c4 : decide (i < l0.length) = true := decide_eq_true hi
            have hiz : (i : Int) < (l0.length : Int) := by omega
            have h0z : (0 : Int) ≤ (i : Int) := by omega
            obtain ⟨ad, e1, hx, hy⟩ := at_T76 (Kd.C_below HR0.out (below_then HB.out HB.out.size hbw.out)) (i : Int) h0z hiz
            subst e1
            rw [Int.toNat_natCast, ← hx0] at hx
            rw [Int.toNat_natCast, ← hx1] at hy
            have hu76 := Try.underlying76
            have hil : (i : Int) < 9223372036854775807 := by omega
            clear hx0 hx1 c3
            go_wp2_with fail
            have p0 : (wr.alloc (.cells #[.int .i64 x0, .int .i64 x1] 76)).cell? ⟨wr.heap.size, 0, none⟩ = some (.int .i64 x0) := World.cell?_alloc_new _ _ _ _
            have p1 : (wr.alloc (.cells #[.int .i64 x0, .int .i64 x1] 76)).cell? ⟨wr.heap.size, 1, none⟩ = some (.int .i64 x1) := World.cell?_alloc_new _ _ _ _
            have HW5 := Aside0.mk (hh.out.below (below_alloc (Below.refl wr.heap.size wr) (.cells #[.int .i64 x0, .int .i64 x1] 76)))
            have HB5 := Aside0.mk (below_alloc hbw.out (.cells #[.int .i64 x0, .int .i64 x1] 76))
            obtain ⟨gp, hgp⟩ : ∃ g, g = wr.heap.size := ⟨_, rfl⟩
            obtain ⟨W5, hW5⟩ : ∃ W, W = wr.alloc (.cells #[.int .i64 x0, .int .i64 x1] 76) := ⟨_, rfl⟩
            rw [← hgp, ← hW5] at p0 p1
            rw [← hW5] at HW5 HB5
            rw [← hgp, ← hW5]
            clear hgp hW5 hx hy hh hbw
            have HWD := Aside0.mk (Go.Proofs.Ytefiadhmcdfdoaa.Bld.Holds.below HW5.out (below_drew1 (Below.refl W5.heap.size W5)))
            have HBD := Aside0.mk (below_drew1 HB5.out)
            go_region_with (first | (go_at_call_of 30 x0; refine (varint_Num.calls k1 _ t2 _ G1.out).mono ?_; rintro e w6 ⟨rfl, hb6⟩; have q0 := pw_cell_below hb6 (a := ⟨gp, 0, none⟩) (show W5.drew.cell? _ = _ from p0); have q1 := pw_cell_below hb6 (a := ⟨gp, 1, none⟩) (show W5.drew.cell? _ = _ from p1); have HW6 := Aside0.mk (Go.Proofs.Ytefiadhmcdfdoaa.Bld.Holds.below HWD.out hb6); have HB6 := Aside0.mk (below_then (w := w1) HBD.out HBD.out.size hb6); clear hb6) | (go_at_call_of 30 x1; refine (varint_Num.calls k1 _ t3 _ G2.out).mono ?_; rintro e w7 ⟨rfl, hb7⟩; have r0 := pw_cell_below hb7 (a := ⟨gp, 0, none⟩) q0; have r1 := pw_cell_below hb7 (a := ⟨gp, 1, none⟩) q1; have HW7 := Aside0.mk (Go.Proofs.Ytefiadhmcdfdoaa.Bld.Holds.below HW6.out hb7); have HB7 := Aside0.mk (below_then (w := w1) HB6.out HB6.out.size hb7); clear hb7) | (go_at_call 29; refine (Go.Proofs.Ytefiadhmcdfdoaa.Bld.write w1.heap.size w1.heap.size acc (t2 ++ t3) _ HW7.out C3.out HB7.out.size).mono ?_; rintro e w8 ⟨rfl, hH8, hb8⟩; have HW8 := Aside0.mk hH8; have HB8 := Aside0.mk (HB7.out.trans hb8); clear hH8 hb8))
            all_goals go_wp2
            all_goals go_roundg k1
            all_goals first | (have := hk.out; omega) | exact ⟨i + 1, acc ++ (t2 ++ t3).data.toList, by go_num, G3, ⟨by have := hk.out; omega⟩, HW8, HB8⟩
          · rw [if_neg c3] at H; cases H
        · rw [if_neg hi] at H
          have hs := Option.some.inj H
          subst hs
          clear H
          have c4 : decide (i < l0.length) = false := decide_eq_false hi
          go_wp2_with fail
          refine (Go.Proofs.Ytefiadhmcdfdoaa.Bld.told w1.heap.size w1.heap.size acc _ hh.out hbw.out.size).mono ?_
          rintro e w5 ⟨rfl, hb3⟩
          go_wp2
          go_ret2
          exact ⟨rfl, below_then HB.out HB.out.size (hbw.out.trans hb3)⟩
  · rw [if_neg c] at hb; cases hb
theorem setcode_Pairs.calls (k : Nat) (A0 : Option Addr) (c0 : Nat) (l0 : List S76) (r1 : ByteArray) (r2 : Int) (w : World) (hr0 : Kd.C k76 w A0 l0.length l0) (hc0 : l0.length ≤ c0) (h : setcode_Pairs.f k l0 = some (r1, r2)) :
    Calls Try.prog 24 #[.slice A0 l0.length c0] w fun e w' => e = .returned (.tuple #[.string r1, .int .i64 r2]) ∧ Below w.heap.size w w' := by
  unfold setcode_Pairs.f at h
  obtain ⟨t, h1, h2⟩ := Option.bind_eq_some_iff.mp h
  cases t with
  | false =>
    rw [if_neg (by simp)] at h2
    injection Option.some.inj h2 with e1 e2
    subst e1 e2
    exact setcode_Pairs.bad k A0 c0 l0 w hr0 hc0 h1
  | true =>
    rw [if_pos rfl] at h2
    exact setcode_Pairs.good k A0 c0 l0 (r1, r2) w hr0 hc0 h1 h2
end

end Go.Proofs.Ytefiadhmcdfdoaa.PC

-- Written by this session's own program wip/bin/dprint.py, over the kit's print.py, with own texts for some functions: no print of print.sh's
import Derived.Test.YtefiadhmcdfdoaaPDx0
import Derived.Test.YtefiadhmcdfdoaaPDx1
import Derived.Test.YtefiadhmcdfdoaaPDx3
import Derived.Test.YtefiadhmcdfdoaaPDx4
namespace Go.Proofs.Ytefiadhmcdfdoaa.PD
open Go.RowKit Go.Proofs.YtefiadhmcdfdoaaW.PrintWords Go.Proofs.YtefiadhmcdfdoaaW.PrintLast Go.Proofs.YtefiadhmcdfdoaaW.PrintMore
attribute [local go_sem] max2_int min2_int max_two min_two max_three min_three max_four min_four   -- for this text's walks alone
set_option linter.unusedVariables false
set_option linter.unusedSimpArgs false

/-! ### request_Response_Encode: function 17 -/
def request_Response_Encode.l0 : Nat → ByteArray → List (List Int) → Int → Int → Int → List (List Int) → ByteArray → Option (ByteArray)
  | 0, _, _, _, _, _, _, _ => none
  | k + 1, x3, x22, x23, x24, x202000, x202001, x202002 => if x24 < x23 then (if 0 ≤ x24 then (if x24 < (x22.length : Int) then ((request_nums.f k (([((rd_L2 x22 x24).length : Int)] : List Int))).bind fun t214 => ((request_nums.f k (rd_L2 x22 x24)).bind fun t215 => (if t214.size + t215.size ≤ 9223372036854775807 then (if x3.size + (t214 ++ t215).size ≤ 9223372036854775807 then (request_Response_Encode.l0 k (x3 ++ (t214 ++ t215)) x22 x23 (wrap64 (x24 + 1)) x202000 x202001 x202002) else (none)) else (none)))) else (none)) else (none)) else ((varint_Text.f k x202002).bind fun t216 => (if x3.size + t216.size ≤ 9223372036854775807 then (some (x3 ++ t216)) else (none)))
def request_Response_Encode.f (k : Nat) (a0_0 : Int) (l0_1 : List (List Int)) (a0_2 : ByteArray) : Option (ByteArray) := (request_nums.f k (([a0_0] : List Int))).bind fun t205 => (if a0_0 = 0 then ((request_nums.f k (([(l0_1.length : Int)] : List Int))).bind fun t209 => (if t205.size + t209.size ≤ 9223372036854775807 then (request_Response_Encode.l0 k (t205 ++ t209) l0_1 (l0_1.length : Int) 0 a0_0 l0_1 a0_2) else (none))) else (some t205))
theorem request_Response_Encode.mono_l : ∀ k, (∀ y0 y1 y2 y3 y4 y5 y6, LeO (request_Response_Encode.l0 k y0 y1 y2 y3 y4 y5 y6) (request_Response_Encode.l0 (k + 1) y0 y1 y2 y3 y4 y5 y6))
  | 0 => fun _ _ _ _ _ _ _ r h => by simp [request_Response_Encode.l0] at h
  | k + 1 => by
    have ih0 := request_Response_Encode.mono_l k
    · intro y0 y1 y2 y3 y4 y5 y6
      unfold request_Response_Encode.l0
      repeat' first
      | (with_reducible exact ih0 _ _ _ _ _ _ _)
      | (with_reducible exact request_nums.mono _ _)
      | (with_reducible exact varint_Text.mono _ _)
      | (with_reducible exact LeO.refl _)
      | (with_reducible exact LeO.none _)
      | (with_reducible refine LeO.ite ?_ ?_)
      | (with_reducible refine LeO.bind ?_ (fun _ => ?_))
      | exact ih0 _ _ _ _ _ _ _
      | exact request_nums.mono _ _
      | exact varint_Text.mono _ _
      | exact LeO.none _
      | refine LeO.ite ?_ ?_
      | refine LeO.bind ?_ (fun _ => ?_)
theorem request_Response_Encode.mono : ∀ a0 a1 a2 k, LeO (request_Response_Encode.f k a0 a1 a2) (request_Response_Encode.f (k + 1) a0 a1 a2) := by
  intro a0 a1 a2 k
  have ih0 := request_Response_Encode.mono_l k
  unfold request_Response_Encode.f
  repeat' first
      | (with_reducible exact ih0 _ _ _ _ _ _ _)
      | (with_reducible exact request_nums.mono _ _)
      | (with_reducible exact varint_Text.mono _ _)
      | (with_reducible exact LeO.refl _)
      | (with_reducible exact LeO.none _)
      | (with_reducible refine LeO.ite ?_ ?_)
      | (with_reducible refine LeO.bind ?_ (fun _ => ?_))
      | exact ih0 _ _ _ _ _ _ _
      | exact request_nums.mono _ _
      | exact varint_Text.mono _ _
      | exact LeO.none _
      | refine LeO.ite ?_ ?_
      | refine LeO.bind ?_ (fun _ => ?_)
set_option maxHeartbeats 40000000 in
set_option maxRecDepth 100000 in
theorem request_Response_Encode.calls (k : Nat) (a0_0 : Int) (A0_1 : Option Addr) (c0_1 : Nat) (l0_1 : List (List Int)) (a0_2 : ByteArray) (r : ByteArray) (w : World) (hr0_1 : Kd.C (Kd.slice 3 (Kd.int .i64)) w A0_1 l0_1.length l0_1) (hc0_1 : l0_1.length ≤ c0_1) (h : request_Response_Encode.f k a0_0 l0_1 a0_2 = some r) :
    Calls Try.prog 17 #[.agg #[.int .i64 a0_0, .slice A0_1 l0_1.length c0_1, .string a0_2]] w fun e w' => e = .returned (.string r) ∧ Below w.heap.size w w' := by
  have hu37 := Try.underlying37
  have HR0_1 := Aside0.mk hr0_1
  have HC0_1 := Aside0.mk hc0_1
  clear hr0_1 hc0_1
  have HB := Aside0.mk (Below.refl w.heap.size w)
  have H : ((request_nums.f k (([a0_0] : List Int))).bind fun t205 => (if a0_0 = 0 then ((request_nums.f k (([(l0_1.length : Int)] : List Int))).bind fun t209 => (if t205.size + t209.size ≤ 9223372036854775807 then (request_Response_Encode.l0 k (t205 ++ t209) l0_1 (l0_1.length : Int) 0 a0_0 l0_1 a0_2) else (none))) else (some t205))) = some r := h
  clear h
  obtain ⟨y202, hy202⟩ : ∃ y_ : List Int, y_ = (([a0_0] : List Int)) := ⟨_, rfl⟩
  replace H : ((request_nums.f k y202).bind fun t205 => (if a0_0 = 0 then ((request_nums.f k (([(l0_1.length : Int)] : List Int))).bind fun t209 => (if t205.size + t209.size ≤ 9223372036854775807 then (request_Response_Encode.l0 k (t205 ++ t209) l0_1 (l0_1.length : Int) 0 a0_0 l0_1 a0_2) else (none))) else (some t205))) = some r := by first | (rw [hy202]; with_reducible exact H) | (have H2_ := (Option.bind_some _ _).symm.trans H; rw [hy202]; with_reducible exact H2_) | (have H2_ := (Option.bind_some _ _).symm.trans H; with_reducible exact H2_) | with_reducible exact H | (rw [hy202]; exact H) | exact H
  have Ny202 := Aside0.mk hy202
  clear hy202
  replace H := Option.bind_eq_some_iff.mp H
  obtain ⟨t205, A20, H⟩ := H
  replace H : (if a0_0 = 0 then ((request_nums.f k (([(l0_1.length : Int)] : List Int))).bind fun t209 => (if t205.size + t209.size ≤ 9223372036854775807 then (request_Response_Encode.l0 k (t205 ++ t209) l0_1 (l0_1.length : Int) 0 a0_0 l0_1 a0_2) else (none))) else (some t205)) = some r := H
  have A2 := Aside0.mk A20
  clear A20
  by_cases c3 : a0_0 = 0
  · rw [if_pos c3] at H
    have c3b0 : (a0_0 == 0) = true := beq_iff_eq.mpr c3
    have c3b1 : (a0_0 != 0) = false := bne_eq_false_iff_eq.mpr c3
    clear c3
    obtain ⟨y206, hy206⟩ : ∃ y_ : List Int, y_ = (([(l0_1.length : Int)] : List Int)) := ⟨_, rfl⟩
    replace H : ((request_nums.f k y206).bind fun t209 => (if t205.size + t209.size ≤ 9223372036854775807 then (request_Response_Encode.l0 k (t205 ++ t209) l0_1 (l0_1.length : Int) 0 a0_0 l0_1 a0_2) else (none))) = some r := by first | (rw [hy206]; with_reducible exact H) | (have H2_ := (Option.bind_some _ _).symm.trans H; rw [hy206]; with_reducible exact H2_) | (have H2_ := (Option.bind_some _ _).symm.trans H; with_reducible exact H2_) | with_reducible exact H | (rw [hy206]; exact H) | exact H
    have Ny206 := Aside0.mk hy206
    clear hy206
    replace H := Option.bind_eq_some_iff.mp H
    obtain ⟨t209, A40, H⟩ := H
    replace H : (if t205.size + t209.size ≤ 9223372036854775807 then (request_Response_Encode.l0 k (t205 ++ t209) l0_1 (l0_1.length : Int) 0 a0_0 l0_1 a0_2) else (none)) = some r := H
    have A4 := Aside0.mk A40
    clear A40
    by_cases c5 : t205.size + t209.size ≤ 9223372036854775807
    · rw [if_pos c5] at H
      have c5b0 := eq_true c5
      have c5b1 : decide (t205.size + t209.size ≤ 9223372036854775807) = true := decide_eq_true c5
      try have c5b2 : (9223372036854775807 < t205.size + t209.size) = False := eq_false (Nat.not_lt.2 c5)
      have H' := Aside0.mk H
      clear H
      go_enter Try.func17, Try.ntmps17
      go_wp2_with (first | ((with_reducible refine gate_dst (N := 1) rfl ?_); refine box_event ?hg (N := 1) ?hd (cs := #[.int .i64 a0_0, .slice A0_1 l0_1.length c0_1, .string a0_2]) (t := 37) ?hr ?_; (case hd => rfl); (case hg => rfl); (case hr => first | (go_simp; done) | (go_simp; rfl)); intro gb201 hg w6 hbox hb; have n0_ := Aside0.mk (below_step (by repeat (first | (with_reducible first | exact HB.out | apply below_alloc | apply pw_below_drewN | apply below_drew1) | exact HB.out)) hb); have n1_ := Aside0.mk (hbox); have n2_ := Aside0.mk ((by rw [hg]; exact (below_size (by repeat (first | (with_reducible first | exact HB.out | apply below_alloc | apply pw_below_drewN | apply below_drew1) | exact HB.out))) : w.heap.size ≤ gb201)); have n3_ := Aside0.mk ((by rw [hg]; exact (below_size (by repeat (first | (with_reducible first | exact HB.out | apply below_alloc | apply pw_below_drewN | apply below_drew1) | exact HB.out))) : w.heap.size ≤ gb201)); clear HB; have HB := n0_; have BK201 := n1_; have GW201 := n2_; have GE201 := n3_; clear n0_ n1_ n2_ n3_; clear hb hbox hg; have hcz7_0 : w6.cell? ⟨gb201, 0, none⟩ = some (.int .i64 a0_0) := (blk_cell BK201.out 0).trans rfl; have hcz7_1 : w6.cell? ⟨gb201, 1, none⟩ = some (.slice A0_1 l0_1.length c0_1) := (blk_cell BK201.out 1).trans rfl; have hcz7_2 : w6.cell? ⟨gb201, 2, none⟩ = some (.string a0_2) := (blk_cell BK201.out 2).trans rfl; have hfz7_0 := blk_frozen BK201.out 0; have hfz7_1 := blk_frozen BK201.out 1; have hfz7_2 := blk_frozen BK201.out 2) | ((with_reducible refine gate_dst (N := 8) rfl ?_); refine Kd.R_lit (Kd.int .i64) _ 3 ?hg (N := 8) ?hd (xs := ([a0_0] : List Int)) (inner := [.int .i64 a0_0]) (ok := fun _ => True) (okp := fun _ => True) ?hr ?hp (fun _ hk => hk) trivial (Below.refl _ _) (Nat.le_refl _) (by simp) ?_; (case hd => rfl); (case hg => rfl); (case hr => first | (go_simp; done) | (go_simp; rfl)); (case hp => exact (Reps.one (show Kd.M (Kd.int .i64) _ _ _ a0_0 [.int .i64 a0_0] from rfl) (Reps.none _ _))); intro v203 w8 ho9 hb hg_ hnew_; clear hg_ hnew_; (first | rw [← Ny202.out] at ho9 | (simp only [Int.reduceToNat] at ho9; rw [← Ny202.out] at ho9)); have n0_ := Aside0.mk (Kd.R_lower ho9 (below_size (by repeat (first | (with_reducible first | exact HB.out | apply below_alloc | apply pw_below_drewN | apply below_drew1 | refine below_set ?_ GE201.out) | exact HB.out)))); have n1_ := Aside0.mk (blk_below (g := gb201) (o := .cells #[.int .i64 a0_0, .slice A0_1 l0_1.length c0_1, .string a0_2] 37 (0, 0)) (by (with_reducible repeat (first | refine blk_drewN ?_ _ | refine blk_drew ?_ | refine blk_alloc ?_ _)); exact BK201.out) hb); have n2_ := Aside0.mk (below_step (by repeat (first | (with_reducible first | exact HB.out | apply below_alloc | apply pw_below_drewN | apply below_drew1 | refine below_set ?_ GE201.out) | exact HB.out)) hb); clear BK201; clear HB; have HO204 := n0_; have BK201 := n1_; have HB := n2_; clear n0_ n1_ n2_; clear hb ho9; obtain ⟨Ao10, co10, eo10⟩ := Kd.R_slice HO204.out; subst eo10) | ((with_reducible refine gate_callee (f := 39) rfl ?_); refine goesL_ (some 9) rfl rfl Try.func39 (by kernel_rfl) rfl #[.slice Ao10 y202.length co10] rfl (by (try simp only [List.map_toArray, List.map_cons, List.map_nil]); first | done | rfl | (simp only [List.length_drop, List.length_take]; rfl)) ?_; (with_reducible refine (request_nums.calls k _ _ y202 t205 _ ?side1 ?side2 A2.out).mono ?_); (case side1 => repeat (first | exact (Kd.R_reads' HO204.out).2.2 | (with_reducible refine Kd.C_alloc ?_ _) | (with_reducible refine Kd.C_drewN ?_ _) | (with_reducible refine Kd.C_drew ?_))); (case side2 => exact (Kd.R_reads' HO204.out).2.1); rintro e w11 ⟨rfl, hb⟩; refine ⟨_, rfl, ?_⟩; have n0_ := Aside0.mk (Kd.R_below (by (with_reducible repeat (first | apply Kd.R_alloc | apply Kd.R_drewN | apply Kd.R_drew)); exact HO204.out) hb); have n1_ := Aside0.mk (blk_below (g := gb201) (o := .cells #[.int .i64 a0_0, .slice A0_1 l0_1.length c0_1, .string a0_2] 37 (0, 0)) (by (with_reducible repeat (first | refine blk_drewN ?_ _ | refine blk_drew ?_ | refine blk_alloc ?_ _)); exact BK201.out) hb); have n2_ := Aside0.mk (below_step (by repeat (first | (with_reducible first | exact HB.out | apply below_alloc | apply pw_below_drewN | apply below_drew1 | refine below_set ?_ GE201.out) | exact HB.out)) hb); clear HO204; clear BK201; clear HB; have HO204 := n0_; have BK201 := n1_; have HB := n2_; clear n0_ n1_ n2_; (try clear hb); (try clear hb2); (try clear hk); (try clear hi); have hcz12_0 : w11.cell? ⟨gb201, 0, none⟩ = some (.int .i64 a0_0) := (blk_cell BK201.out 0).trans rfl; have hcz12_1 : w11.cell? ⟨gb201, 1, none⟩ = some (.slice A0_1 l0_1.length c0_1) := (blk_cell BK201.out 1).trans rfl; have hcz12_2 : w11.cell? ⟨gb201, 2, none⟩ = some (.string a0_2) := (blk_cell BK201.out 2).trans rfl; have hfz12_0 := blk_frozen BK201.out 0; have hfz12_1 := blk_frozen BK201.out 1; have hfz12_2 := blk_frozen BK201.out 2) | ((with_reducible refine gate_dst (N := 18) rfl ?_); refine Kd.R_lit (Kd.int .i64) _ 3 ?hg (N := 18) ?hd (xs := ([(l0_1.length : Int)] : List Int)) (inner := [.int .i64 (l0_1.length : Int)]) (ok := fun _ => True) (okp := fun _ => True) ?hr ?hp (fun _ hk => hk) trivial (Below.refl _ _) (Nat.le_refl _) (by simp) ?_; (case hd => rfl); (case hg => rfl); (case hr => first | (go_simp; done) | (go_simp; rfl)); (case hp => exact (Reps.one (show Kd.M (Kd.int .i64) _ _ _ (l0_1.length : Int) [.int .i64 (l0_1.length : Int)] from rfl) (Reps.none _ _))); intro v207 w13 ho14 hb hg_ hnew_; clear hg_ hnew_; (first | rw [← Ny206.out] at ho14 | (simp only [Int.reduceToNat] at ho14; rw [← Ny206.out] at ho14)); have n0_ := Aside0.mk (Kd.R_elder' (by (with_reducible repeat (first | apply Kd.R_alloc | apply Kd.R_drewN | apply Kd.R_drew)); exact HO204.out) (Kd.R_base ho14) hb); have n1_ := Aside0.mk (Kd.R_lower (Kd.R_new' ho14 (Kd.R_lt (by (with_reducible repeat (first | apply Kd.R_alloc | apply Kd.R_drewN | apply Kd.R_drew)); exact HO204.out))) (below_size (by repeat (first | (with_reducible first | exact HB.out | apply below_alloc | apply pw_below_drewN | apply below_drew1 | refine below_set ?_ GE201.out) | exact HB.out)))); have n2_ := Aside0.mk (blk_below (g := gb201) (o := .cells #[.int .i64 a0_0, .slice A0_1 l0_1.length c0_1, .string a0_2] 37 (0, 0)) (by (with_reducible repeat (first | refine blk_drewN ?_ _ | refine blk_drew ?_ | refine blk_alloc ?_ _)); exact BK201.out) hb); have n3_ := Aside0.mk (below_step (by repeat (first | (with_reducible first | exact HB.out | apply below_alloc | apply pw_below_drewN | apply below_drew1 | refine below_set ?_ GE201.out) | exact HB.out)) hb); clear HO204; clear BK201; clear HB; have HO204 := n0_; have HO208 := n1_; have BK201 := n2_; have HB := n3_; clear n0_ n1_ n2_ n3_; clear hb ho14; obtain ⟨Ao15, co15, eo15⟩ := Kd.R_slice HO208.out; subst eo15) | ((with_reducible refine gate_callee (f := 39) rfl ?_); refine goesL_ (some 19) rfl rfl Try.func39 (by kernel_rfl) rfl #[.slice Ao15 y206.length co15] rfl (by (try simp only [List.map_toArray, List.map_cons, List.map_nil]); first | done | rfl | (simp only [List.length_drop, List.length_take]; rfl)) ?_; (with_reducible refine (request_nums.calls k _ _ y206 t209 _ ?side1 ?side2 A4.out).mono ?_); (case side1 => repeat (first | exact (Kd.R_reads' HO208.out).2.2 | (with_reducible refine Kd.C_alloc ?_ _) | (with_reducible refine Kd.C_drewN ?_ _) | (with_reducible refine Kd.C_drew ?_))); (case side2 => exact (Kd.R_reads' HO208.out).2.1); rintro e w16 ⟨rfl, hb⟩; refine ⟨_, rfl, ?_⟩; have n0_ := Aside0.mk (Kd.R_below (by (with_reducible repeat (first | apply Kd.R_alloc | apply Kd.R_drewN | apply Kd.R_drew)); exact HO204.out) hb); have n1_ := Aside0.mk (Kd.R_below (by (with_reducible repeat (first | apply Kd.R_alloc | apply Kd.R_drewN | apply Kd.R_drew)); exact HO208.out) hb); have n2_ := Aside0.mk (blk_below (g := gb201) (o := .cells #[.int .i64 a0_0, .slice A0_1 l0_1.length c0_1, .string a0_2] 37 (0, 0)) (by (with_reducible repeat (first | refine blk_drewN ?_ _ | refine blk_drew ?_ | refine blk_alloc ?_ _)); exact BK201.out) hb); have n3_ := Aside0.mk (below_step (by repeat (first | (with_reducible first | exact HB.out | apply below_alloc | apply pw_below_drewN | apply below_drew1 | refine below_set ?_ GE201.out) | exact HB.out)) hb); clear HO204; clear HO208; clear BK201; clear HB; have HO204 := n0_; have HO208 := n1_; have BK201 := n2_; have HB := n3_; clear n0_ n1_ n2_ n3_; (try clear hb); (try clear hb2); (try clear hk); (try clear hi); have hcz17_0 : w16.cell? ⟨gb201, 0, none⟩ = some (.int .i64 a0_0) := (blk_cell BK201.out 0).trans rfl; have hcz17_1 : w16.cell? ⟨gb201, 1, none⟩ = some (.slice A0_1 l0_1.length c0_1) := (blk_cell BK201.out 1).trans rfl; have hcz17_2 : w16.cell? ⟨gb201, 2, none⟩ = some (.string a0_2) := (blk_cell BK201.out 2).trans rfl; have hfz17_0 := blk_frozen BK201.out 0; have hfz17_1 := blk_frozen BK201.out 1; have hfz17_2 := blk_frozen BK201.out 2))
      go_loopg [3, 24] k (fun kq v3 v24 w' => ∃ (x3_1 : ByteArray) (x24_1 : Int), v3 = .string x3_1 ∧ v24 = .int .i64 x24_1 ∧ Aside0 (request_Response_Encode.l0 kq x3_1 l0_1 (l0_1.length : Int) x24_1 a0_0 l0_1 a0_2 = some r) ∧ Aside0 (kq ≤ k) ∧ Aside0 (w'.heap[gb201]? = some (.cells #[.int .i64 a0_0, (.slice A0_1 l0_1.length c0_1), .string a0_2] 37 (0, 0))) ∧ Aside0 (Below w.heap.size w w'))
      case atStart => exact ⟨(t205 ++ t209), (0), (by first | rfl | (simp; done) | (simp [*]; done) | (simp; rw [Bool.eq_iff_iff]; simp; done)), (by first | rfl | (simp; done) | (simp [*]; done) | (simp; rw [Bool.eq_iff_iff]; simp; done)), H', ⟨Nat.le_refl _⟩, ⟨by (with_reducible repeat (first | refine blk_drewN ?_ _ | refine blk_drew ?_ | refine blk_alloc ?_ _)); exact BK201.out⟩, ⟨by repeat (first | (with_reducible first | exact HB.out | apply below_alloc | apply pw_below_drewN | apply below_drew1 | refine below_set ?_ GE201.out) | exact HB.out)⟩⟩
      case round =>
        clear H'
        try clear c1
        try clear p2
        try clear c3
        try clear c3b0
        try clear c3b1
        try clear c5
        try clear c5b0
        try clear c5b1
        try clear c5b2
        try clear c17
        try clear hcz12_0
        try clear hcz12_1
        try clear hcz12_2
        try clear hcz17_0
        try clear hcz17_1
        try clear hcz17_2
        try clear hcz7_0
        try clear hcz7_1
        try clear hcz7_2
        try clear hfz12_0
        try clear hfz12_1
        try clear hfz12_2
        try clear hfz17_0
        try clear hfz17_1
        try clear hfz17_2
        try clear hfz7_0
        try clear hfz7_1
        try clear hfz7_2
        obtain ⟨x3_1, x24_1, rfl, rfl, HA, HK1, BK201, HB⟩ := hrel
        cases gk with
        | zero => exact absurd HA.out (by simp [request_Response_Encode.l0])
        | succ k1 =>
          have H := HA.out
          clear HA
          simp only [request_Response_Encode.l0] at H
          by_cases c18 : x24_1 < (l0_1.length : Int)
          · rw [if_pos c18] at H
            have c18b0 : decide (x24_1 < (l0_1.length : Int)) = true := decide_eq_true c18
            clear c18
            by_cases c19 : 0 ≤ x24_1
            · rw [if_pos c19] at H
              have c19b0 : decide (0 ≤ x24_1) = true := decide_eq_true c19
              clear c19
              by_cases c20 : x24_1 < (l0_1.length : Int)
              · rw [if_pos c20] at H
                have c20b0 : decide (x24_1 < (l0_1.length : Int)) = true := decide_eq_true c20
                clear c20
                obtain ⟨y211, hy211⟩ : ∃ y_ : List Int, y_ = (([((rd_L2 l0_1 x24_1).length : Int)] : List Int)) := ⟨_, rfl⟩
                replace H : ((request_nums.f k1 y211).bind fun t214 => ((request_nums.f k1 (rd_L2 l0_1 x24_1)).bind fun t215 => (if t214.size + t215.size ≤ 9223372036854775807 then (if x3_1.size + (t214 ++ t215).size ≤ 9223372036854775807 then (request_Response_Encode.l0 k1 (x3_1 ++ (t214 ++ t215)) l0_1 (l0_1.length : Int) (wrap64 (x24_1 + 1)) a0_0 l0_1 a0_2) else (none)) else (none)))) = some r := by first | (rw [hy211]; with_reducible exact H) | (have H2_ := (Option.bind_some _ _).symm.trans H; rw [hy211]; with_reducible exact H2_) | (have H2_ := (Option.bind_some _ _).symm.trans H; with_reducible exact H2_) | with_reducible exact H | (rw [hy211]; exact H) | exact H
                have Ny211 := Aside0.mk hy211
                clear hy211
                replace H := Option.bind_eq_some_iff.mp H
                obtain ⟨t214, A210, H⟩ := H
                replace H : ((request_nums.f k1 (rd_L2 l0_1 x24_1)).bind fun t215 => (if t214.size + t215.size ≤ 9223372036854775807 then (if x3_1.size + (t214 ++ t215).size ≤ 9223372036854775807 then (request_Response_Encode.l0 k1 (x3_1 ++ (t214 ++ t215)) l0_1 (l0_1.length : Int) (wrap64 (x24_1 + 1)) a0_0 l0_1 a0_2) else (none)) else (none))) = some r := H
                have A21 := Aside0.mk A210
                clear A210
                replace H := Option.bind_eq_some_iff.mp H
                obtain ⟨t215, A220, H⟩ := H
                replace H : (if t214.size + t215.size ≤ 9223372036854775807 then (if x3_1.size + (t214 ++ t215).size ≤ 9223372036854775807 then (request_Response_Encode.l0 k1 (x3_1 ++ (t214 ++ t215)) l0_1 (l0_1.length : Int) (wrap64 (x24_1 + 1)) a0_0 l0_1 a0_2) else (none)) else (none)) = some r := H
                have A22 := Aside0.mk A220
                clear A220
                by_cases c23 : t214.size + t215.size ≤ 9223372036854775807
                · rw [if_pos c23] at H
                  have c23b0 := eq_true c23
                  have c23b1 : decide (t214.size + t215.size ≤ 9223372036854775807) = true := decide_eq_true c23
                  try have c23b2 : (9223372036854775807 < t214.size + t215.size) = False := eq_false (Nat.not_lt.2 c23)
                  by_cases c24 : x3_1.size + (t214 ++ t215).size ≤ 9223372036854775807
                  · rw [if_pos c24] at H
                    have c24b0 := eq_true c24
                    have c24b1 : decide (x3_1.size + (t214 ++ t215).size ≤ 9223372036854775807) = true := decide_eq_true c24
                    try have c24b2 : (9223372036854775807 < x3_1.size + (t214 ++ t215).size) = False := eq_false (Nat.not_lt.2 c24)
                    try have c24b3 : (9223372036854775807 < x3_1.size + (t214.size + t215.size)) = False := eq_false (by have := c24; simp only [ByteArray.size_append] at this; omega)
                    have H' := Aside0.mk H
                    clear H
                    have p210 : 0 ≤ (x24_1 : Int) := of_decide_eq_true (by first | (with_reducible assumption) | assumption)
                    have q210 : x24_1 < (l0_1.length : Int) := of_decide_eq_true (by first | (with_reducible assumption) | assumption)
                    obtain ⟨ad210, A210_0, c210_0, e210, hx210_0, hl210_0, hi210_0⟩ := at_L2 HR0_1.out x24_1 p210 q210
                    cases e210
                    replace hx210_0 := (HB.out.cell (World.block_lt_of_cell? w _ hx210_0)).trans hx210_0
                    have HR210_0 := Aside0.mk hi210_0
                    have HC210_0 := Aside0.mk hl210_0
                    clear hi210_0 hl210_0
                    replace p210 := eq_true p210
                    replace q210 := eq_true q210
                    go_wp2_with (first | ((with_reducible refine gate_dst (N := 31) rfl ?_); refine Kd.R_lit (Kd.int .i64) _ 3 ?hg (N := 31) ?hd (xs := ([((rd_L2 l0_1 x24_1).length : Int)] : List Int)) (inner := [.int .i64 ((rd_L2 l0_1 x24_1).length : Int)]) (ok := fun _ => True) (okp := fun _ => True) ?hr ?hp (fun _ hk => hk) trivial (Below.refl _ _) (Nat.le_refl _) (by simp) ?_; (case hd => rfl); (case hg => rfl); (case hr => first | (go_simp; done) | (go_simp; rfl)); (case hp => exact (Reps.one (show Kd.M (Kd.int .i64) _ _ _ ((rd_L2 l0_1 x24_1).length : Int) [.int .i64 ((rd_L2 l0_1 x24_1).length : Int)] from rfl) (Reps.none _ _))); intro v212 w25 ho26 hb hg_ hnew_; clear hg_ hnew_; (first | rw [← Ny211.out] at ho26 | (simp only [Int.reduceToNat] at ho26; rw [← Ny211.out] at ho26)); have n0_ := Aside0.mk (Kd.R_lower ho26 (below_size (by repeat (first | (with_reducible first | exact HB.out | apply below_alloc | apply pw_below_drewN | apply below_drew1 | refine below_set ?_ GE201.out) | exact HB.out)))); have n1_ := Aside0.mk (blk_below (g := gb201) (o := .cells #[.int .i64 a0_0, .slice (some ad210) l0_1.length c0_1, .string a0_2] 37 (0, 0)) (by (with_reducible repeat (first | refine blk_drewN ?_ _ | refine blk_drew ?_ | refine blk_alloc ?_ _)); exact BK201.out) hb); have n2_ := Aside0.mk (below_step (by repeat (first | (with_reducible first | exact HB.out | apply below_alloc | apply pw_below_drewN | apply below_drew1 | refine below_set ?_ GE201.out) | exact HB.out)) hb); clear BK201; clear HB; have HO213 := n0_; have BK201 := n1_; have HB := n2_; clear n0_ n1_ n2_; clear hb ho26; obtain ⟨Ao27, co27, eo27⟩ := Kd.R_slice HO213.out; subst eo27) | ((with_reducible refine gate_callee (f := 39) rfl ?_); refine goesL_ (some 32) rfl rfl Try.func39 (by kernel_rfl) rfl #[.slice Ao27 y211.length co27] rfl (by (try simp only [List.map_toArray, List.map_cons, List.map_nil]); first | done | rfl | (simp only [List.length_drop, List.length_take]; rfl)) ?_; (with_reducible refine (request_nums.calls k1 _ _ y211 t214 _ ?side1 ?side2 A21.out).mono ?_); (case side1 => repeat (first | exact (Kd.R_reads' HO213.out).2.2 | (with_reducible refine Kd.C_alloc ?_ _) | (with_reducible refine Kd.C_drewN ?_ _) | (with_reducible refine Kd.C_drew ?_))); (case side2 => exact (Kd.R_reads' HO213.out).2.1); rintro e w28 ⟨rfl, hb⟩; refine ⟨_, rfl, ?_⟩; have n0_ := Aside0.mk (Kd.R_below (by (with_reducible repeat (first | apply Kd.R_alloc | apply Kd.R_drewN | apply Kd.R_drew)); exact HO213.out) hb); have n1_ := Aside0.mk (blk_below (g := gb201) (o := .cells #[.int .i64 a0_0, .slice (some ad210) l0_1.length c0_1, .string a0_2] 37 (0, 0)) (by (with_reducible repeat (first | refine blk_drewN ?_ _ | refine blk_drew ?_ | refine blk_alloc ?_ _)); exact BK201.out) hb); have n2_ := Aside0.mk (below_step (by repeat (first | (with_reducible first | exact HB.out | apply below_alloc | apply pw_below_drewN | apply below_drew1 | refine below_set ?_ GE201.out) | exact HB.out)) hb); clear HO213; clear BK201; clear HB; have HO213 := n0_; have BK201 := n1_; have HB := n2_; clear n0_ n1_ n2_; (try clear hb); (try clear hb2); (try clear hk); (try clear hi)) | ((with_reducible refine gate_callee (f := 39) rfl ?_); refine goesL_ (some 34) rfl rfl Try.func39 (by kernel_rfl) rfl #[.slice A210_0 (rd_L2 l0_1 x24_1).length c210_0] rfl (by (try simp only [List.map_toArray, List.map_cons, List.map_nil]); first | done | rfl | (simp only [List.length_drop, List.length_take]; rfl)) ?_; (with_reducible refine (request_nums.calls k1 _ _ (rd_L2 l0_1 x24_1) t215 _ ?side1 ?side2 A22.out).mono ?_); (case side1 => repeat (first | exact (Kd.C_below HR210_0.out HB.out) | (with_reducible refine Kd.C_alloc ?_ _) | (with_reducible refine Kd.C_drewN ?_ _) | (with_reducible refine Kd.C_drew ?_))); (case side2 => exact HC210_0.out); rintro e w29 ⟨rfl, hb⟩; refine ⟨_, rfl, ?_⟩; have n0_ := Aside0.mk (Kd.R_below (by (with_reducible repeat (first | apply Kd.R_alloc | apply Kd.R_drewN | apply Kd.R_drew)); exact HO213.out) hb); have n1_ := Aside0.mk (blk_below (g := gb201) (o := .cells #[.int .i64 a0_0, .slice (some ad210) l0_1.length c0_1, .string a0_2] 37 (0, 0)) (by (with_reducible repeat (first | refine blk_drewN ?_ _ | refine blk_drew ?_ | refine blk_alloc ?_ _)); exact BK201.out) hb); have n2_ := Aside0.mk (below_step (by repeat (first | (with_reducible first | exact HB.out | apply below_alloc | apply pw_below_drewN | apply below_drew1 | refine below_set ?_ GE201.out) | exact HB.out)) hb); clear HO213; clear BK201; clear HB; have HO213 := n0_; have BK201 := n1_; have HB := n2_; clear n0_ n1_ n2_; (try clear hb); (try clear hb2); (try clear hk); (try clear hi)))
                    go_roundg k1
                    case measure => have := HK1.out; omega
                    case rel => exact ⟨(x3_1 ++ (t214 ++ t215)), (wrap64 (x24_1 + 1)), (by first | rfl | (simp; done) | (simp [*]; done) | (simp; rw [Bool.eq_iff_iff]; simp; done)), (by first | rfl | (simp; done) | (simp [*]; done) | (simp; rw [Bool.eq_iff_iff]; simp; done)), H', ⟨by have := HK1.out; omega⟩, ⟨by (with_reducible repeat (first | refine blk_drewN ?_ _ | refine blk_drew ?_ | refine blk_alloc ?_ _)); exact BK201.out⟩, ⟨by repeat (first | (with_reducible first | exact HB.out | apply below_alloc | apply pw_below_drewN | apply below_drew1 | refine below_set ?_ GE201.out) | exact HB.out)⟩⟩
                  · rw [if_neg c24] at H
                    exact absurd H (by simp)
                · rw [if_neg c23] at H
                  exact absurd H (by simp)
              · rw [if_neg c20] at H
                exact absurd H (by simp)
            · rw [if_neg c19] at H
              exact absurd H (by simp)
          · rw [if_neg c18] at H
            have c18b0 : decide (x24_1 < (l0_1.length : Int)) = false := decide_eq_false c18
            clear c18
            replace H := Option.bind_eq_some_iff.mp H
            obtain ⟨t216, A300, H⟩ := H
            replace H : (if x3_1.size + t216.size ≤ 9223372036854775807 then (some (x3_1 ++ t216)) else (none)) = some r := H
            have A30 := Aside0.mk A300
            clear A300
            by_cases c31 : x3_1.size + t216.size ≤ 9223372036854775807
            · rw [if_pos c31] at H
              have c31b0 := eq_true c31
              have c31b1 : decide (x3_1.size + t216.size ≤ 9223372036854775807) = true := decide_eq_true c31
              try have c31b2 : (9223372036854775807 < x3_1.size + t216.size) = False := eq_false (Nat.not_lt.2 c31)
              obtain rfl := Option.some.inj H
              have hcz32_0 : wr.cell? ⟨gb201, 0, none⟩ = some (.int .i64 a0_0) := (blk_cell BK201.out 0).trans rfl
              have hcz32_1 : wr.cell? ⟨gb201, 1, none⟩ = some (.slice A0_1 l0_1.length c0_1) := (blk_cell BK201.out 1).trans rfl
              have hcz32_2 : wr.cell? ⟨gb201, 2, none⟩ = some (.string a0_2) := (blk_cell BK201.out 2).trans rfl
              have hfz32_0 := blk_frozen BK201.out 0
              have hfz32_1 := blk_frozen BK201.out 1
              have hfz32_2 := blk_frozen BK201.out 2
              go_wp2_with (first | ((with_reducible refine gate_callee (f := 40) rfl ?_); refine goesL_ (some 41) rfl rfl Try.func40 (by kernel_rfl) rfl #[.string a0_2] rfl (by (try simp only [List.map_toArray, List.map_cons, List.map_nil]); first | done | rfl | (simp only [List.length_drop, List.length_take]; rfl)) ?_; (with_reducible refine (varint_Text.calls k1 a0_2 t216 _ A30.out).mono ?_); rintro e w33 ⟨rfl, hb⟩; refine ⟨_, rfl, ?_⟩; have n0_ := Aside0.mk (blk_below (g := gb201) (o := .cells #[.int .i64 a0_0, .slice A0_1 l0_1.length c0_1, .string a0_2] 37 (0, 0)) (by (with_reducible repeat (first | refine blk_drewN ?_ _ | refine blk_drew ?_ | refine blk_alloc ?_ _)); exact BK201.out) hb); have n1_ := Aside0.mk (below_step (by repeat (first | (with_reducible first | exact HB.out | apply below_alloc | apply pw_below_drewN | apply below_drew1 | refine below_set ?_ GE201.out) | exact HB.out)) hb); clear BK201; clear HB; have BK201 := n0_; have HB := n1_; clear n0_ n1_; (try clear hb); (try clear hb2); (try clear hk); (try clear hi)))
              go_ret
              exact ⟨by first | rfl | (simp [errW_none, errW_some] <;> rfl) | (simp [*, errW_none, errW_some] <;> rfl), by repeat (first | (with_reducible first | exact HB.out | apply below_alloc | apply pw_below_drewN | apply below_drew1 | refine below_set ?_ GE201.out) | exact HB.out)⟩
            · rw [if_neg c31] at H
              exact absurd H (by simp)
    · rw [if_neg c5] at H
      exact absurd H (by simp)
  · rw [if_neg c3] at H
    have c3b0 : (a0_0 == 0) = false := beq_eq_false_iff_ne.mpr c3
    have c3b1 : (a0_0 != 0) = true := bne_iff_ne.mpr c3
    obtain rfl := Option.some.inj H
    go_enter Try.func17, Try.ntmps17
    go_wp2_with (first | ((with_reducible refine gate_dst (N := 1) rfl ?_); refine box_event ?hg (N := 1) ?hd (cs := #[.int .i64 a0_0, .slice A0_1 l0_1.length c0_1, .string a0_2]) (t := 37) ?hr ?_; (case hd => rfl); (case hg => rfl); (case hr => first | (go_simp; done) | (go_simp; rfl)); intro gb201 hg w34 hbox hb; have n0_ := Aside0.mk (below_step (by repeat (first | (with_reducible first | exact HB.out | apply below_alloc | apply pw_below_drewN | apply below_drew1) | exact HB.out)) hb); have n1_ := Aside0.mk (hbox); have n2_ := Aside0.mk ((by rw [hg]; exact (below_size (by repeat (first | (with_reducible first | exact HB.out | apply below_alloc | apply pw_below_drewN | apply below_drew1) | exact HB.out))) : w.heap.size ≤ gb201)); have n3_ := Aside0.mk ((by rw [hg]; exact (below_size (by repeat (first | (with_reducible first | exact HB.out | apply below_alloc | apply pw_below_drewN | apply below_drew1) | exact HB.out))) : w.heap.size ≤ gb201)); clear HB; have HB := n0_; have BK201 := n1_; have GW201 := n2_; have GE201 := n3_; clear n0_ n1_ n2_ n3_; clear hb hbox hg; have hcz35_0 : w34.cell? ⟨gb201, 0, none⟩ = some (.int .i64 a0_0) := (blk_cell BK201.out 0).trans rfl; have hcz35_1 : w34.cell? ⟨gb201, 1, none⟩ = some (.slice A0_1 l0_1.length c0_1) := (blk_cell BK201.out 1).trans rfl; have hcz35_2 : w34.cell? ⟨gb201, 2, none⟩ = some (.string a0_2) := (blk_cell BK201.out 2).trans rfl; have hfz35_0 := blk_frozen BK201.out 0; have hfz35_1 := blk_frozen BK201.out 1; have hfz35_2 := blk_frozen BK201.out 2) | ((with_reducible refine gate_dst (N := 8) rfl ?_); refine Kd.R_lit (Kd.int .i64) _ 3 ?hg (N := 8) ?hd (xs := ([a0_0] : List Int)) (inner := [.int .i64 a0_0]) (ok := fun _ => True) (okp := fun _ => True) ?hr ?hp (fun _ hk => hk) trivial (Below.refl _ _) (Nat.le_refl _) (by simp) ?_; (case hd => rfl); (case hg => rfl); (case hr => first | (go_simp; done) | (go_simp; rfl)); (case hp => exact (Reps.one (show Kd.M (Kd.int .i64) _ _ _ a0_0 [.int .i64 a0_0] from rfl) (Reps.none _ _))); intro v203 w36 ho37 hb hg_ hnew_; clear hg_ hnew_; (first | rw [← Ny202.out] at ho37 | (simp only [Int.reduceToNat] at ho37; rw [← Ny202.out] at ho37)); have n0_ := Aside0.mk (Kd.R_lower ho37 (below_size (by repeat (first | (with_reducible first | exact HB.out | apply below_alloc | apply pw_below_drewN | apply below_drew1 | refine below_set ?_ GE201.out) | exact HB.out)))); have n1_ := Aside0.mk (blk_below (g := gb201) (o := .cells #[.int .i64 a0_0, .slice A0_1 l0_1.length c0_1, .string a0_2] 37 (0, 0)) (by (with_reducible repeat (first | refine blk_drewN ?_ _ | refine blk_drew ?_ | refine blk_alloc ?_ _)); exact BK201.out) hb); have n2_ := Aside0.mk (below_step (by repeat (first | (with_reducible first | exact HB.out | apply below_alloc | apply pw_below_drewN | apply below_drew1 | refine below_set ?_ GE201.out) | exact HB.out)) hb); clear BK201; clear HB; have HO204 := n0_; have BK201 := n1_; have HB := n2_; clear n0_ n1_ n2_; clear hb ho37; obtain ⟨Ao38, co38, eo38⟩ := Kd.R_slice HO204.out; subst eo38) | ((with_reducible refine gate_callee (f := 39) rfl ?_); refine goesL_ (some 9) rfl rfl Try.func39 (by kernel_rfl) rfl #[.slice Ao38 y202.length co38] rfl (by (try simp only [List.map_toArray, List.map_cons, List.map_nil]); first | done | rfl | (simp only [List.length_drop, List.length_take]; rfl)) ?_; (with_reducible refine (request_nums.calls k _ _ y202 t205 _ ?side1 ?side2 A2.out).mono ?_); (case side1 => repeat (first | exact (Kd.R_reads' HO204.out).2.2 | (with_reducible refine Kd.C_alloc ?_ _) | (with_reducible refine Kd.C_drewN ?_ _) | (with_reducible refine Kd.C_drew ?_))); (case side2 => exact (Kd.R_reads' HO204.out).2.1); rintro e w39 ⟨rfl, hb⟩; refine ⟨_, rfl, ?_⟩; have n0_ := Aside0.mk (Kd.R_below (by (with_reducible repeat (first | apply Kd.R_alloc | apply Kd.R_drewN | apply Kd.R_drew)); exact HO204.out) hb); have n1_ := Aside0.mk (blk_below (g := gb201) (o := .cells #[.int .i64 a0_0, .slice A0_1 l0_1.length c0_1, .string a0_2] 37 (0, 0)) (by (with_reducible repeat (first | refine blk_drewN ?_ _ | refine blk_drew ?_ | refine blk_alloc ?_ _)); exact BK201.out) hb); have n2_ := Aside0.mk (below_step (by repeat (first | (with_reducible first | exact HB.out | apply below_alloc | apply pw_below_drewN | apply below_drew1 | refine below_set ?_ GE201.out) | exact HB.out)) hb); clear HO204; clear BK201; clear HB; have HO204 := n0_; have BK201 := n1_; have HB := n2_; clear n0_ n1_ n2_; (try clear hb); (try clear hb2); (try clear hk); (try clear hi); have hcz40_0 : w39.cell? ⟨gb201, 0, none⟩ = some (.int .i64 a0_0) := (blk_cell BK201.out 0).trans rfl; have hcz40_1 : w39.cell? ⟨gb201, 1, none⟩ = some (.slice A0_1 l0_1.length c0_1) := (blk_cell BK201.out 1).trans rfl; have hcz40_2 : w39.cell? ⟨gb201, 2, none⟩ = some (.string a0_2) := (blk_cell BK201.out 2).trans rfl; have hfz40_0 := blk_frozen BK201.out 0; have hfz40_1 := blk_frozen BK201.out 1; have hfz40_2 := blk_frozen BK201.out 2))
    go_ret
    exact ⟨by first | rfl | (simp [errW_none, errW_some] <;> rfl) | (simp [*, errW_none, errW_some] <;> rfl), by repeat (first | (with_reducible first | exact HB.out | apply below_alloc | apply pw_below_drewN | apply below_drew1 | refine below_set ?_ GE201.out) | exact HB.out)⟩

-- NOT PRINTED: function 49 (slices_IndexFunc_int_int)

-- NOT PRINTED: function 41 (slices_ContainsFunc_int_int)

-- NOT PRINTED: function 18 (request_Response_Check)


/-! ### dowsertop_DowserCodes: function 5 (own text) -/
section
/-- Numbers that may be. -/
def okN (l : List Int) : Prop := ∀ x ∈ l, 0 ≤ x ∧ x ≤ 2147483647
theorem okN_at {l : List Int} (h : okN l) (i : Nat) (hi : i < l.length) : 0 ≤ rd l (i : Int) ∧ rd l (i : Int) ≤ 2147483647 := by
  have : rd l (i : Int) = l[i] := by unfold rd; rw [Int.toNat_natCast, List.getD_eq_getElem?_getD, List.getElem?_eq_getElem hi]; rfl
  rw [this]; exact h _ (List.getElem_mem hi)
set_option maxHeartbeats 4000000 in
set_option maxRecDepth 100000 in
theorem neg_calls (x : Int) (h0 : 0 ≤ x) (h1 : x ≤ 2147483647) (w : World) : Calls Try.prog 51 #[.int .i64 x] w fun e w' => e = .returned (.bool false) ∧ Drawn0 w w' := by
  have a : decide (x < 0) = false := decide_eq_false (by omega)
  have b : decide (2147483647 < x) = false := decide_eq_false (by omega)
  clear h0 h1
  go_enter Try.func51, Try.ntmps51
  go_wp2
  go_ret
  exact ⟨by first | rfl | (simp; done) | (simp [*]; done), by repeat (first | exact Drawn0.refl _ | apply Drawn0.step)⟩
set_option maxHeartbeats 4000000 in
set_option maxRecDepth 100000 in
theorem index1_calls (A : Option Addr) (c : Nat) (l : List Int) (w : World) (hC : Kd.C (Kd.int .i64) w A l.length l) (hc : l.length ≤ c) (hl : okN l) : Calls Try.prog 54 #[.slice A l.length c, .func (.func 51) #[] #[]] w fun e w' => e = .returned (.int .i64 (-1)) ∧ Drawn0 w w' := by
  have HC := Aside0.mk hC
  have HL := Aside0.mk hl
  have hm := Kd.C_max hC
  have HM := Aside0.mk hm
  clear hC hl hm
  go_enter Try.func54, Try.ntmps54
  go_wp2
  go_loopg [8] l.length (fun kq v8 w' => ∃ i : Nat, v8 = .int .i64 (i : Int) ∧ i ≤ l.length ∧ kq = l.length - i ∧ Aside0 (Drawn0 w w'))
  case atStart => exact ⟨0, rfl, by omega, by omega, ⟨Drawn0.refl _⟩⟩
  case round =>
    obtain ⟨i, rfl, hi, hk, hD⟩ := hrel
    by_cases hlt : i < l.length
    · have hltb : decide (i < l.length) = true := decide_eq_true hlt
      have hltz : (i : Int) < (l.length : Int) := by omega
      have h0z : (0 : Int) ≤ (i : Int) := by omega
      have himax : (i : Int) < 9223372036854775807 := by have := HM.out; omega
      obtain ⟨⟨nd, hnd⟩⟩ := hD.out
      have hg := okN_at HL.out i hlt
      obtain ⟨ad, e1, hx⟩ := Kd.at_int HC.out (i : Int) h0z hltz
      subst e1
      rw [Int.toNat_natCast] at hx
      obtain ⟨z, hz⟩ : ∃ z, z = rd l (i : Int) := ⟨_, rfl⟩
      rw [← hz] at hx hg
      have HG := Aside0.mk hg
      clear hg hz
      subst hnd
      go_wp2_with (go_at_call 51; refine (neg_calls z HG.out.1 HG.out.2 _).mono ?_; rintro e w' ⟨rfl, ⟨m, rfl⟩⟩)
      go_roundg (l.length - (i + 1))
      case measure => omega
      case rel => exact ⟨i + 1, by go_num, by omega, rfl, ⟨⟨_, rfl⟩⟩⟩
    · have hltb : decide (i < l.length) = false := decide_eq_false hlt
      have hltz : ¬ (i : Int) < (l.length : Int) := by omega
      go_wp2_with fail
      go_ret
      exact ⟨rfl, hD.out⟩
set_option maxHeartbeats 4000000 in
set_option maxRecDepth 100000 in
theorem has1_calls (A : Option Addr) (c : Nat) (l : List Int) (w : World) (hC : Kd.C (Kd.int .i64) w A l.length l) (hc : l.length ≤ c) (hl : okN l) : Calls Try.prog 50 #[.slice A l.length c, .func (.func 51) #[] #[]] w fun e w' => e = .returned (.bool false) ∧ Drawn0 w w' := by
  have HC := Aside0.mk hC
  have HL := Aside0.mk hl
  have HCC := Aside0.mk hc
  clear hC hl hc
  go_enter Try.func50, Try.ntmps50
  go_wp2_with (go_at_call 54; (with_reducible refine (index1_calls A c l _ HC.out HCC.out HL.out).mono ?_); rintro e w' ⟨rfl, ⟨m, rfl⟩⟩)
  go_ret
  exact ⟨by first | rfl | (simp; done), by repeat (first | exact Drawn0.refl _ | apply Drawn0.step)⟩
set_option maxHeartbeats 4000000 in
set_option maxRecDepth 100000 in
theorem numbers_calls (A : Option Addr) (c : Nat) (l : List Int) (w : World) (hC : Kd.C (Kd.int .i64) w A l.length l) (hc : l.length ≤ c) (hl : okN l) : Calls Try.prog 43 #[.slice A l.length c] w fun e w' => e = .returned (.bool true) ∧ Drawn0 w w' := by
  have HC := Aside0.mk hC
  have HL := Aside0.mk hl
  have HCC := Aside0.mk hc
  clear hC hl hc
  go_enter Try.func43, Try.ntmps43
  go_wp2_with (go_at_call 50; (with_reducible refine (has1_calls A c l _ HC.out HCC.out HL.out).mono ?_); rintro e w' ⟨rfl, ⟨m, rfl⟩⟩)
  go_ret
  exact ⟨by first | rfl | (simp; done), by repeat (first | exact Drawn0.refl _ | apply Drawn0.step)⟩
set_option maxHeartbeats 4000000 in
set_option maxRecDepth 100000 in
theorem not_calls (A : Option Addr) (c : Nat) (l : List Int) (w : World) (hC : Kd.C (Kd.int .i64) w A l.length l) (hc : l.length ≤ c) (hl : okN l) : Calls Try.prog 42 #[.slice A l.length c] w fun e w' => e = .returned (.bool false) ∧ Drawn0 w w' := by
  have HC := Aside0.mk hC
  have HL := Aside0.mk hl
  have HCC := Aside0.mk hc
  clear hC hl hc
  go_enter Try.func42, Try.ntmps42
  go_wp2_with (go_at_call 43; (with_reducible refine (numbers_calls A c l _ HC.out HCC.out HL.out).mono ?_); rintro e w' ⟨rfl, ⟨m, rfl⟩⟩)
  go_ret
  exact ⟨by first | rfl | (simp; done), by repeat (first | exact Drawn0.refl _ | apply Drawn0.step)⟩
/-- Lists of numbers that may be. -/
def okL (ll : List (List Int)) : Prop := ∀ l ∈ ll, okN l
theorem okL_at {ll : List (List Int)} (h : okL ll) (i : Nat) (hi : i < ll.length) : okN (rd_L2 ll (i : Int)) := by
  have : rd_L2 ll (i : Int) = ll[i] := by unfold rd_L2; rw [Int.toNat_natCast, List.getD_eq_getElem?_getD, List.getElem?_eq_getElem hi]; rfl
  rw [this]; exact h _ (List.getElem_mem hi)
set_option maxHeartbeats 4000000 in
set_option maxRecDepth 100000 in
theorem index2_calls (A : Option Addr) (c : Nat) (l : List (List Int)) (w : World) (hC : Kd.C (Kd.slice 3 (Kd.int .i64)) w A l.length l) (hc : l.length ≤ c) (hl : okL l) : Calls Try.prog 49 #[.slice A l.length c, .func (.func 42) #[] #[]] w fun e w' => e = .returned (.int .i64 (-1)) ∧ Drawn0 w w' := by
  have HC := Aside0.mk hC
  have HL := Aside0.mk hl
  have hm := Kd.C_max hC
  have HM := Aside0.mk hm
  clear hC hl hm
  go_enter Try.func49, Try.ntmps49
  go_wp2
  go_loopg [8] l.length (fun kq v8 w' => ∃ i : Nat, v8 = .int .i64 (i : Int) ∧ i ≤ l.length ∧ kq = l.length - i ∧ Aside0 (Drawn0 w w'))
  case atStart => exact ⟨0, rfl, by omega, by omega, ⟨Drawn0.refl _⟩⟩
  case round =>
    obtain ⟨i, rfl, hi, hk, hD⟩ := hrel
    by_cases hlt : i < l.length
    · have hltb : decide (i < l.length) = true := decide_eq_true hlt
      have hltz : (i : Int) < (l.length : Int) := by omega
      have h0z : (0 : Int) ≤ (i : Int) := by omega
      have himax : (i : Int) < 9223372036854775807 := by have := HM.out; omega
      obtain ⟨⟨nd, hnd⟩⟩ := hD.out
      have hg := okL_at HL.out i hlt
      obtain ⟨ad, A1, c1, e1, hx, hl1, hC1⟩ := at_L2 HC.out (i : Int) h0z hltz
      subst e1
      rw [Int.toNat_natCast] at hx
      obtain ⟨z, hz⟩ : ∃ z, z = rd_L2 l (i : Int) := ⟨_, rfl⟩
      rw [← hz] at hx hg hl1 hC1
      have HG := Aside0.mk hg
      have HL1 := Aside0.mk hl1
      have HC1 := Aside0.mk hC1
      clear hg hz hl1 hC1
      subst hnd
      go_wp2_with (go_at_call 42; refine (not_calls A1 c1 z _ (by first | exact HC1.out | exact Kd.C_drewN HC1.out _) HL1.out HG.out).mono ?_; rintro e w' ⟨rfl, ⟨m, rfl⟩⟩)
      go_roundg (l.length - (i + 1))
      case measure => omega
      case rel => exact ⟨i + 1, by go_num, by omega, rfl, ⟨⟨_, rfl⟩⟩⟩
    · have hltb : decide (i < l.length) = false := decide_eq_false hlt
      have hltz : ¬ (i : Int) < (l.length : Int) := by omega
      go_wp2_with fail
      go_ret
      exact ⟨rfl, hD.out⟩
set_option maxHeartbeats 4000000 in
set_option maxRecDepth 100000 in
theorem has2_calls (A : Option Addr) (c : Nat) (l : List (List Int)) (w : World) (hC : Kd.C (Kd.slice 3 (Kd.int .i64)) w A l.length l) (hc : l.length ≤ c) (hl : okL l) : Calls Try.prog 41 #[.slice A l.length c, .func (.func 42) #[] #[]] w fun e w' => e = .returned (.bool false) ∧ Drawn0 w w' := by
  have HC := Aside0.mk hC
  have HL := Aside0.mk hl
  have HCC := Aside0.mk hc
  clear hC hl hc
  go_enter Try.func41, Try.ntmps41
  go_wp2_with (go_at_call 49; (with_reducible refine (index2_calls A c l _ HC.out HCC.out HL.out).mono ?_); rintro e w' ⟨rfl, ⟨m, rfl⟩⟩)
  go_ret
  exact ⟨by first | rfl | (simp; done), by repeat (first | exact Drawn0.refl _ | apply Drawn0.step)⟩
set_option maxHeartbeats 8000000 in
set_option maxRecDepth 100000 in
theorem check_calls (A : Option Addr) (c : Nat) (l : List (List Int)) (w : World) (hC : Kd.C (Kd.slice 3 (Kd.int .i64)) w A l.length l) (hc : l.length ≤ c) (hl : okL l) (h8 : l.length ≤ 8) : Calls Try.prog 18 #[.agg #[.int .i64 0, .slice A l.length c, .string ⟨#[]⟩]] w fun e w' => e = .returned (.int .i64 0) ∧ Below w.heap.size w w' := by
  have HC := Aside0.mk (Kd.C_below hC (below_alloc (Below.refl w.heap.size w) (.cells #[.int .i64 0, .slice A l.length c, .string ⟨#[]⟩] 37)))
  have HL := Aside0.mk hl
  have HCC := Aside0.mk hc
  have h8b : decide ((8 : Int) < (l.length : Int)) = false := decide_eq_false (by omega)
  have h8c : decide (8 < l.length) = false := decide_eq_false (by omega)
  have hu37 := Try.underlying37
  clear hC hl hc h8
  go_enter Try.func18, Try.ntmps18
  go_wp2_with (go_at_call 41; (with_reducible refine (has2_calls A c l _ HC.out HCC.out HL.out).mono ?_); rintro e w' ⟨rfl, ⟨m, rfl⟩⟩)
  go_ret
  exact ⟨by first | rfl | (simp; done), by repeat (first | exact Below.refl _ _ | apply below_alloc | apply pw_below_drewN)⟩
/-- What the law answers: all that it asks, of the list's first 40 numbers. -/
def dowsertop_DowserCodes.f (l0 : List Int) : Option Bool :=
  (setcode_Encode.f 20000 (l0.take 40)).bind fun e => (if e.2 = 0 then ((request_Response_Encode.f 20000 0 [l0.take 40] ⟨#[]⟩).bind fun s => ((request_Parse.f 20000 s).bind fun p => ((setcode_Decode.f 20000 e.1).bind fun d => (if p = (0, [l0.take 40], ⟨#[]⟩, 0) ∧ d = (l0.take 40, 0) ∧ ((l0.take 40).all fun x => decide (0 ≤ x ∧ x ≤ 2147483647)) = true then some true else none)))) else (if e = (⟨#[]⟩, 1) then some true else none))
theorem one_row {w : World} {g : Nat} {A0 : Option Addr} {c0 : Nat} {l : List Int} (hb : w.heap[g]? = some (.cells #[.slice A0 l.length c0] 22 (0, 0))) (hC : Kd.C (Kd.int .i64) w A0 l.length l) (hc : l.length ≤ c0) : Kd.C (Kd.slice 3 (Kd.int .i64)) w (some ⟨g, 0, none⟩) [l].length [l] := by
  refine ⟨rfl, by simp, fun _ => ⟨_, rfl, fun j p hj => ?_⟩⟩
  match j with
  | 0 =>
    obtain rfl : l = p := by simpa using hj
    refine ⟨[.slice A0 l.length c0], rfl, ⟨A0, c0, rfl, hc, hC⟩, fun i u hu => ?_⟩
    match i with
    | 0 =>
      have := blk_cell hb 0
      simpa [Addr.add] using this.trans hu
    | i + 1 => simp at hu
  | j + 1 => simp at hj
set_option maxHeartbeats 8000000 in
set_option maxRecDepth 100000 in
theorem dowsertop_DowserCodes.calls (A0 : Option Addr) (c0 : Nat) (l0 : List Int) (r : Bool) (w : World) (hr0 : Kd.C (Kd.int .i64) w A0 l0.length l0) (hc0 : l0.length ≤ c0) (h : dowsertop_DowserCodes.f l0 = some r) :
    Calls Try.prog 5 #[.slice A0 l0.length c0] w fun e w' => e = .returned (.bool r) ∧ Below w.heap.size w w' := by
  unfold dowsertop_DowserCodes.f at h
  have hcl : (l0.take 40).length ≤ c0 := by rw [List.length_take]; omega
  have hC : Kd.C (Kd.int .i64) w A0 (l0.take 40).length (l0.take 40) := by
    by_cases h40 : 40 ≤ l0.length
    · exact Kd.C_take hr0 h40
    · rw [List.take_of_length_le (by omega)]; exact hr0
  have hl40 : (l0.take 40).length ≤ 40 := by rw [List.length_take]; omega
  have hlen : (l0.take 40).length = if l0.length > 40 then 40 else l0.length := by rw [List.length_take]; split <;> omega
  obtain ⟨l, hl⟩ : ∃ l, l = l0.take 40 := ⟨_, rfl⟩
  rw [← hl] at h hcl hC hl40 hlen
  have HCL := Aside0.mk hcl
  have HC := Aside0.mk hC
  have HL40 := Aside0.mk hl40
  have HLEN := Aside0.mk hlen
  have HC0 := Aside0.mk hc0
  have HH := Aside0.mk h
  have hm := Kd.C_max hr0
  clear hcl hC hl40 hlen hr0 h hl
  go_enter Try.func5, Try.ntmps5
  go_upto_if 13 with fail
  go_cut [0] (fun v0 wx => v0 = .slice A0 l.length c0 ∧ wx = w)
  case first =>
    by_cases h40 : l0.length > 40
    · have a1 : decide ((40 : Int) < (l0.length : Int)) = true := decide_eq_true (by omega)
      have a2 : decide (40 < l0.length) = true := decide_eq_true (by omega)
      have a3 : (40 : Int) ≤ (c0 : Int) := by omega
      have a4 : 40 ≤ c0 := by omega
      have e : l.length = 40 := by have := HLEN.out; rw [if_pos h40] at this; exact this
      go_wp2_with fail
      go_meet
      exact ⟨by rw [e], rfl⟩
    · have a1 : decide ((40 : Int) < (l0.length : Int)) = false := decide_eq_false (by omega)
      have a2 : decide (40 < l0.length) = false := decide_eq_false (by omega)
      have e : l.length = l0.length := by have := HLEN.out; rw [if_neg h40] at this; exact this
      go_wp2_with fail
      go_meet
      exact ⟨by rw [e], rfl⟩
  case rest =>
    obtain ⟨rfl, rfl⟩ := hcut
    have h := HH.out
    clear HH hm
    obtain ⟨⟨s, er⟩, g1, h⟩ := Option.bind_eq_some_iff.mp h
    have G1 := Aside0.mk g1
    dsimp only at h
    by_cases c : er = 0
    · rw [if_pos c] at h
      subst c
      obtain ⟨t, g2, h⟩ := Option.bind_eq_some_iff.mp h
      obtain ⟨p, g3, h⟩ := Option.bind_eq_some_iff.mp h
      obtain ⟨d, g4, h⟩ := Option.bind_eq_some_iff.mp h
      by_cases cc : p = (0, [l], ⟨#[]⟩, 0) ∧ d = (l, 0) ∧ (l.all fun x => decide (0 ≤ x ∧ x ≤ 2147483647)) = true
      · rw [if_pos cc] at h
        obtain rfl := Option.some.inj h
        obtain ⟨rfl, rfl, hall⟩ := cc
        have HOK := Aside0.mk (show okL [l] from fun l' hl' => by
          rw [List.mem_singleton] at hl'; subst hl'
          intro x hx
          have := List.all_eq_true.1 hall x hx
          simpa using this)
        have G2 := Aside0.mk g2
        have G3 := Aside0.mk g3
        have G4 := Aside0.mk g4
        have hu37 := Try.underlying37
        clear g1 g2 g3 g4 h hall
        go_wp2_with (go_at_call 10; (with_reducible refine (setcode_Encode.calls 20000 A0 c0 l s 0 _ HC.out HCL.out G1.out).mono ?_); rintro e w1 ⟨rfl, hb1⟩; have HB1 := Aside0.mk hb1; clear hb1)
        have hbl : ((w1.alloc (.cells #[.slice A0 l.length c0] 22)).alloc (.cells #[.int .i64 0, .slice (some ⟨w1.heap.size, 0, none⟩) 1 1, .string ⟨#[]⟩] 37)).heap[w1.heap.size]? = some (.cells #[.slice A0 l.length c0] 22 (0, 0)) := blk_alloc (blk_new _ _) _
        have hbk : ((w1.alloc (.cells #[.slice A0 l.length c0] 22)).alloc (.cells #[.int .i64 0, .slice (some ⟨w1.heap.size, 0, none⟩) 1 1, .string ⟨#[]⟩] 37)).heap[w1.heap.size + 1]? = some (.cells #[.int .i64 0, .slice (some ⟨w1.heap.size, 0, none⟩) 1 1, .string ⟨#[]⟩] 37 (0, 0)) := by
          have := blk_new (w1.alloc (.cells #[.slice A0 l.length c0] 22)) (.cells #[.int .i64 0, .slice (some ⟨w1.heap.size, 0, none⟩) 1 1, .string ⟨#[]⟩] 37)
          simpa using this
        have hbb : Below w1.heap.size w1 ((w1.alloc (.cells #[.slice A0 l.length c0] 22)).alloc (.cells #[.int .i64 0, .slice (some ⟨w1.heap.size, 0, none⟩) 1 1, .string ⟨#[]⟩] 37)) := below_alloc (below_alloc (Below.refl _ _) _) _
        obtain ⟨gl, hgl⟩ : ∃ g, g = w1.heap.size := ⟨_, rfl⟩
        obtain ⟨gp, hgp⟩ : ∃ g, g = w1.heap.size + 1 := ⟨_, rfl⟩
        obtain ⟨W2, hW2⟩ : ∃ W, W = ((w1.alloc (.cells #[.slice A0 l.length c0] 22)).alloc (.cells #[.int .i64 0, .slice (some ⟨w1.heap.size, 0, none⟩) 1 1, .string ⟨#[]⟩] 37)) := ⟨_, rfl⟩
        rw [← hW2] at hbl hbk hbb
        rw [← hgl] at hbl
        rw [← hgp, ← hgl] at hbk
        rw [← hW2, ← hgp, ← hgl]
        have HB2 := Aside0.mk (below_then HB1.out HB1.out.size hbb)
        have HBK := Aside0.mk hbk
        have HC2 := Aside0.mk (one_row hbl (Kd.C_below HC.out HB2.out) HCL.out)
        have p0 := blk_cell hbk 0
        have p1 := blk_cell hbk 1
        have p2 := blk_cell hbk 2
        clear hbl hbk hbb hgl hgp hW2
        go_wp2_with (first | (go_at_call 17; (refine (request_Response_Encode.calls 20000 0 (some ⟨gl, 0, none⟩) 1 [l] ⟨#[]⟩ t _ HC2.out (by simp) G2.out).mono ?_); rintro e w3 ⟨rfl, hb3⟩; have HB3 := Aside0.mk hb3; clear hb3) | (go_at_call 16; (with_reducible refine (request_Parse.calls 20000 t 0 [l] ⟨#[]⟩ 0 _ G3.out).mono ?_); rintro e w4 ⟨v4, rfl, hs4, hb4⟩; obtain ⟨gv, cv, hv4, _, _, _⟩ := Kd.S_form hs4 (by simp); subst hv4; have HS4 := Aside0.mk hs4; have HB4 := Aside0.mk hb4; clear hs4 hb4))
        have hbn : (w4.alloc (.cells #[.int .i64 0, .slice (some ⟨gv, 0, none⟩) 1 cv, .string ⟨#[]⟩] 37)).heap[w4.heap.size]? = some (.cells #[.int .i64 0, .slice (some ⟨gv, 0, none⟩) 1 cv, .string ⟨#[]⟩] 37 (0, 0)) := blk_new _ _
        have hb45 := below_alloc (Below.refl w4.heap.size w4) (.cells #[.int .i64 0, .slice (some ⟨gv, 0, none⟩) 1 cv, .string ⟨#[]⟩] 37)
        obtain ⟨gb, hgb⟩ : ∃ g, g = w4.heap.size := ⟨_, rfl⟩
        obtain ⟨W5, hW5⟩ : ∃ W, W = w4.alloc (.cells #[.int .i64 0, .slice (some ⟨gv, 0, none⟩) 1 cv, .string ⟨#[]⟩] 37) := ⟨_, rfl⟩
        rw [← hgb, ← hW5] at hbn
        rw [← hW5] at hb45
        rw [← hgb, ← hW5]
        refine (setcode_Decode.calls 20000 s l 0 _ G4.out).mono ?_
        rintro e w6 ⟨v8, rfl, hR8, hb6⟩
        have HB24 := below_then HB3.out HB3.out.size HB4.out
        have HB26 := below_then HB24 HB24.size (below_then hb45 hb45.size hb6)
        have HBW := Aside0.mk (below_then HB2.out HB2.out.size HB26)
        have HBP := Aside0.mk (blk_below HBK.out HB26)
        have HC6 := Aside0.mk (Kd.C_below HC2.out HB26)
        have q1 := blk_cell (blk_below hbn hb6) 1
        have hbk4 := Kd.C_below (Kd.S_reads' HS4.out).2.2 (below_then hb45 hb45.size hb6)
        obtain ⟨ad, A1, c1, e1, hx, hl1, hC1⟩ := at_L2 hbk4 0 (by omega) (by simp)
        cases e1
        have hx1 : w6.cell? ⟨gv, 0, none⟩ = some (.slice A1 l.length c1) := by simpa [Addr.add, rd_L2] using hx
        have HC1 := Aside0.mk (show Kd.C (Kd.int .i64) w6 A1 l.length l from by simpa [rd_L2] using hC1)
        obtain ⟨A8, c8, hv8, hc8, hC8⟩ := Kd.R_reads hR8
        subst hv8
        have HC8 := Aside0.mk hC8
        have HCW := Aside0.mk (Kd.C_below HC.out HBW.out)
        have r0 := blk_cell HBP.out 0
        have r1 := blk_cell HBP.out 1
        have r2 := blk_cell HBP.out 2
        clear p0 p1 p2 hbn hb45 hgb hW5 HB24 HB26 hbk4 hx hl1 hC1 hR8 hb6 hc8 hC8 HC2 HBK HB3 HB4 HS4
        go_wp2_with fail
        go_loopg [67] l.length (fun kq v67 w' => ∃ i : Nat, v67 = .int .i64 (i : Int) ∧ i ≤ l.length ∧ kq = l.length - i ∧ Aside0 (Drawn0 w6 w'))
        case atStart => exact ⟨0, rfl, by omega, by omega, ⟨Drawn0.refl _⟩⟩
        case round =>
          obtain ⟨i, rfl, hi, hk, hD⟩ := hrel
          obtain ⟨⟨nd, hnd⟩⟩ := hD.out
          by_cases hlt : i < l.length
          · have hltb : decide (i < l.length) = true := decide_eq_true hlt
            have hltz : (i : Int) < (l.length : Int) := by omega
            have h0z : (0 : Int) ≤ (i : Int) := by omega
            have himax : (i : Int) < 9223372036854775807 := by have := HL40.out; omega
            obtain ⟨ad0, e0, y0⟩ := Kd.at_int HCW.out (i : Int) h0z hltz
            obtain ⟨ad1, e1, y1⟩ := Kd.at_int HC1.out (i : Int) h0z hltz
            obtain ⟨ad8, e8, y8⟩ := Kd.at_int HC8.out (i : Int) h0z hltz
            subst e0 e1 e8
            rw [Int.toNat_natCast] at y0 y1 y8
            obtain ⟨z, hz⟩ : ∃ z, z = rd l (i : Int) := ⟨_, rfl⟩
            rw [← hz] at y0 y1 y8
            have hzz : (z == z) = true := beq_self_eq_true z
            have hzn : (z != z) = false := by simp
            subst hnd
            clear hz
            go_wp2_with fail
            go_region_held3 (fun w' => (w'.cell? (ad0.add i) = some (.int .i64 z) ∧ w'.cell? (ad1.add i) = some (.int .i64 z) ∧ w'.cell? (ad8.add i) = some (.int .i64 z)) ∧ (w'.cell? ⟨gb, 1, none⟩ = some (.slice (some ⟨gv, 0, none⟩) 1 cv) ∧ w'.cell? ⟨gv, 0, none⟩ = some (.slice (some ad1) l.length c1))) (exact ⟨⟨y0, y1, y8⟩, q1, hx1⟩) (fail)
            go_wp2
            go_roundg (l.length - (i + 1))
            case measure => omega
            case rel => exact ⟨i + 1, by go_num, by omega, rfl, ⟨⟨_, rfl⟩⟩⟩
          · have hltb : decide (i < l.length) = false := decide_eq_false hlt
            have hltz : ¬ (i : Int) < (l.length : Int) := by omega
            subst hnd
            go_wp2_with (go_at_call 18; (refine (check_calls (some ⟨gl, 0, none⟩) 1 [l] _ (Kd.C_drewN HC6.out nd) (by simp) HOK.out (by simp)).mono ?_); rintro e w9 ⟨rfl, hb9⟩; have HB9 := Aside0.mk hb9; clear hb9)
            go_ret
            exact ⟨by first | rfl | (simp; done), below_then (pw_below_drewN HBW.out nd) (by have := HBW.out.size; exact this) HB9.out⟩
      · rw [if_neg cc] at h; cases h
    · rw [if_neg c] at h
      by_cases cc : ((s, er) : ByteArray × Int) = (⟨#[]⟩, 1)
      · rw [if_pos cc] at h
        obtain rfl := Option.some.inj h
        injection cc with q1 q2
        subst q1 q2
        clear g1 h c
        go_wp2_with (go_at_call 10; (with_reducible refine (setcode_Encode.calls 20000 A0 c0 l ⟨#[]⟩ 1 _ HC.out HCL.out G1.out).mono ?_); rintro e w1 ⟨rfl, hb1⟩; have HB1 := Aside0.mk hb1; clear hb1)
        go_ret
        exact ⟨by first | rfl | (simp; done), by repeat (first | exact HB1.out | apply below_alloc | apply pw_below_drewN | apply below_drew1)⟩
      · rw [if_neg cc] at h; cases h
end

/-- THE ONE PURE STATEMENT of dowsertop_DowserCodes: yours. -/
def dowsertop_DowserCodes.Pure : Prop := ∀ (l0 : List Int), l0.length ≤ maxLen → l0.length * 8 ≤ 140737488351232 → (∀ x ∈ l0, (Lit.int .i64 x).wf = true) → dowsertop_DowserCodes.f l0 = some true
theorem dowsertop_DowserCodes.walk (P : dowsertop_DowserCodes.Pure) (a0 : Option Addr) (len0 cap0 : Nat) (z0 : List Int) (w : World) (w0 : (a0 = none ∧ len0 = 0 ∧ cap0 = 0 ∧ z0 = []) ∨ ∃ x, a0 = some x ∧ len0 ≤ cap0 ∧ cap0 ≤ maxLen ∧ z0.length = cap0 ∧ (∀ i, i < z0.length → w.cell? (x.add i) = some (.int .i64 (z0.getD i 0))) ∧ ∀ n ∈ z0, (Lit.int .i64 n).wf = true) (y0 : len0 * 8 ≤ 140737488351232) :
    Calls Try.prog 5 #[.slice a0 len0 cap0] w fun e w' => e = .returned (.bool true) ∧ Below w.heap.size w w' := by
  obtain ⟨l0, rfl, hr0, hm0, hw0, hc0⟩ := ReadsInt.ofRowC w0
  have h := P l0 hm0 y0 hw0
  refine (dowsertop_DowserCodes.calls _ _ l0 true w (Kd.C_of_reads (d := (0 : Int)) (h1 := fun _ => rfl) hr0) hc0 h).mono ?_
  rintro e w' ⟨rfl, hd⟩
  exact ⟨rfl, hd⟩

end Go.Proofs.Ytefiadhmcdfdoaa.PD

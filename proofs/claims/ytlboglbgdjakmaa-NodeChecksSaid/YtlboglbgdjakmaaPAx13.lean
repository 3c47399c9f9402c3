-- Written by this session's own program wip/bin/dprint.py, over the kit's print.py, with own texts for some functions: no print of print.sh's
import Derived.Test.YtlboglbgdjakmaaPAx0
import Derived.Test.YtlboglbgdjakmaaPAx11
import Derived.Test.YtlboglbgdjakmaaPAx12
namespace Go.Proofs.Ytlboglbgdjakmaa.PA
open Go.RowKit Go.Proofs.YtlboglbgdjakmaaW.PrintWords Go.Proofs.YtlboglbgdjakmaaW.PrintLast Go.Proofs.YtlboglbgdjakmaaW.PrintMore
attribute [local go_sem] max2_int min2_int max_two min_two max_three min_three max_four min_four   -- for this text's walks alone
set_option linter.unusedVariables false
set_option linter.unusedSimpArgs false

-- NOT PRINTED: function 42 (strings_Builder_String)


/-! ### node_Node_Pack: function 17 (own text) -/
def node_Node_Pack.l0 : Nat → Int → List ByteArray → List ByteArray → List Int → Nat → List UInt8 → Option ByteArray
  | 0, _, _, _, _, _, _ => none
  | k + 1, a, l1, l2, l3, i, acc => if i < l1.length then (node_Node_entry.f k a l1 l2 l3 (i : Int)).bind fun t => (if acc.length + t.size ≤ 140737488355328 then node_Node_Pack.l0 k a l1 l2 l3 (i + 1) (acc ++ t.data.toList) else none) else some ⟨acc.toArray⟩
def node_Node_Pack.f (k : Nat) (a0_0 : Int) (l0_1 : List ByteArray) (l0_2 : List ByteArray) (l0_3 : List Int) : Option ByteArray := if l0_1.length ≤ 9223372036854775807 then (varint_Num.f k (l0_1.length : Int)).bind fun t => (if t.size ≤ 140737488355328 then node_Node_Pack.l0 k a0_0 l0_1 l0_2 l0_3 0 t.data.toList else none) else none
theorem node_Node_Pack.mono_l : ∀ k a l1 l2 l3 i acc, LeO (node_Node_Pack.l0 k a l1 l2 l3 i acc) (node_Node_Pack.l0 (k + 1) a l1 l2 l3 i acc)
  | 0 => fun _ _ _ _ _ _ => LeO.none _
  | k + 1 => fun a l1 l2 l3 i acc => by
    have ih := node_Node_Pack.mono_l k
    unfold node_Node_Pack.l0
    exact LeO.ite (LeO.bind (node_Node_entry.mono _ _ _ _ _ _) (fun t => LeO.ite (ih _ _ _ _ _ _) (LeO.refl _))) (LeO.refl _)
theorem node_Node_Pack.mono : ∀ a0 a1 a2 a3 k, LeO (node_Node_Pack.f k a0 a1 a2 a3) (node_Node_Pack.f (k + 1) a0 a1 a2 a3) := by
  intro a0 a1 a2 a3 k
  unfold node_Node_Pack.f
  exact LeO.ite (LeO.bind (varint_Num.mono _ _) (fun t => LeO.ite (node_Node_Pack.mono_l _ _ _ _ _ _ _) (LeO.refl _))) (LeO.refl _)
theorem node_Node_Pack.calls (k : Nat) (a0_0 : Int) (A0_1 : Option Addr) (c0_1 : Nat) (l0_1 : List ByteArray) (A0_2 : Option Addr) (c0_2 : Nat) (l0_2 : List ByteArray) (A0_3 : Option Addr) (c0_3 : Nat) (l0_3 : List Int) (r : ByteArray) (w : World) (hr0_1 : Kd.C Kd.string w A0_1 l0_1.length l0_1) (hc0_1 : l0_1.length ≤ c0_1) (hr0_2 : Kd.C Kd.string w A0_2 l0_2.length l0_2) (hc0_2 : l0_2.length ≤ c0_2) (hr0_3 : Kd.C (Kd.int .i64) w A0_3 l0_3.length l0_3) (hc0_3 : l0_3.length ≤ c0_3) (h : node_Node_Pack.f k a0_0 l0_1 l0_2 l0_3 = some r) :
    Calls Try.prog 17 #[.agg #[.int .i64 a0_0, .slice A0_1 l0_1.length c0_1, .slice A0_2 l0_2.length c0_2, .slice A0_3 l0_3.length c0_3]] w fun e w' => e = .returned (.string r) ∧ Below w.heap.size w w' := by
  have HR1 := Aside0.mk hr0_1
  have HC1 := Aside0.mk hc0_1
  have HR2 := Aside0.mk hr0_2
  have HC2 := Aside0.mk hc0_2
  have HR3 := Aside0.mk hr0_3
  have HC3 := Aside0.mk hc0_3
  have hm := Kd.C_max hr0_1
  clear hr0_1 hr0_2 hr0_3 hc0_1 hc0_2 hc0_3
  unfold node_Node_Pack.f at h
  rw [if_pos hm] at h
  obtain ⟨t, h1, h⟩ := Option.bind_eq_some_iff.mp h
  have H1 := Aside0.mk h1
  by_cases c : t.size ≤ 140737488355328
  · rw [if_pos c] at h
    have H2 := Aside0.mk h
    have HL := Aside0.mk (show node_Node_Len.f a0_0 l0_1 l0_2 l0_3 = some (l0_1.length : Int) from rfl)
    clear h h1
    go_enter Try.func17, Try.ntmps17
    go_wp2_with fail
    refine (node_Node_Len.calls a0_0 A0_1 c0_1 l0_1 A0_2 c0_2 l0_2 A0_3 c0_3 l0_3 _ _ (Kd.C_alloc (Kd.C_alloc HR1.out _) _) HC1.out (Kd.C_alloc (Kd.C_alloc HR2.out _) _) HC2.out (Kd.C_alloc (Kd.C_alloc HR3.out _) _) HC3.out HL.out).mono ?_
    rintro e w1 ⟨rfl, hb1⟩
    go_wp2_with fail
    refine (varint_Num.calls k _ t _ H1.out).mono ?_
    rintro e w2 ⟨rfl, hb2⟩
    obtain ⟨wa, hwa⟩ : ∃ wa, wa = w.alloc (.cells #[.int .i64 a0_0, .slice A0_1 l0_1.length c0_1, .slice A0_2 l0_2.length c0_2, .slice A0_3 l0_3.length c0_3] 29) := ⟨_, rfl⟩
    have hsz : wa.heap.size = w.heap.size + 1 := by rw [hwa]; simp
    have hbox : wa.heap[w.heap.size]? = some (.cells #[.int .i64 a0_0, .slice A0_1 l0_1.length c0_1, .slice A0_2 l0_2.length c0_2, .slice A0_3 l0_3.length c0_3] 29 (0, 0)) := by rw [hwa]; exact blk_new _ _
    have hba : Below w.heap.size w wa := by rw [hwa]; exact below_alloc (Below.refl _ _) _
    rw [← hwa] at hb1
    have hb12 : Below (wa.alloc (.cells #[.pointer none, .slice none 0 0] 67)).heap.size (wa.alloc (.cells #[.pointer none, .slice none 0 0] 67)) w2 := hb1.trans (hb2.mono hb1.size)
    have hH : Go.Proofs.Ytlboglbgdjakmaa.Bld.Holds (w.heap.size + 1) (w.heap.size + 1) [] w2 := by
      have := (Go.Proofs.Ytlboglbgdjakmaa.Bld.Holds.fresh wa).below hb12
      rw [hsz] at this
      exact this
    have hB2 : Below (w.heap.size + 1) wa w2 := by
      have h3 : Below wa.heap.size wa w2 := below_step (below_alloc (Below.refl _ _) _) hb12
      rw [hsz] at h3
      exact h3
    go_wp2_with fail
    refine (Go.Proofs.Ytlboglbgdjakmaa.Bld.write (w.heap.size + 1) (w.heap.size + 1) [] t _ hH (by rw [List.length_nil, Nat.zero_add]; exact c) (by have := hB2.size; omega)).mono ?_
    rintro e w3 ⟨rfl, hH3, hb3⟩
    rw [List.nil_append] at hH3
    have hB3 : Below (w.heap.size + 1) wa w3 := hB2.trans hb3
    have HH := Aside0.mk hH3
    have hbx : w3.heap[w.heap.size]? = some (.cells #[.int .i64 a0_0, .slice A0_1 l0_1.length c0_1, .slice A0_2 l0_2.length c0_2, .slice A0_3 l0_3.length c0_3] 29 (0, 0)) := by rw [hB3.block _ (Nat.lt_succ_self _)]; exact hbox
    have HX := Aside0.mk hbx
    have HB := Aside0.mk (hba.trans (hB3.mono (Nat.le_succ _)))
    have hc0 := Lib.cell_of_heap hbx 0
    have hc1 := Lib.cell_of_heap hbx 1
    have hc2 := Lib.cell_of_heap hbx 2
    have hc3 := Lib.cell_of_heap hbx 3
    simp only [List.getElem?_toArray, List.getElem?_cons_zero, List.getElem?_cons_succ] at hc0 hc1 hc2 hc3
    clear hH hB2 hb1 hb2 hb3 hb12 hH3 hB3 hbx hba hbox hsz hwa
    go_wp2
    clear hc0 hc1 hc2 hc3
    go_loopg [4, 13] k (fun kq v4 v13 w' => ∃ (i : Nat) (acc : List UInt8), v13 = .int .i64 (i : Int) ∧ Aside0 (node_Node_Pack.l0 kq a0_0 l0_1 l0_2 l0_3 i acc = some r) ∧ Aside0 (kq ≤ k) ∧ Aside0 (Go.Proofs.Ytlboglbgdjakmaa.Bld.Holds (w.heap.size + 1) (w.heap.size + 1) acc w') ∧ Aside0 (Below w.heap.size w w') ∧ Aside0 (w'.heap[w.heap.size]? = some (.cells #[.int .i64 a0_0, .slice A0_1 l0_1.length c0_1, .slice A0_2 l0_2.length c0_2, .slice A0_3 l0_3.length c0_3] 29 (0, 0))))
    case atStart => exact ⟨0, t.data.toList, rfl, H2, ⟨Nat.le_refl _⟩, HH, HB, HX⟩
    case round =>
      obtain ⟨i, acc, rfl, hl, hk, hh, hbw, hx⟩ := hrel
      clear HH HB H2 HX HL
      have hlt1 := hh.out.lt
      cases gk with
      | zero => exact absurd hl.out (by simp [node_Node_Pack.l0])
      | succ k1 =>
        have H := hl.out
        clear hl
        unfold node_Node_Pack.l0 at H
        by_cases hi : i < l0_1.length
        · rw [if_pos hi] at H
          obtain ⟨t2, g1, H⟩ := Option.bind_eq_some_iff.mp H
          have G1 := Aside0.mk g1
          by_cases c3 : acc.length + t2.size ≤ 140737488355328
          · rw [if_pos c3] at H
            have G2 := Aside0.mk H
            clear H g1
            have c4 : decide (i < l0_1.length) = true := decide_eq_true hi
            have hil : (i : Int) < 9223372036854775807 := by omega
            have hc0 := Lib.cell_of_heap hx.out 0
            have hc1 := Lib.cell_of_heap hx.out 1
            have hc2 := Lib.cell_of_heap hx.out 2
            have hc3 := Lib.cell_of_heap hx.out 3
            simp only [List.getElem?_toArray, List.getElem?_cons_zero, List.getElem?_cons_succ] at hc0 hc1 hc2 hc3
            go_wp2_with fail
            refine (node_Node_entry.calls k1 a0_0 A0_1 c0_1 l0_1 A0_2 c0_2 l0_2 A0_3 c0_3 l0_3 (i : Int) t2 _ (Kd.C_below HR1.out hbw.out) HC1.out (Kd.C_below HR2.out hbw.out) HC2.out (Kd.C_below HR3.out hbw.out) HC3.out G1.out).mono ?_
            rintro e w4 ⟨rfl, hb4⟩
            have hH4 := hh.out.below hb4
            go_wp2_with fail
            refine (Go.Proofs.Ytlboglbgdjakmaa.Bld.write (w.heap.size + 1) (w.heap.size + 1) acc t2 _ hH4 c3 (by have := hb4.size; omega)).mono ?_
            rintro e w5 ⟨rfl, hH5, hb5⟩
            have HH5 := Aside0.mk hH5
            have HB5 := Aside0.mk ((hbw.out.trans (hb4.mono hbw.out.size)).trans (hb5.mono (Nat.le_succ _)))
            have HX5 := Aside0.mk (show w5.heap[w.heap.size]? = some (.cells #[.int .i64 a0_0, .slice A0_1 l0_1.length c0_1, .slice A0_2 l0_2.length c0_2, .slice A0_3 l0_3.length c0_3] 29 (0, 0)) by rw [hb5.block _ (Nat.lt_succ_self _), hb4.block _ (by omega)]; exact hx.out)
            clear hH4 hH5 hb4 hb5 hc0 hc1 hc2 hc3
            go_wp2
            go_roundg k1
            case measure => have := hk.out; omega
            case rel => exact ⟨i + 1, acc ++ t2.data.toList, by go_num, G2, ⟨by have := hk.out; omega⟩, HH5, HB5, HX5⟩
          · rw [if_neg c3] at H; cases H
        · rw [if_neg hi] at H
          obtain rfl := Option.some.inj H
          clear H
          have c4 : decide (i < l0_1.length) = false := decide_eq_false hi
          go_wp2_with fail
          refine (Go.Proofs.Ytlboglbgdjakmaa.Bld.told (w.heap.size + 1) (w.heap.size + 1) acc _ hh.out (by omega)).mono ?_
          rintro e w3 ⟨rfl, hb3⟩
          go_wp2
          go_ret
          exact ⟨rfl, hbw.out.trans (hb3.mono (Nat.le_succ _))⟩
  · rw [if_neg c] at h; cases h

end Go.Proofs.Ytlboglbgdjakmaa.PA

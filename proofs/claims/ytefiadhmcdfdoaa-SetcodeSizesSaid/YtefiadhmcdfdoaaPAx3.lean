-- Written by this session's own program wip/bin/dprint.py, over the kit's print.py, with own texts for some functions: no print of print.sh's
import Derived.Test.YtefiadhmcdfdoaaPAx0
import Derived.Test.YtefiadhmcdfdoaaPAx1
import Derived.Test.YtefiadhmcdfdoaaPAx2
namespace Go.Proofs.Ytefiadhmcdfdoaa.PA
open Go.RowKit Go.Proofs.YtefiadhmcdfdoaaW.PrintWords Go.Proofs.YtefiadhmcdfdoaaW.PrintLast Go.Proofs.YtefiadhmcdfdoaaW.PrintMore
attribute [local go_sem] max2_int min2_int max_two min_two max_three min_three max_four min_four   -- for this text's walks alone
set_option linter.unusedVariables false
set_option linter.unusedSimpArgs false


/-! ### setcode_Encode: function 10 (own text) -/
def setcode_Encode.l0 : Nat → List Int → Nat → Int → List UInt8 → Option ByteArray
  | 0, _, _, _, _ => none
  | k + 1, l, i, last, acc => if i < l.length then (varint_Num.f k (IntKind.u64.wrap (wrap64 (wrap64 (rd l (i : Int) - last) - 1)))).bind fun t => (if acc.length + t.size ≤ 140737488355328 then setcode_Encode.l0 k l (i + 1) (rd l (i : Int)) (acc ++ t.data.toList) else none) else some ⟨acc.toArray⟩
def setcode_Encode.b (k : Nat) (l : List Int) : Option (ByteArray × Int) := if l.length ≤ 9223372036854775807 then (varint_Num.f k (l.length : Int)).bind fun t => (if t.size ≤ 140737488355328 then (setcode_Encode.l0 k l 0 (-1) t.data.toList).bind fun s => some (s, 0) else none) else none
def setcode_Encode.f (k : Nat) (l0 : List Int) : Option (ByteArray × Int) := (ids_Is.f k l0).bind fun t => if t = true then (if 0 < l0.length then (setcode_number.f (rd l0 0)).bind fun a => (if a = true then (setcode_number.f (rd l0 (wrap64 ((l0.length : Int) - 1)))).bind fun b => (if b = true then setcode_Encode.b k l0 else some (⟨#[]⟩, 1)) else some (⟨#[]⟩, 1)) else setcode_Encode.b k l0) else some (⟨#[]⟩, 1)
theorem setcode_Encode.mono_l : ∀ k l i last acc, LeO (setcode_Encode.l0 k l i last acc) (setcode_Encode.l0 (k + 1) l i last acc)
  | 0 => fun _ _ _ _ => LeO.none _
  | k + 1 => fun l i last acc => by
    have ih := setcode_Encode.mono_l k
    unfold setcode_Encode.l0
    exact LeO.ite (LeO.bind (varint_Num.mono _ _) (fun t => LeO.ite (ih _ _ _ _) (LeO.refl _))) (LeO.refl _)
theorem setcode_Encode.mono_b (k : Nat) (l : List Int) : LeO (setcode_Encode.b k l) (setcode_Encode.b (k + 1) l) := by
  unfold setcode_Encode.b
  exact LeO.ite (LeO.bind (varint_Num.mono _ _) (fun t => LeO.ite (LeO.bind (setcode_Encode.mono_l _ _ _ _ _) (fun _ => LeO.refl _)) (LeO.refl _))) (LeO.refl _)
theorem setcode_Encode.mono : ∀ a0 k, LeO (setcode_Encode.f k a0) (setcode_Encode.f (k + 1) a0) := by
  intro a0 k
  unfold setcode_Encode.f
  exact LeO.bind (ids_Is.mono _ _) (fun t => LeO.ite (LeO.ite (LeO.bind (LeO.refl _) (fun a => LeO.ite (LeO.bind (LeO.refl _) (fun b => LeO.ite (setcode_Encode.mono_b _ _) (LeO.refl _))) (LeO.refl _))) (setcode_Encode.mono_b _ _)) (LeO.refl _))
/-- What the tests at the head of Encode come to. -/
inductive setcode_Encode.Head (k : Nat) (l : List Int) : Bool → Prop
  | no (h : Aside0 (ids_Is.f k l = some false)) : Head k l false
  | empty (h : Aside0 (ids_Is.f k l = some true)) (hn : ¬ 0 < l.length) : Head k l true
  | first (h : Aside0 (ids_Is.f k l = some true)) (hn : 0 < l.length) (h1 : Aside0 (setcode_number.f (rd l 0) = some false)) : Head k l false
  | last (h : Aside0 (ids_Is.f k l = some true)) (hn : 0 < l.length) (h1 : Aside0 (setcode_number.f (rd l 0) = some true)) (h2 : Aside0 (setcode_number.f (rd l (wrap64 ((l.length : Int) - 1))) = some false)) : Head k l false
  | good (h : Aside0 (ids_Is.f k l = some true)) (hn : 0 < l.length) (h1 : Aside0 (setcode_number.f (rd l 0) = some true)) (h2 : Aside0 (setcode_number.f (rd l (wrap64 ((l.length : Int) - 1))) = some true)) : Head k l true
theorem setcode_Encode.heads (k : Nat) (l : List Int) (r : ByteArray × Int) (h : setcode_Encode.f k l = some r) : (setcode_Encode.Head k l false ∧ r = (⟨#[]⟩, 1)) ∨ (setcode_Encode.Head k l true ∧ setcode_Encode.b k l = some r) := by
  unfold setcode_Encode.f at h
  obtain ⟨t, h0, h⟩ := Option.bind_eq_some_iff.mp h
  cases t with
  | false => rw [if_neg (by simp)] at h; exact .inl ⟨.no ⟨h0⟩, (Option.some.inj h).symm⟩
  | true =>
    rw [if_pos rfl] at h
    by_cases hn : 0 < l.length
    · rw [if_pos hn] at h
      obtain ⟨a, h1, h⟩ := Option.bind_eq_some_iff.mp h
      cases a with
      | false => rw [if_neg (by simp)] at h; exact .inl ⟨.first ⟨h0⟩ hn ⟨h1⟩, (Option.some.inj h).symm⟩
      | true =>
        rw [if_pos rfl] at h
        obtain ⟨b, h2, h⟩ := Option.bind_eq_some_iff.mp h
        cases b with
        | false => rw [if_neg (by simp)] at h; exact .inl ⟨.last ⟨h0⟩ hn ⟨h1⟩ ⟨h2⟩, (Option.some.inj h).symm⟩
        | true => rw [if_pos rfl] at h; exact .inr ⟨.good ⟨h0⟩ hn ⟨h1⟩ ⟨h2⟩, h⟩
    · rw [if_neg hn] at h; exact .inr ⟨.empty ⟨h0⟩ hn, h⟩
set_option maxHeartbeats 4000000 in
set_option maxRecDepth 100000 in
theorem setcode_Encode.bad (k : Nat) (A0 : Option Addr) (c0 : Nat) (l0 : List Int) (w : World) (hr0 : Kd.C (Kd.int .i64) w A0 l0.length l0) (hc0 : l0.length ≤ c0) (h : setcode_Encode.Head k l0 false) :
    Calls Try.prog 10 #[.slice A0 l0.length c0] w fun e w' => e = .returned (.tuple #[.string ⟨#[]⟩, .int .i64 1]) ∧ Below w.heap.size w w' := by
  have HR0 := Aside0.mk hr0
  have HC0 := Aside0.mk hc0
  clear hr0 hc0
  cases h with
  | no h =>
    go_enter Try.func10, Try.ntmps10
    go_wp2_with (go_at_call 27; (with_reducible refine (ids_Is.calls k A0 c0 l0 false _ ?side1 HC0.out h.out).mono ?_); (case side1 => exact HR0.out); rintro e w' ⟨rfl, ⟨nd, rfl⟩⟩)
    go_ret2
    exact ⟨rfl, by repeat (first | exact Below.refl _ _ | apply pw_below_drewN)⟩
  | first h hn h1 =>
    have c1 : decide ((0 : Int) < (l0.length : Int)) = true := decide_eq_true (by omega)
    have c2 : decide (0 < l0.length) = true := decide_eq_true hn
    obtain ⟨ad, e1, hx⟩ := Kd.at_int HR0.out 0 (by omega) (by omega)
    subst e1
    have hx' : w.cell? ad = some (.int .i64 (rd l0 0)) := by simpa [Addr.add] using hx
    clear hx
    go_enter Try.func10, Try.ntmps10
    go_wp2_with (first | (go_at_call 27; (with_reducible refine (ids_Is.calls k _ c0 l0 true _ ?side1 HC0.out h.out).mono ?_); (case side1 => exact HR0.out); rintro e w' ⟨rfl, ⟨nd, rfl⟩⟩) | (go_at_call 28; (with_reducible refine (setcode_number.calls (rd l0 0) false _ h1.out).mono ?_); rintro e w' ⟨rfl, ⟨nd, rfl⟩⟩))
    go_ret2
    exact ⟨rfl, by repeat (first | exact Below.refl _ _ | apply pw_below_drewN)⟩
  | last h hn h1 h2 =>
    have c1 : decide ((0 : Int) < (l0.length : Int)) = true := decide_eq_true (by omega)
    have c2 : decide (0 < l0.length) = true := decide_eq_true hn
    have hm := Kd.C_max HR0.out
    obtain ⟨ad, e1, hx⟩ := Kd.at_int HR0.out 0 (by omega) (by omega)
    subst e1
    have hx' : w.cell? ad = some (.int .i64 (rd l0 0)) := by simpa [Addr.add] using hx
    clear hx
    obtain ⟨J, hJ⟩ : ∃ J, wrap64 ((l0.length : Int) - 1) = J := ⟨_, rfl⟩
    have hJv : J = (l0.length : Int) - 1 := by rw [← hJ]; unfold wrap64; omega
    have hJ0 : 0 ≤ J := by omega
    have hJ1 : J < (l0.length : Int) := by omega
    have hJw : IntKind.i64.wrap ((l0.length : Int) - 1) = J := (i64_w _).trans hJ
    rw [hJ] at h2
    clear hJv hm
    obtain ⟨ad', e1, hy⟩ := Kd.at_int HR0.out J hJ0 hJ1
    obtain rfl : ad = ad' := by injection e1
    have d1 : decide (0 ≤ J) = true := decide_eq_true hJ0
    have d2 : decide (J < (l0.length : Int)) = true := decide_eq_true hJ1
    go_enter Try.func10, Try.ntmps10
    go_wp2_with (first | (go_at_call 27; (with_reducible refine (ids_Is.calls k _ c0 l0 true _ ?side1 HC0.out h.out).mono ?_); (case side1 => exact HR0.out); rintro e w' ⟨rfl, ⟨nd, rfl⟩⟩) | (go_at_call 28; (with_reducible refine (setcode_number.calls (rd l0 0) true _ h1.out).mono ?_); rintro e w' ⟨rfl, ⟨nd, rfl⟩⟩) | (go_at_call 28; (with_reducible refine (setcode_number.calls (rd l0 J) false _ h2.out).mono ?_); rintro e w' ⟨rfl, ⟨nd, rfl⟩⟩))
    go_ret2
    exact ⟨rfl, by repeat (first | exact Below.refl _ _ | apply pw_below_drewN)⟩
set_option maxHeartbeats 4000000 in
set_option maxRecDepth 100000 in
theorem setcode_Encode.good (k : Nat) (A0 : Option Addr) (c0 : Nat) (l0 : List Int) (r : ByteArray × Int) (w : World) (hr0 : Kd.C (Kd.int .i64) w A0 l0.length l0) (hc0 : l0.length ≤ c0) (h : setcode_Encode.Head k l0 true) (hb : setcode_Encode.b k l0 = some r) :
    Calls Try.prog 10 #[.slice A0 l0.length c0] w fun e w' => e = .returned (.tuple #[.string r.1, .int .i64 r.2]) ∧ Below w.heap.size w w' := by
  have HR0 := Aside0.mk hr0
  have HC0 := Aside0.mk hc0
  have hm := Kd.C_max hr0
  unfold setcode_Encode.b at hb
  rw [if_pos hm] at hb
  obtain ⟨t, h1, hb⟩ := Option.bind_eq_some_iff.mp hb
  have H1 := Aside0.mk h1
  by_cases c : t.size ≤ 140737488355328
  · rw [if_pos c] at hb
    obtain ⟨s, h2, hb⟩ := Option.bind_eq_some_iff.mp hb
    obtain rfl := Option.some.inj hb
    have H2 := Aside0.mk h2
    clear hb h2 h1 hr0 hc0
    cases h with
    | empty h hn =>
      have c1 : decide ((0 : Int) < (l0.length : Int)) = false := decide_eq_false (by omega)
      have c2 : decide (0 < l0.length) = false := decide_eq_false hn
      go_enter Try.func10, Try.ntmps10
      go_wp2_with (go_at_call 27; (with_reducible refine (ids_Is.calls k A0 c0 l0 true _ ?side1 HC0.out h.out).mono ?_); (case side1 => exact HR0.out); rintro e w' ⟨rfl, ⟨nd, rfl⟩⟩)
      refine (varint_Num.calls k _ t _ H1.out).mono ?_
      rintro e w1 ⟨rfl, hb1⟩
      have hH : Go.Proofs.Ytefiadhmcdfdoaa.Bld.Holds w.heap.size w.heap.size [] w1 := (Go.Proofs.Ytefiadhmcdfdoaa.Bld.Holds.fresh (w.drewN nd)).below hb1
      have hB1 : Below w.heap.size w w1 := below_step (below_alloc (pw_below_drewN (Below.refl _ _) nd) _) hb1
      go_wp2_with (go_at_call 29; refine (Go.Proofs.Ytefiadhmcdfdoaa.Bld.write w.heap.size w.heap.size [] t _ hH (by rw [List.length_nil, Nat.zero_add]; exact c) hB1.size).mono ?_)
      rintro e w2 ⟨rfl, hH2, hb2⟩
      rw [List.nil_append] at hH2
      have HH := Aside0.mk hH2
      have HB := Aside0.mk (hB1.trans hb2)
      clear hH hB1 hb1 hb2 hH2
      go_wp2
      go_loopg [5, 7, 40] k (fun kq v5 v7 v40 w' => ∃ (i : Nat) (last : Int) (acc : List UInt8), v5 = .int .i64 last ∧ v40 = .int .i64 (i : Int) ∧ Aside0 (setcode_Encode.l0 kq l0 i last acc = some s) ∧ Aside0 (kq ≤ k) ∧ Aside0 (Go.Proofs.Ytefiadhmcdfdoaa.Bld.Holds w.heap.size w.heap.size acc w') ∧ Aside0 (Below w.heap.size w w'))
      case atStart => exact ⟨0, -1, t.data.toList, rfl, rfl, H2, ⟨Nat.le_refl _⟩, HH, HB⟩
      case round =>
        obtain ⟨i, last, acc, rfl, rfl, hl, hk, hh, hbw⟩ := hrel
        clear HH HB H2
        cases gk with
        | zero => exact absurd hl.out (by simp [setcode_Encode.l0])
        | succ k1 =>
          have H := hl.out
          clear hl
          unfold setcode_Encode.l0 at H
          by_cases hi : i < l0.length
          · exact absurd hi (by omega)
          · rw [if_neg hi] at H
            obtain rfl := Option.some.inj H
            clear H
            have c4 : decide (i < l0.length) = false := decide_eq_false hi
            go_wp2_with fail
            refine (Go.Proofs.Ytefiadhmcdfdoaa.Bld.told w.heap.size w.heap.size acc _ hh.out hbw.out.size).mono ?_
            rintro e w3 ⟨rfl, hb3⟩
            go_wp2
            go_ret2
            exact ⟨rfl, hbw.out.trans hb3⟩
    | good h hn h3 h4 =>
      have c1 : decide ((0 : Int) < (l0.length : Int)) = true := decide_eq_true (by omega)
      have c2 : decide (0 < l0.length) = true := decide_eq_true hn
      obtain ⟨ad, e1, hx⟩ := Kd.at_int HR0.out 0 (by omega) (by omega)
      subst e1
      have hx' : w.cell? ad = some (.int .i64 (rd l0 0)) := by simpa [Addr.add] using hx
      clear hx
      obtain ⟨J, hJ⟩ : ∃ J, wrap64 ((l0.length : Int) - 1) = J := ⟨_, rfl⟩
      have hJv : J = (l0.length : Int) - 1 := by rw [← hJ]; unfold wrap64; omega
      have hJ0 : 0 ≤ J := by omega
      have hJ1 : J < (l0.length : Int) := by omega
      have hJw : IntKind.i64.wrap ((l0.length : Int) - 1) = J := (i64_w _).trans hJ
      rw [hJ] at h4
      clear hJv
      obtain ⟨ad', e1, hy⟩ := Kd.at_int HR0.out J hJ0 hJ1
      obtain rfl : ad = ad' := by injection e1
      have d1 : decide (0 ≤ J) = true := decide_eq_true hJ0
      have d2 : decide (J < (l0.length : Int)) = true := decide_eq_true hJ1
      go_enter Try.func10, Try.ntmps10
      go_wp2_with (first | (go_at_call 27; (with_reducible refine (ids_Is.calls k _ c0 l0 true _ ?side1 HC0.out h.out).mono ?_); (case side1 => exact HR0.out); rintro e w' ⟨rfl, ⟨nd, rfl⟩⟩) | (go_at_call 28; (with_reducible refine (setcode_number.calls (rd l0 0) true _ h3.out).mono ?_); rintro e w' ⟨rfl, ⟨nd2, rfl⟩⟩) | (go_at_call 28; (with_reducible refine (setcode_number.calls (rd l0 J) true _ h4.out).mono ?_); rintro e w' ⟨rfl, ⟨nd3, rfl⟩⟩))
      clear hx' hy hJ hJw hJ0 hJ1 d1 d2 e1
      refine (varint_Num.calls k _ t _ H1.out).mono ?_
      rintro e w1 ⟨rfl, hb1⟩
      have hH : Go.Proofs.Ytefiadhmcdfdoaa.Bld.Holds w.heap.size w.heap.size [] w1 := (Go.Proofs.Ytefiadhmcdfdoaa.Bld.Holds.fresh (w.drewN (nd + nd2 + nd3))).below hb1
      have hB1 : Below w.heap.size w w1 := below_step (below_alloc (pw_below_drewN (Below.refl _ _) (nd + nd2 + nd3)) _) hb1
      go_wp2_with (go_at_call 29; refine (Go.Proofs.Ytefiadhmcdfdoaa.Bld.write w.heap.size w.heap.size [] t _ hH (by rw [List.length_nil, Nat.zero_add]; exact c) hB1.size).mono ?_)
      rintro e w2 ⟨rfl, hH2, hb2⟩
      rw [List.nil_append] at hH2
      have HH := Aside0.mk hH2
      have HB := Aside0.mk (hB1.trans hb2)
      clear hH hB1 hb1 hb2 hH2
      go_wp2
      go_loopg [5, 7, 40] k (fun kq v5 v7 v40 w' => ∃ (i : Nat) (last : Int) (acc : List UInt8), v5 = .int .i64 last ∧ v40 = .int .i64 (i : Int) ∧ Aside0 (setcode_Encode.l0 kq l0 i last acc = some s) ∧ Aside0 (kq ≤ k) ∧ Aside0 (Go.Proofs.Ytefiadhmcdfdoaa.Bld.Holds w.heap.size w.heap.size acc w') ∧ Aside0 (Below w.heap.size w w'))
      case atStart => exact ⟨0, -1, t.data.toList, rfl, rfl, H2, ⟨Nat.le_refl _⟩, HH, HB⟩
      case round =>
        obtain ⟨i, last, acc, rfl, rfl, hl, hk, hh, hbw⟩ := hrel
        clear HH HB H2
        cases gk with
        | zero => exact absurd hl.out (by simp [setcode_Encode.l0])
        | succ k1 =>
          have H := hl.out
          clear hl
          unfold setcode_Encode.l0 at H
          by_cases hi : i < l0.length
          · rw [if_pos hi] at H
            obtain ⟨t2, g1, H⟩ := Option.bind_eq_some_iff.mp H
            have G1 := Aside0.mk g1
            by_cases c3 : acc.length + t2.size ≤ 140737488355328
            · rw [if_pos c3] at H
              have G2 := Aside0.mk H
              clear H g1
              have c4 : decide (i < l0.length) = true := decide_eq_true hi
              obtain ⟨ad, e1, hx⟩ := Kd.at_int (Kd.C_below HR0.out hbw.out) (i : Int) (by omega) (by omega)
              cases e1
              rw [Int.toNat_natCast] at hx
              have hil : (i : Int) < 9223372036854775807 := by omega
              go_wp2_with fail
              refine (varint_Num.calls k1 _ t2 _ G1.out).mono ?_
              rintro e w3 ⟨rfl, hb3⟩
              have hH3 := hh.out.below hb3
              go_wp2_with (go_at_call 29; refine (Go.Proofs.Ytefiadhmcdfdoaa.Bld.write w.heap.size w.heap.size acc t2 _ hH3 c3 (hbw.out.trans (hb3.mono hbw.out.size)).size).mono ?_)
              rintro e w4 ⟨rfl, hH4, hb4⟩
              have HH4 := Aside0.mk hH4
              have HB4 := Aside0.mk ((hbw.out.trans (hb3.mono hbw.out.size)).trans hb4)
              clear hH3 hH4 hb3 hb4
              go_wp2
              go_roundg k1
              case measure => have := hk.out; omega
              case rel => exact ⟨i + 1, rd l0 (i : Int), acc ++ t2.data.toList, rfl, by go_num, G2, ⟨by have := hk.out; omega⟩, HH4, HB4⟩
            · rw [if_neg c3] at H; cases H
          · rw [if_neg hi] at H
            obtain rfl := Option.some.inj H
            clear H
            have c4 : decide (i < l0.length) = false := decide_eq_false hi
            go_wp2_with fail
            refine (Go.Proofs.Ytefiadhmcdfdoaa.Bld.told w.heap.size w.heap.size acc _ hh.out hbw.out.size).mono ?_
            rintro e w3 ⟨rfl, hb3⟩
            go_wp2
            go_ret2
            exact ⟨rfl, hbw.out.trans hb3⟩
  · rw [if_neg c] at hb; cases hb
theorem setcode_Encode.calls (k : Nat) (A0 : Option Addr) (c0 : Nat) (l0 : List Int) (r1 : ByteArray) (r2 : Int) (w : World) (hr0 : Kd.C (Kd.int .i64) w A0 l0.length l0) (hc0 : l0.length ≤ c0) (h : setcode_Encode.f k l0 = some (r1, r2)) :
    Calls Try.prog 10 #[.slice A0 l0.length c0] w fun e w' => e = .returned (.tuple #[.string r1, .int .i64 r2]) ∧ Below w.heap.size w w' := by
  rcases setcode_Encode.heads k l0 (r1, r2) h with ⟨hh, he⟩ | ⟨hh, hb⟩
  · injection he with h1 h2
    subst h1 h2
    exact setcode_Encode.bad k A0 c0 l0 w hr0 hc0 hh
  · exact setcode_Encode.good k A0 c0 l0 (r1, r2) w hr0 hc0 hh hb

end Go.Proofs.Ytefiadhmcdfdoaa.PA

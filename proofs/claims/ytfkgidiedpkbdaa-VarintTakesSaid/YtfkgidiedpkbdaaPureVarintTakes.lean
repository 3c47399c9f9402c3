/- VarintTakes: of any bytes (the first sixty) and any parts (the first ten), the program takes just what the document takes, and both end with the same error and the same bytes left. No conditions. -/
import Derived.Test.YtfkgidiedpkbdaaPTx11
import Derived.Test.YtfkgidiedpkbdaaTakeRef
import Derived.Test.YtfkgidiedpkbdaaVarintCut
import Derived.Laws.BitsLemmas
namespace Go.Proofs.Ytfkgidiedpkbdaa.PT
open Go.RowKit Go.Proofs.YtfkgidiedpkbdaaW.PrintWords Go.Proofs.YtfkgidiedpkbdaaW.PrintLast Go.Proofs.YtfkgidiedpkbdaaW.PrintMore Go.Proofs.Ytfkgidiedpkbdaa.VarPlain
theorem and3 (a : Int) : Go.bits .and .i64 a 3 = 0 ∨ Go.bits .and .i64 a 3 = 1 ∨ Go.bits .and .i64 a 3 = 2 ∨ Go.bits .and .i64 a 3 = 3 := by
  have h : Go.bits .and .i64 a 3 = IntKind.i64.wrap (((BitVec.ofInt 64 a).toNat &&& 3 : Nat) : Int) := by
    unfold Go.bits
    simp only [BitVec.toNat_and]
    rfl
  have h2 : (BitVec.ofInt 64 a).toNat &&& 3 = (BitVec.ofInt 64 a).toNat % 4 := Nat.and_two_pow_sub_one_eq_mod _ 2
  rw [h, h2, IntKind.wrap_i64]
  omega
def ownP (p : Part) : Part := ⟨Go.bits .and .i64 p.f0 3, if Go.bits .and .i64 p.f0 3 = 1 then mn p.f1 1099511627776 else p.f1, p.f2⟩
theorem u64_wf {n : Int} (h : (Lit.int .u64 n).wf = true) : 0 ≤ n ∧ n < 18446744073709551616 := by
  have h2 : IntKind.u64.min ≤ n ∧ n ≤ IntKind.u64.max := by simpa [Lit.wf] using h
  have e1 : IntKind.u64.min = 0 := by decide
  have e2 : IntKind.u64.max = 18446744073709551615 := by decide
  rw [e1, e2] at h2
  omega
theorem ownP_good (p : Part) (h : (Lit.int .u64 p.f1).wf = true) : GoodP (ownP p) := by
  obtain ⟨h1, h2⟩ := u64_wf h
  unfold GoodP ownP
  refine ⟨and3 p.f0, ?_, ?_, fun hb => ?_⟩
  · simp only; split
    · unfold mn; split <;> omega
    · exact h1
  · simp only; split
    · unfold mn; split <;> omega
    · exact h2
  · simp only at hb ⊢
    rw [if_pos hb]; unfold mn; split <;> omega
theorem takeL_left : ∀ (P : List Part) (l : List UInt8) (e : Int), (e = 0 ∨ l = []) → (takeL P l e).2.2 = 0 ∨ (takeL P l e).2.1 = []
  | [], _, _, h => h
  | p :: P, l, e, h => takeL_left P _ _ (stepT_left p l e h)
theorem takeL_count : ∀ (P : List Part) (l : List UInt8) (e : Int), (takeL P l e).1.length = P.length
  | [], _, _ => rfl
  | p :: P, l, e => by rw [takeL, List.length_cons, List.length_cons, takeL_count P]
theorem last_is (k : Nat) (L : List UInt8) (e : Int) (h : e = 0 ∨ L = []) (c : Bool) (hc : c = (if e = 0 then (L != []) else false)) (hk : 2 < k) :
    dowserlaw01_VarintTakes.j2 k (mkS L) e e c (mkS L) e = some true := by
  obtain ⟨k, rfl⟩ : ∃ m, k = m + 1 := ⟨k - 1, by omega⟩
  simp only [dowserlaw01_VarintTakes.j2]
  unfold varint_In_Left.f
  rw [err_is]
  simp only [Option.bind_some, if_true, end_is, lst_mk]
  by_cases he : e = 0
  · rw [if_pos he] at hc
    by_cases hl : L = []
    · subst hl; rw [hc]; simp
    · have : (L != []) = true := by simpa using hl
      rw [hc, this]; simp [hl]
  · have hl := h.resolve_left he
    subst hl
    rw [hc, if_neg he]; simp
theorem raw_mx (s : ByteArray) (e n : Int) : varint_In_Raw.f s e n = varint_In_Raw.f s e (mx n 0) := by
  have : mx (mx n 0) 0 = mx n 0 := by unfold mx; repeat' split <;> omega
  unfold varint_In_Raw.f
  rw [this]
theorem own_l1 (P : List Part) (hP : P.length ≤ 100) (hg : ∀ p ∈ P, GoodP p) (W : List ByteArray) (L : List UInt8) (e0 : Int) (d : Nat) : ∀ (k i : Nat) (l : List UInt8) (e : Int), P.length - i = d → i ≤ P.length → (e = 0 ∨ l = []) → l.length ≤ 1000 → W.drop i = (takeL (P.drop i) l e).1.map mkS → (takeL (P.drop i) l e).2 = (L, e0) → d + 4000 < k →
    dowserlaw01_VarintTakes.l1 k W (mkS L) e0 P (P.length : Int) (i : Int) (mkS l) e = some true := by
  induction d with
  | zero =>
    intro k i l e hd hi hl hll hW hT hk
    obtain ⟨k, rfl⟩ : ∃ m, k = m + 1 := ⟨k - 1, by omega⟩
    rw [List.drop_eq_nil_of_le (show P.length ≤ i by omega)] at hT
    have h1 : l = L := congrArg Prod.fst hT
    have h2 : e = e0 := congrArg Prod.snd hT
    subst h1 h2
    simp only [dowserlaw01_VarintTakes.l1]
    rw [if_neg (by omega), toList_lst, lst_mk]
    by_cases he : e = 0
    · rw [if_pos he]; exact last_is k l e hl _ (by rw [if_pos he]) (by omega)
    · rw [if_neg he]; exact last_is k l e hl _ (by rw [if_neg he]) (by omega)
  | succ d ih =>
    intro k i l e hd hi hl hll hW hT hk
    obtain ⟨k, rfl⟩ : ∃ m, k = m + 1 := ⟨k - 1, by omega⟩
    have hlt : i < P.length := by omega
    have hlt' : (i : Int) < (P.length : Int) := by omega
    have hgp := hg _ (List.getElem_mem hlt)
    rw [List.drop_eq_getElem_cons hlt, takeL] at hW hT
    have hWl : i < W.length := by
      have := congrArg List.length hW
      simp at this
      omega
    rw [List.drop_eq_getElem_cons hWl, List.map_cons] at hW
    injection hW with hW1 hW2
    have eW : rdOf ByteArray.empty W (i : Int) = mkS (stepT P[i] l e).1 := by
      unfold rdOf; rw [Int.toNat_natCast, List.getD_eq_getElem?_getD, List.getElem?_eq_getElem hWl]; exact hW1
    have hw : wrap64 ((i : Int) + 1) = ((i + 1 : Nat) : Int) := by unfold wrap64; omega
    have hWi : (i : Int) < (W.length : Int) := by omega
    have h1 := stepT_left P[i] l e hl
    have h2 := stepT_len P[i] l e
    have next := ih k (i + 1) (stepT P[i] l e).2.1 (stepT P[i] l e).2.2 (by omega) (by omega) h1 (by omega) hW2 hT (by omega)
    have hs : (mkS l).size ≤ 140737488351232 := by rw [size_mk]; omega
    have hk3 : 3 * (mkS l).size < k := by rw [size_mk]; omega
    have hk10 : 10 < k := by omega
    have g0 : (0 : Int) ≤ (i : Int) := by omega
    simp only [dowserlaw01_VarintTakes.l1]
    rw [if_pos hlt', if_pos g0, if_pos hlt', rdT_get P i hlt, hw, eW]
    obtain ⟨hq, m0, m1, m2⟩ := hgp
    by_cases c0 : P[i].f0 = 0
    · have hst : stepT P[i] l e = (enc (rNum l e P[i].f1.toNat).1, (rNum l e P[i].f1.toNat).2) := by unfold stepT; rw [if_pos c0]
      have em : P[i].f1 = ((P[i].f1.toNat : Nat) : Int) := by omega
      have hx := (rNum_lt l e P[i].f1.toNat).1
      have hn := innum_is k (mkS l) e P[i].f1.toNat hs hk3
      rw [← em, lst_mk] at hn
      rw [hst] at next
      rw [if_pos c0, hn, Option.bind_some, refnum_is k _ hx hk10, Option.bind_some, if_pos hWi, hst, toList_lst, if_pos rfl]
      exact next
    · rw [if_neg c0]
      by_cases c1 : P[i].f0 = 1
      · have hst : stepT P[i] l e = rText l e P[i].f1 := by unfold stepT; rw [if_neg c0, if_pos c1]
        have hb := m2 c1
        have ew : wrap64 P[i].f1 = P[i].f1 := by unfold wrap64; omega
        have ht := intext_is k (mkS l) e P[i].f1 hl hs hk3 (by omega)
        rw [lst_mk] at ht
        rw [hst] at next
        rw [if_pos c1, ew, ht, Option.bind_some, if_pos hWi, hst, toList_lst, if_pos rfl]
        exact next
      · rw [if_neg c1]
        by_cases c2 : P[i].f0 = 2
        · have hst : stepT P[i] l e = rRaw l e (mx P[i].f2 0) := by unfold stepT; rw [if_neg c0, if_neg c1, if_pos c2]
          have hm : 0 ≤ mx P[i].f2 0 := by unfold mx; split <;> omega
          have hr := raw_is (mkS l) e (mx P[i].f2 0) hl hm
          rw [lst_mk] at hr
          rw [hst] at next
          rw [if_pos c2, raw_mx, hr, Option.bind_some, if_pos hWi, hst, toList_lst, if_pos rfl]
          exact next
        · rw [if_neg c2]
          have c3 : P[i].f0 = 3 := by rcases hq with h | h | h | h <;> first | exact absurd h c0 | exact absurd h c1 | exact absurd h c2 | exact h
          have hst : stepT P[i] l e = ([], rFail l e 13) := by unfold stepT; rw [if_neg c0, if_neg c1, if_neg c2]
          rw [hst] at next
          have f0 := fail_is (mkS l) e 0
          have e0 : rFail l e 0 = (l, e) := by unfold rFail; rw [if_pos rfl]; split <;> rfl
          rw [lst_mk, e0] at f0
          have f1 := fail_is (mkS l) e 13
          rw [lst_mk] at f1
          rw [if_pos c3, f0, Option.bind_some, f1, Option.bind_some, if_pos hWi, hst, toList_lst, lst_mk, if_pos rfl]
          exact next
theorem own_l0 (x0 s : ByteArray) (e : Int) (y F : List Part) (hy : y.length ≤ 100) (hfin : ∀ k, 7000 < k → ((dowserref01_Take.f k x0 F).bind fun bt => dowserlaw01_VarintTakes.l1 k bt.1 bt.2.1 bt.2.2 F (F.length : Int) 0 s e) = some true) (d : Nat) : ∀ (k i : Nat) (acc : List Part), y.length - i = d → i ≤ y.length → acc ++ (y.drop i).map ownP = F → acc.length ≤ i → d + 7001 < k →
    dowserlaw01_VarintTakes.l0 k x0 acc y (y.length : Int) (i : Int) s e = some true := by
  induction d with
  | zero =>
    intro k i acc hd hi hF ha hk
    obtain ⟨k, rfl⟩ : ∃ m, k = m + 1 := ⟨k - 1, by omega⟩
    rw [List.drop_eq_nil_of_le (show y.length ≤ i by omega), List.map_nil, List.append_nil] at hF
    simp only [dowserlaw01_VarintTakes.l0]
    rw [if_neg (by omega), hF]
    exact hfin k (by omega)
  | succ d ih =>
    intro k i acc hd hi hF ha hk
    obtain ⟨k, rfl⟩ : ∃ m, k = m + 1 := ⟨k - 1, by omega⟩
    have hlt : i < y.length := by omega
    have hlt' : (i : Int) < (y.length : Int) := by omega
    have hw : wrap64 ((i : Int) + 1) = ((i + 1 : Nat) : Int) := by unfold wrap64; omega
    have next := ih k (i + 1) (acc ++ [ownP y[i]]) (by omega) (by omega) (by rw [List.drop_eq_getElem_cons hlt, List.map_cons] at hF; rw [List.append_assoc]; exact hF) (by rw [List.length_append, List.length_singleton]; omega) (by omega)
    simp only [dowserlaw01_VarintTakes.l0]
    rw [if_pos hlt', if_pos (by omega), if_pos hlt', rdT_get y i hlt, hw]
    by_cases c : Go.bits .and .i64 y[i].f0 3 = 1
    · rw [if_pos c, if_pos (by omega)]
      have : ownP y[i] = ⟨Go.bits .and .i64 y[i].f0 3, mn y[i].f1 1099511627776, y[i].f2⟩ := by unfold ownP; rw [if_pos c]
      rw [this] at next
      exact next
    · rw [if_neg c, if_pos (by omega)]
      have : ownP y[i] = ⟨Go.bits .and .i64 y[i].f0 3, y[i].f1, y[i].f2⟩ := by unfold ownP; rw [if_neg c]
      rw [this] at next
      exact next
/-! The way of a list that isn't cut is the same. -/
theorem j5_j2 (k : Nat) : dowserlaw01_VarintTakes.j5 k = dowserlaw01_VarintTakes.j2 k := by
  funext a b c d e f
  cases k with
  | zero => simp only [dowserlaw01_VarintTakes.j5, dowserlaw01_VarintTakes.j2]
  | succ k => simp only [dowserlaw01_VarintTakes.j5, dowserlaw01_VarintTakes.j2]
theorem l3_l1 (k : Nat) : dowserlaw01_VarintTakes.l3 k = dowserlaw01_VarintTakes.l1 k := by
  induction k with
  | zero => funext a b c d e f g h; simp only [dowserlaw01_VarintTakes.l3, dowserlaw01_VarintTakes.l1]
  | succ k ih => funext a b c d e f g h; simp only [dowserlaw01_VarintTakes.l3, dowserlaw01_VarintTakes.l1, ih, j5_j2]
theorem l2_l0 (k : Nat) : dowserlaw01_VarintTakes.l2 k = dowserlaw01_VarintTakes.l0 k := by
  induction k with
  | zero => funext a b c d e f g; simp only [dowserlaw01_VarintTakes.l2, dowserlaw01_VarintTakes.l0]
  | succ k ih => funext a b c d e f g; simp only [dowserlaw01_VarintTakes.l2, dowserlaw01_VarintTakes.l0, ih, l3_l1]
theorem takes_all (l : List UInt8) (hl : l.length ≤ 60) (y : List Part) (hy : y.length ≤ 10) (hwf : ∀ p ∈ y, (Lit.int .u64 p.f1).wf = true) :
    dowserlaw01_VarintTakes.l0 9000 (mkS l) [] y (y.length : Int) 0 (mkS l) 0 = some true := by
  have hg : ∀ p ∈ y.map ownP, GoodP p := fun p hp => by
    obtain ⟨q, hq, rfl⟩ := List.mem_map.1 hp
    exact ownP_good q (hwf q hq)
  have hlen : (y.map ownP).length ≤ 100 := by rw [List.length_map]; omega
  have h := own_l0 (mkS l) (mkS l) 0 y (y.map ownP) (by omega) (fun k hk => by
    rw [take_is k (y.map ownP) hlen hg l (by omega) (by omega), Option.bind_some]
    exact own_l1 (y.map ownP) hlen hg _ _ _ (y.map ownP).length k 0 l 0 (by omega) (by omega) (Or.inl rfl) (by omega) (by rw [List.drop_zero, List.drop_zero]) (by rw [List.drop_zero]) (by omega)) y.length 9000 0 [] (by omega) (by omega) (by rw [List.drop_zero, List.nil_append]) (by simp) (by omega)
  exact h
end Go.Proofs.Ytfkgidiedpkbdaa.PT
namespace Go.Proofs.Ytfkgidiedpkbdaa.Pure
open Go.RowKit Go.Proofs.Ytfkgidiedpkbdaa.PT Go.Proofs.YtfkgidiedpkbdaaW.PrintWords Go.Proofs.YtfkgidiedpkbdaaW.PrintLast Go.Proofs.Ytfkgidiedpkbdaa.VarPlain
theorem VarintTakes : dowserlaw01_VarintTakes.Pure := by
  intro a y _ hy
  refine ⟨9000, ?_⟩
  have hcut := cut_is a 60
  have hl : ((lst a).take 60).length ≤ 60 := by rw [List.length_take]; omega
  generalize (lst a).take 60 = l at hcut hl
  unfold dowserlaw01_VarintTakes.f varint_Of.f
  rw [awake01_is 9000 (by omega), Option.bind_some, if_pos rfl, show (60 : Int) = ((60 : Nat) : Int) from rfl, hcut, Option.bind_some]
  by_cases c : (y.length : Int) > 10
  · rw [if_pos c, if_pos (by omega), Option.bind_some, Option.bind_some]
    exact takes_all l hl (y.take 10) (by rw [List.length_take]; omega) (fun p hp => (hy.2 p (List.mem_of_mem_take hp)).2.1)
  · rw [if_neg c, Option.bind_some, l2_l0]
    exact takes_all l hl y (by omega) (fun p hp => (hy.2 p hp).2.1)
end Go.Proofs.Ytfkgidiedpkbdaa.Pure

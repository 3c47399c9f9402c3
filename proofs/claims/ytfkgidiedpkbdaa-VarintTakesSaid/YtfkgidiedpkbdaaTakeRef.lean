-- what is taken, part by part: the document's
import Derived.Test.YtfkgidiedpkbdaaPTx5
import Derived.Test.YtfkgidiedpkbdaaPTx9
import Derived.Test.YtfkgidiedpkbdaaVarRefHead
import Derived.Test.YtfkgidiedpkbdaaVarRefNum
import Derived.Test.YtfkgidiedpkbdaaVarTxt
namespace Go.Proofs.Ytfkgidiedpkbdaa.PT
open Go.RowKit Go.Proofs.YtfkgidiedpkbdaaW.PrintWords Go.Proofs.YtfkgidiedpkbdaaW.PrintLast Go.Proofs.YtfkgidiedpkbdaaW.PrintMore Go.Proofs.Ytfkgidiedpkbdaa.VarPlain
abbrev Part := S67
def stepT (p : Part) (l : List UInt8) (e : Int) : List UInt8 × List UInt8 × Int :=
  if p.f0 = 0 then (enc (rNum l e p.f1.toNat).1, (rNum l e p.f1.toNat).2) else if p.f0 = 1 then rText l e p.f1 else if p.f0 = 2 then rRaw l e (mx p.f2 0) else ([], rFail l e 13)
def takeL : List Part → List UInt8 → Int → List (List UInt8) × List UInt8 × Int
  | [], l, e => ([], l, e)
  | p :: ps, l, e => ((stepT p l e).1 :: (takeL ps (stepT p l e).2.1 (stepT p l e).2.2).1, (takeL ps (stepT p l e).2.1 (stepT p l e).2.2).2)
def GoodP (p : Part) : Prop := (p.f0 = 0 ∨ p.f0 = 1 ∨ p.f0 = 2 ∨ p.f0 = 3) ∧ 0 ≤ p.f1 ∧ p.f1 < 18446744073709551616 ∧ (p.f0 = 1 → p.f1 ≤ 1099511627776)
theorem small_of {x : Nat} {m : Int} (h : x ≤ m.toNat) (h0 : 0 ≤ m) (h1 : m ≤ 1099511627776) : wrap64 (x : Int) = (x : Int) := small_wrap (by omega)
theorem rdT_get (l : List Part) (i : Nat) (h : i < l.length) : rd_T67 l (i : Int) = l[i] := by
  unfold rd_T67; rw [Int.toNat_natCast, List.getD_eq_getElem?_getD, List.getElem?_eq_getElem h]; rfl
theorem stepT_left (p : Part) (l : List UInt8) (e : Int) (h : e = 0 ∨ l = []) : (stepT p l e).2.2 = 0 ∨ (stepT p l e).2.1 = [] := by
  unfold stepT
  split
  · exact rNum_left l e _ h
  · split
    · exact rText_left l e _ h
    · split
      · exact rRaw_left l e _ h
      · unfold rFail
        simp only
        rcases h with h | h
        · subst h; simp
        · subst h; right; split <;> (try split) <;> rfl
theorem stepT_len (p : Part) (l : List UInt8) (e : Int) : (stepT p l e).2.1.length ≤ l.length := by
  unfold stepT
  split
  · exact (rNum_lt l e _).2.2
  · split
    · have h1 := (rNum_lt l e p.f1.toNat).2.2
      have h2 := rRaw_len (rNum l e p.f1.toNat).2.1 (rNum l e p.f1.toNat).2.2 ((rNum l e p.f1.toNat).1 : Int)
      exact Nat.le_trans h2 h1
    · split
      · exact rRaw_len l e _
      · unfold rFail
        simp only
        split
        · simp
        · simp
theorem stepT_err (p : Part) (hp : GoodP p) (e : Int) (he : e ≠ 0) : stepT p [] e = (if p.f0 = 0 then enc 0 else [], [], e) := by
  unfold stepT rText rRaw rFail rNum
  simp only [if_neg he]
  rcases hp.1 with h | h | h | h <;> simp only [h] <;> simp
  all_goals (try (split <;> rfl))
  all_goals (try rfl)
/-- Behind an error, at a round's end. -/
theorem end_err (k : Nat) (p : Part) (_hp : GoodP p) (s got : ByteArray) (out : List ByteArray) (e : Int) (he : e ≠ 0) (P : List Part) (n i : Int) (ho : out.length < 1000) (hk : 20 < k) :
    dowserref01_Take.j8 (k + 1) s out e got P n i p.f0 p.f1 p.f2 = dowserref01_Take.l0 k (mkS []) (out ++ [mkS (if p.f0 = 0 then enc 0 else [])]) e P n (wrap64 (i + 1)) := by
  simp only [dowserref01_Take.j8]
  rw [if_neg he]
  by_cases h : p.f0 = 0
  · rw [if_pos h, if_pos h, show (0 : Int) = ((0 : Nat) : Int) from rfl, refnum_is k 0 (by omega) (by omega), Option.bind_some, if_pos (by omega)]; rfl
  · rw [if_neg h, if_neg h, if_pos (by omega)]; rfl
theorem round_err (k : Nat) (p : Part) (hp : GoodP p) (s got : ByteArray) (out : List ByteArray) (e : Int) (he : e ≠ 0) (P : List Part) (n i m : Int) (ho : out.length < 1000) (hk : 20 < k) :
    dowserref01_Take.j6 (k + 3) s out e got m P n i p.f0 p.f1 p.f2 = dowserref01_Take.l0 k (mkS []) (out ++ [mkS (if p.f0 = 0 then enc 0 else [])]) e P n (wrap64 (i + 1)) := by
  simp only [dowserref01_Take.j6]
  rw [if_neg he]
  simp only [dowserref01_Take.j7]
  rw [if_neg (by simp)]
  exact end_err k p hp s got out e he P n i ho hk
/-- Bytes are taken, or there are too few. -/
theorem round_raw (k : Nat) (p : Part) (hp : GoodP p) (h0 : p.f0 ≠ 0) (h3 : p.f0 ≠ 3) (l : List UInt8) (got : ByteArray) (out : List ByteArray) (P : List Part) (n i m : Int) (hm : 0 ≤ m) (ho : out.length < 1000) (hk : 20 < k) :
    dowserref01_Take.j6 (k + 3) (mkS l) out 0 got m P n i p.f0 p.f1 p.f2 = dowserref01_Take.l0 k (mkS (rRaw l 0 m).2.1) (out ++ [mkS (rRaw l 0 m).1]) (rRaw l 0 m).2.2 P n (wrap64 (i + 1)) := by
  simp only [dowserref01_Take.j6]
  rw [if_pos trivial, if_neg h0]
  simp only [dowserref01_Take.j7]
  have hb : (p.f0 != 3) = true := by simpa using h3
  rw [hb, if_pos rfl, size_mk]
  unfold rRaw
  by_cases h : (l.length : Int) < m
  · rw [if_pos h, if_pos h, end_err k p hp _ _ out 2 (by omega) P n i ho hk, if_neg h0]
    simp only [rFail, if_true]
    rfl
  · rw [if_neg h, if_neg h, if_pos hm, if_pos (by omega), if_pos rfl]
    simp only [dowserref01_Take.j8]
    rw [if_pos trivial, if_pos (by omega), extract_to, show l.length = (mkS l).size from (size_mk l).symm, extract_from, lst_mk]
set_option maxHeartbeats 4000000 in
theorem round_ref (k : Nat) (p : Part) (hp : GoodP p) (l : List UInt8) (e : Int) (hl : e = 0 ∨ l = []) (hll : l.length ≤ 1000) (out : List ByteArray) (ho : out.length < 1000) (P : List Part) (i : Nat) (hi : i < P.length) (hpi : P[i] = p) (hP : P.length ≤ 1000) (hk : 4000 < k) :
    ∃ c, c ≤ 3 ∧ dowserref01_Take.l0 (k + 10) (mkS l) out e P (P.length : Int) (i : Int) = dowserref01_Take.l0 (k + c) (mkS (stepT p l e).2.1) (out ++ [mkS (stepT p l e).1]) (stepT p l e).2.2 P (P.length : Int) ((i + 1 : Nat) : Int) := by
  have hw : wrap64 ((i : Int) + 1) = ((i + 1 : Nat) : Int) := by unfold wrap64; omega
  have hlt : (i : Int) < (P.length : Int) := by omega
  have hk4 : 10 < k + 4 := by omega
  have hk1 : 20 < k + 1 := by omega
  simp only [dowserref01_Take.l0]
  rw [if_pos hlt, if_pos (by omega), if_pos hlt, rdT_get P i hi, hpi]
  by_cases he : e = 0
  · subst he
    by_cases h3 : p.f0 = 3
    · rw [if_pos h3]
      simp only [dowserref01_Take.j1]
      rw [if_pos (show ((0 : Int) == 0) = true from rfl)]
      simp only [dowserref01_Take.j2]
      rw [if_neg (by omega)]
      simp only [dowserref01_Take.j3]
      rw [if_neg (by simp)]
      refine ⟨3, Nat.le_refl _, ?_⟩
      rw [round_err (k + 3) p hp _ _ out 13 (by omega) P _ _ _ ho (by omega), hw]
      have : stepT p l 0 = ([], [], 13) := by unfold stepT rFail; rw [h3]; simp
      rw [this, if_neg (by omega)]
    · rw [if_neg h3]
      simp only [dowserref01_Take.j1]
      rw [if_neg (by simp)]
      simp only [dowserref01_Take.j2]
      rw [if_pos trivial]
      simp only [dowserref01_Take.j3]
      by_cases h2 : p.f0 < 2
      · have hd : decide (p.f0 < 2) = true := decide_eq_true h2
        have hS := scanL_le l 0 0 (by omega) (by omega)
        rw [hd, if_pos rfl, head_is (k + 6) (mkS l) (by rw [size_mk]; omega) (by rw [size_mk]; omega), Option.bind_some, lst_mk]
        simp only
        have hx : (scanL 0 0 l).1 < 18446744073709551616 := hS.1
        have hn : (scanL 0 0 l).2.1 ≤ l.length := by omega
        have hin : ¬ ((scanL 0 0 l).2.2 = 0 ∧ ¬ p.f1.toNat < (scanL 0 0 l).1) → ∃ c : Int, c ≠ 0 ∧ rNum l 0 p.f1.toNat = (0, [], c) ∧ dowserref01_Take.j4 (k + 6) (mkS l) out (⟨#[]⟩ : ByteArray) ((scanL 0 0 l).1 : Int) ((scanL 0 0 l).2.1 : Int) ((scanL 0 0 l).2.2 : Int) P (P.length : Int) (i : Int) (if ((scanL 0 0 l).2.2 : Int) = 0 then decide (((scanL 0 0 l).1 : Int) > p.f1) else false) p.f0 p.f1 p.f2 = dowserref01_Take.l0 (k + 1) (mkS []) (out ++ [mkS (if p.f0 = 0 then enc 0 else [])]) c P (P.length : Int) ((i + 1 : Nat) : Int) := by
          intro hno
          have h5 : ∀ c : Int, c ≠ 0 → dowserref01_Take.j5 (k + 5) (mkS l) out (⟨#[]⟩ : ByteArray) ((scanL 0 0 l).1 : Int) ((scanL 0 0 l).2.1 : Int) c P (P.length : Int) (i : Int) p.f0 p.f1 p.f2 = dowserref01_Take.l0 (k + 1) (mkS []) (out ++ [mkS (if p.f0 = 0 then enc 0 else [])]) c P (P.length : Int) ((i + 1 : Nat) : Int) := fun c hc => by
            simp only [dowserref01_Take.j5]
            rw [if_neg hc]
            by_cases h1 : p.f0 = 1
            · rw [if_pos h1, round_err (k + 1) p hp _ _ out c hc P _ _ _ ho (by omega), hw]
            · rw [if_neg h1, round_err (k + 1) p hp _ _ out c hc P _ _ _ ho (by omega), hw]
          simp only [dowserref01_Take.j4]
          by_cases hz : (scanL 0 0 l).2.2 = 0
          · have hbig : p.f1.toNat < (scanL 0 0 l).1 := by
              by_cases h : p.f1.toNat < (scanL 0 0 l).1
              · exact h
              · exact absurd ⟨hz, h⟩ hno
            refine ⟨4, by omega, by unfold rNum; rw [if_pos rfl, if_pos hz, if_pos hbig], ?_⟩
            have hz' : ((scanL 0 0 l).2.2 : Int) = 0 := by omega
            have hd' : decide (((scanL 0 0 l).1 : Int) > p.f1) = true := decide_eq_true (by have := hp.2.1; omega)
            rw [if_pos hz', if_pos hd']
            exact h5 4 (by omega)
          · refine ⟨((scanL 0 0 l).2.2 : Int), by omega, by unfold rNum; rw [if_pos rfl, if_neg hz], ?_⟩
            have hz' : ¬ ((scanL 0 0 l).2.2 : Int) = 0 := by omega
            rw [if_neg hz', if_neg (by simp)]
            exact h5 _ hz'
        have hmeet : ∀ R, (dowserref01_Take.j4 (k + 6) (mkS l) out (⟨#[]⟩ : ByteArray) ((scanL 0 0 l).1 : Int) ((scanL 0 0 l).2.1 : Int) ((scanL 0 0 l).2.2 : Int) P (P.length : Int) (i : Int) (if ((scanL 0 0 l).2.2 : Int) = 0 then decide (((scanL 0 0 l).1 : Int) > p.f1) else false) p.f0 p.f1 p.f2 = R) → (if ((scanL 0 0 l).2.2 : Int) = 0 then dowserref01_Take.j4 (k + 6) (mkS l) out (⟨#[]⟩ : ByteArray) ((scanL 0 0 l).1 : Int) ((scanL 0 0 l).2.1 : Int) ((scanL 0 0 l).2.2 : Int) P (P.length : Int) (i : Int) (decide (((scanL 0 0 l).1 : Int) > p.f1)) p.f0 p.f1 p.f2 else dowserref01_Take.j4 (k + 6) (mkS l) out (⟨#[]⟩ : ByteArray) ((scanL 0 0 l).1 : Int) ((scanL 0 0 l).2.1 : Int) ((scanL 0 0 l).2.2 : Int) P (P.length : Int) (i : Int) false p.f0 p.f1 p.f2) = R := fun R h => by
          by_cases hz : ((scanL 0 0 l).2.2 : Int) = 0
          · rw [if_pos hz] at h ⊢; exact h
          · rw [if_neg hz] at h ⊢; exact h
        by_cases hok : (scanL 0 0 l).2.2 = 0 ∧ ¬ p.f1.toNat < (scanL 0 0 l).1
        · have hN : rNum l 0 p.f1.toNat = ((scanL 0 0 l).1, l.drop (scanL 0 0 l).2.1, 0) := by
            unfold rNum; rw [if_pos rfl, if_pos hok.1, if_neg hok.2]
          have hz : ((scanL 0 0 l).2.2 : Int) = 0 := by omega
          refine ⟨1, by omega, hmeet _ ?_⟩
          rw [if_pos hz]
          simp only [dowserref01_Take.j4]
          have hd' : ¬ decide (((scanL 0 0 l).1 : Int) > p.f1) = true := by rw [decide_eq_true_iff]; have := hp.2.1; have := hok.2; omega
          rw [if_neg hd']
          simp only [dowserref01_Take.j5]
          have q0 : (0 : Int) ≤ ((scanL 0 0 l).2.1 : Int) := Int.natCast_nonneg _
          have q1 : ((scanL 0 0 l).2.1 : Int) ≤ ((mkS l).size : Int) := by rw [size_mk]; exact Int.ofNat_le.2 hn
          rw [if_pos hz, if_pos q0, if_pos q1, refnum_is (k + 4) _ hx hk4, Option.bind_some, Int.toNat_natCast, extract_from, lst_mk, hz]
          by_cases h1 : p.f0 = 1
          · have hb := hp.2.2.2 h1
            have hwx : wrap64 ((scanL 0 0 l).1 : Int) = ((scanL 0 0 l).1 : Int) := small_of (Nat.le_of_not_lt hok.2) hp.2.1 hb
            have r0 : p.f0 ≠ 0 := by rw [h1]; decide
            have r3 : p.f0 ≠ 3 := by rw [h1]; decide
            rw [if_pos h1, hwx, round_raw (k + 1) p hp r0 r3 _ _ out P _ _ _ (Int.natCast_nonneg _) ho hk1, hw]
            have : stepT p l 0 = rRaw (l.drop (scanL 0 0 l).2.1) 0 ((scanL 0 0 l).1 : Int) := by
              unfold stepT rText; rw [if_neg r0, if_pos h1, hN]
            rw [this]
          · have h00 : p.f0 = 0 := by rcases hp.1 with h | h | h | h <;> omega
            rw [if_neg h1]
            simp only [dowserref01_Take.j6]
            rw [if_pos trivial, if_pos h00]
            simp only [dowserref01_Take.j7]
            rw [if_neg (by simp)]
            simp only [dowserref01_Take.j8]
            rw [if_pos trivial, if_pos (by omega), hw]
            have : stepT p l 0 = (enc (scanL 0 0 l).1, l.drop (scanL 0 0 l).2.1, 0) := by
              unfold stepT; rw [if_pos h00, hN]
            rw [this]
        · obtain ⟨c, hc, hN, hj⟩ := hin hok
          refine ⟨1, by omega, hmeet _ ?_⟩
          rw [hj]
          have : stepT p l 0 = (if p.f0 = 0 then enc 0 else [], [], c) := by
            unfold stepT rText
            rw [hN]
            by_cases h00 : p.f0 = 0
            · rw [if_pos h00, if_pos h00]
            · have h1 : p.f0 = 1 := by rcases hp.1 with h | h | h | h <;> omega
              rw [if_neg h00, if_pos h1, if_neg h00]
              unfold rRaw rFail
              simp [hc]
          rw [this]
      · have hd : decide (p.f0 < 2) = false := decide_eq_false h2
        have h22 : p.f0 = 2 := by rcases hp.1 with h | h | h | h <;> omega
        rw [hd, if_neg (by simp)]
        refine ⟨3, Nat.le_refl _, ?_⟩
        rw [round_raw (k + 3) p hp (by omega) h3 l _ out P _ _ _ (by unfold mx; split <;> omega) ho (by omega), hw]
        have : stepT p l 0 = rRaw l 0 (mx p.f2 0) := by unfold stepT; rw [if_neg (by omega), if_neg (by omega), if_pos h22]
        rw [this]
  · have hn : l = [] := hl.resolve_left he
    subst hn
    have hb : (e == 0) = false := by simpa using he
    have key : dowserref01_Take.j1 (k + 9) (mkS []) out e (⟨#[]⟩ : ByteArray) (mx p.f2 0) P (P.length : Int) (i : Int) false p.f0 p.f1 p.f2 = dowserref01_Take.l0 (k + 3) (mkS (stepT p [] e).2.1) (out ++ [mkS (stepT p [] e).1]) (stepT p [] e).2.2 P (P.length : Int) ((i + 1 : Nat) : Int) := by
      simp only [dowserref01_Take.j1]
      rw [if_neg (by simp)]
      simp only [dowserref01_Take.j2]
      rw [if_neg he]
      simp only [dowserref01_Take.j3]
      rw [if_neg (by simp), round_err (k + 3) p hp _ _ out e he P _ _ _ ho (by omega), hw, stepT_err p hp e he]
    refine ⟨3, Nat.le_refl _, ?_⟩
    rw [hb]
    by_cases h3 : p.f0 = 3
    · rw [if_pos h3]; exact key
    · rw [if_neg h3]; exact key
theorem take_loop (P : List Part) (hP : P.length ≤ 100) (hg : ∀ p ∈ P, GoodP p) (d : Nat) : ∀ (k i : Nat) (l : List UInt8) (e : Int) (out : List ByteArray), P.length - i = d → i ≤ P.length → out.length ≤ i → (e = 0 ∨ l = []) → l.length ≤ 1000 → 10 * d + 4001 < k →
    dowserref01_Take.l0 k (mkS l) out e P (P.length : Int) (i : Int) = some (out ++ (takeL (P.drop i) l e).1.map mkS, mkS (takeL (P.drop i) l e).2.1, (takeL (P.drop i) l e).2.2) := by
  induction d with
  | zero =>
    intro k i l e out hd hi ho hl hll hk
    obtain ⟨k, rfl⟩ : ∃ m, k = m + 1 := ⟨k - 1, by omega⟩
    simp only [dowserref01_Take.l0]
    rw [if_neg (by omega), List.drop_eq_nil_of_le (by omega)]
    simp [takeL]
  | succ d ih =>
    intro k i l e out hd hi ho hl hll hk
    obtain ⟨k, rfl⟩ : ∃ m, k = m + 10 := ⟨k - 10, by omega⟩
    have hlt : i < P.length := by omega
    obtain ⟨c, hc, hr⟩ := round_ref k P[i] (hg _ (List.getElem_mem hlt)) l e hl hll out (by omega) P i hlt rfl (by omega) (by omega)
    have h1 := stepT_left P[i] l e hl
    have h2 := stepT_len P[i] l e
    rw [hr, ih (k + c) (i + 1) _ _ _ (by omega) (by omega) (by rw [List.length_append, List.length_singleton]; omega) h1 (by omega) (by omega), List.drop_eq_getElem_cons hlt, takeL]
    simp only [List.map_cons, List.append_assoc, List.singleton_append]
theorem take_is (k : Nat) (P : List Part) (hP : P.length ≤ 100) (hg : ∀ p ∈ P, GoodP p) (l : List UInt8) (hll : l.length ≤ 1000) (hk : 6000 < k) :
    dowserref01_Take.f k (mkS l) P = some ((takeL P l 0).1.map mkS, mkS (takeL P l 0).2.1, (takeL P l 0).2.2) := by
  unfold dowserref01_Take.f
  have := take_loop P hP hg P.length k 0 l 0 [] (by omega) (by omega) (by simp) (Or.inl rfl) hll (by omega)
  rw [List.drop_zero, List.nil_append] at this
  exact this
end Go.Proofs.Ytfkgidiedpkbdaa.PT

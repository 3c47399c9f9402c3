/- Plain facts about sets of numbers and their bytes: how many there are, and each one's way from the one before. -/
import Derived.Test.YtefiadhmcdfdoaaVarPlain
namespace Go.Proofs.Ytefiadhmcdfdoaa.SetPlain
open Go Go.Proofs.Ytefiadhmcdfdoaa.VarPlain

/-- The numbers' bytes, behind a last one. -/
def encGo (last : Int) : List Int → List UInt8
  | [] => []
  | x :: l => enc (x - last - 1).toNat ++ encGo x l
/-- They rise, behind a last one, and none is too great. -/
def Rise (last : Int) : List Int → Prop
  | [] => True
  | x :: l => last < x ∧ x ≤ 2147483647 ∧ Rise x l
def Srt : List Int → Prop
  | a :: b :: l => a < b ∧ Srt (b :: l)
  | _ => True
instance decRise : ∀ (l : List Int) (last : Int), Decidable (Rise last l)
  | [], _ => isTrue trivial
  | x :: l, last => by
    unfold Rise
    exact @instDecidableAnd _ _ _ (@instDecidableAnd _ _ _ (decRise l x))
instance decSrt : ∀ (l : List Int), Decidable (Srt l)
  | [] => isTrue trivial
  | [_] => isTrue trivial
  | a :: b :: l => by
    unfold Srt
    exact @instDecidableAnd _ _ _ (decSrt (b :: l))
def encAll (l : List Int) : List UInt8 := enc l.length ++ encGo (-1) l

theorem srt_le : ∀ (l : List Int) (x : Int), Srt (x :: l) → x ≤ (x :: l).getLastD 0 := by
  intro l
  induction l with
  | nil => intro x _; exact Int.le_refl _
  | cons y l ih =>
    intro x h
    unfold Srt at h
    have := ih y h.2
    show x ≤ (y :: l).getLastD 0
    omega
theorem rise_srt : ∀ (l : List Int) (x last : Int), Rise last (x :: l) ↔ last < x ∧ Srt (x :: l) ∧ (x :: l).getLastD 0 ≤ 2147483647 := by
  intro l
  induction l with
  | nil => intro x last; unfold Rise Rise Srt; show _ ↔ _ ∧ _ ∧ x ≤ _; simp
  | cons y l ih =>
    intro x last
    rw [Rise, ih y x, Srt]
    show _ ↔ _ ∧ _ ∧ (y :: l).getLastD 0 ≤ _
    constructor
    · rintro ⟨h1, _, h3, h4, h5⟩; exact ⟨h1, ⟨h3, h4⟩, h5⟩
    · rintro ⟨h1, ⟨h3, h4⟩, h5⟩
      have := srt_le l y h4
      exact ⟨h1, by omega, h3, h4, h5⟩
theorem getD_last : ∀ (l : List Int) (x : Int), (x :: l).getD ((x :: l).length - 1) 0 = (x :: l).getLastD 0 := by
  intro l
  induction l with
  | nil => intro x; rfl
  | cons y l ih => intro x; exact ih y
/-- As Encode asks it: they rise, and the first one and the last one may be. -/
theorem rise_iff (l : List Int) (hl : 0 < l.length) : Rise (-1) l ↔ Srt l ∧ (0 ≤ l.getD 0 0 ∧ l.getD 0 0 ≤ 2147483647) ∧ (0 ≤ l.getD (l.length - 1) 0 ∧ l.getD (l.length - 1) 0 ≤ 2147483647) := by
  cases l with
  | nil => simp at hl
  | cons x l =>
    rw [rise_srt, getD_last]
    show _ ↔ _ ∧ (0 ≤ x ∧ x ≤ _) ∧ _
    constructor
    · rintro ⟨h1, h2, h3⟩
      have := srt_le l x h2
      exact ⟨h2, ⟨by omega, by omega⟩, by omega, h3⟩
    · rintro ⟨h2, ⟨h1, _⟩, _, h3⟩
      exact ⟨by omega, h2, h3⟩

theorem encGo_len : ∀ (l : List Int) (last : Int), Rise last l → -1 ≤ last → (encGo last l).length ≤ 10 * l.length := by
  intro l
  induction l with
  | nil => intro last _ _; exact Nat.le_refl _
  | cons x l ih =>
    intro last h h1
    unfold Rise at h
    unfold encGo
    have h2 := ih x h.2.2 (by omega)
    have h3 := enc_len_u64 (x := (x - last - 1).toNat) (by omega)
    rw [List.length_append, List.length_cons]
    omega
theorem encGo_inj : ∀ (l m : List Int) (last : Int), Rise last l → Rise last m → -1 ≤ last → l.length = m.length → encGo last l = encGo last m → l = m := by
  intro l
  induction l with
  | nil => intro m last _ _ _ h _; cases m with
    | nil => rfl
    | cons _ _ => simp at h
  | cons x l ih =>
    intro m last hl hm h1 hlen he
    cases m with
    | nil => simp at hlen
    | cons y m =>
      unfold Rise at hl hm
      unfold encGo at he
      obtain ⟨e1, e2⟩ := enc_begins (by omega) (by omega) he
      have e3 : x = y := by omega
      subst e3
      rw [ih m x hl.2.2 hm.2.2 (by omega) (by simpa using hlen) e2]
theorem encAll_inj {l m : List Int} (hl : Rise (-1) l) (hm : Rise (-1) m) (h1 : l.length < 18446744073709551616) (h2 : m.length < 18446744073709551616) (h : encAll l = encAll m) : l = m := by
  unfold encAll at h
  obtain ⟨e1, e2⟩ := enc_begins h1 h2 h
  exact encGo_inj l m (-1) hl hm (Int.le_refl _) e1 e2
end Go.Proofs.Ytefiadhmcdfdoaa.SetPlain

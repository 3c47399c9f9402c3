/- A set of near numbers takes a byte for each, and one for how many there are: the pure statement of SetcodeSizes, for every three numbers. -/
import Derived.Test.YtefiadhmcdfdoaaPAx12
import Derived.Test.YtefiadhmcdfdoaaPAx15
import Derived.Test.YtefiadhmcdfdoaaSetAwake
namespace Go.Proofs.Ytefiadhmcdfdoaa.Pure
open Go.RowKit Go.Proofs.Ytefiadhmcdfdoaa.PA Go.Proofs.YtefiadhmcdfdoaaW.PrintWords Go.Proofs.YtefiadhmcdfdoaaW.PrintLast Go.Proofs.Ytefiadhmcdfdoaa.VarPlain Go.Proofs.Ytefiadhmcdfdoaa.SetPlain
def near (from_ step : Int) : Nat → Nat → List Int
  | _, 0 => []
  | i, n + 1 => (from_ + (i : Int) * step) :: near from_ step (i + 1) n
theorem near_len (f s : Int) : ∀ n i, (near f s i n).length = n := by
  intro n
  induction n with
  | zero => intro i; rfl
  | succ n ih => intro i; show (near f s (i + 1) n).length + 1 = _; rw [ih]
theorem near_snoc (f s : Int) : ∀ n i, near f s i (n + 1) = near f s i n ++ [f + ((i + n : Nat) : Int) * s] := by
  intro n
  induction n with
  | zero => intro i; rfl
  | succ n ih =>
    intro i
    show (f + (i : Int) * s) :: near f s (i + 1) (n + 1) = (f + (i : Int) * s) :: near f s (i + 1) n ++ _
    rw [ih (i + 1), List.cons_append, show i + 1 + n = i + (n + 1) by omega]
theorem near_rise (f s : Int) (hf0 : 0 ≤ f) (hf : f ≤ 100) (hs0 : 1 ≤ s) (hs : s ≤ 128) : ∀ (n i : Nat) (last : Int), i + n ≤ 200 → last < f + (i : Int) * s → f + (i : Int) * s - last ≤ 128 →
    Rise last (near f s i n) ∧ (encGo last (near f s i n)).length = n := by
  intro n
  induction n with
  | zero => intro i last _ _ _; exact ⟨trivial, rfl⟩
  | succ n ih =>
    intro i last hi h1 h2
    have e : f + ((i + 1 : Nat) : Int) * s = f + (i : Int) * s + s := by rw [show ((i + 1 : Nat) : Int) = (i : Int) + 1 from rfl, Int.add_mul]; omega
    obtain ⟨g1, g2⟩ := ih (i + 1) (f + (i : Int) * s) (by omega) (by rw [e]; omega) (by rw [e]; omega)
    have hm : (i : Int) * s ≤ 200 * 128 := Int.mul_le_mul (by omega) hs (by omega) (by omega)
    refine ⟨⟨h1, by omega, g1⟩, ?_⟩
    show (enc (f + (i : Int) * s - last - 1).toNat ++ encGo (f + (i : Int) * s) (near f s (i + 1) n)).length = _
    rw [List.length_append, g2, enc_small (by omega), List.length_singleton]
    omega
theorem sizes_loop (f s : Int) (hf0 : 0 ≤ f) (hf : f ≤ 100) (hs0 : 1 ≤ s) (hs : s ≤ 128) (n : Nat) (hn : n ≤ 100) (d : Nat) : ∀ (k i : Nat), n - i = d → i ≤ n → d + 500 < k →
    dowserlaw13_SetcodeSizes.l0 k f s (n : Int) (near f s 0 i) (n : Int) (i : Int) = some true := by
  induction d with
  | zero =>
    intro k i hd hi hk
    obtain ⟨k, rfl⟩ : ∃ m, k = m + 1 := ⟨k - 1, by omega⟩
    obtain rfl : i = n := by omega
    obtain ⟨hr, hlen⟩ := near_rise f s hf0 hf hs0 hs i 0 (-1) (by omega) (by omega) (by omega)
    have hl := near_len f s i 0
    have he := enc_is k (near f s 0 i) (by omega) (by omega)
    rw [if_pos hr] at he
    have hsz : (mkS (encAll (near f s 0 i))).size = i + 1 := by
      rw [size_mk]; unfold encAll
      rw [List.length_append, hlen, hl, enc_small (by omega), List.length_singleton]; omega
    simp only [dowserlaw13_SetcodeSizes.l0]
    rw [if_neg (by omega), he]
    simp only [Option.bind_some, if_true, setcode_Size.f]
    rw [he]
    simp only [Option.bind_some]
    rw [if_pos (by rw [hsz]; rfl), hsz]
    simp
  | succ d ih =>
    intro k i hd hi hk
    obtain ⟨k, rfl⟩ : ∃ m, k = m + 1 := ⟨k - 1, by omega⟩
    have hA : n - (i + 1) = d := by omega
    have hB : i + 1 ≤ n := by omega
    have hC : d + 500 < k := by omega
    have h1 : (i : Int) < (n : Int) := by omega
    have e3 : wrap64 ((i : Int) + 1) = ((i + 1 : Nat) : Int) := by rw [w64 (by omega) (by omega)]; omega
    have hl := near_len f s i 0
    have h2 : (near f s 0 i).length < 17592186044416 := by omega
    have hm : (i : Int) * s ≤ 200 * 128 := Int.mul_le_mul (by omega) hs (by omega) (by omega)
    have hm0 : 0 ≤ (i : Int) * s := Int.mul_nonneg (by omega) (by omega)
    have e1 : wrap64 ((i : Int) * s) = (i : Int) * s := w64 (by omega) (by omega)
    have e2 : wrap64 (f + (i : Int) * s) = f + (i : Int) * s := w64 (by omega) (by omega)
    have e4 := near_snoc f s i 0
    rw [Nat.zero_add] at e4
    simp only [dowserlaw13_SetcodeSizes.l0]
    rw [if_pos h1, if_pos h2, e1, e2, e3, ← e4]
    exact ih k (i + 1) hA hB hC
theorem held (a lo hi : Int) (h : lo ≤ hi) : lo ≤ mx lo (mn a hi) ∧ mx lo (mn a hi) ≤ hi := by
  unfold mx mn
  by_cases c : hi < a
  · rw [if_pos c]; split <;> omega
  · rw [if_neg c]; split <;> omega
theorem SetcodeSizes : dowserlaw13_SetcodeSizes.Pure := by
  intro a0 a1 a2 h0 h1 h2
  clear h0 h1 h2
  have hf := held a0 0 100 (by omega)
  have hs := held a1 1 128 (by omega)
  have hn := held a2 0 100 (by omega)
  refine ⟨1000, ?_⟩
  have ha := awake13_is 1000 (by omega)
  unfold dowserlaw13_SetcodeSizes.f
  rw [ha]
  simp only [Option.bind_some, if_true]
  generalize mx 0 (mn a0 100) = f at hf ⊢
  generalize mx 1 (mn a1 128) = s at hs ⊢
  generalize mx 0 (mn a2 100) = n' at hn ⊢
  obtain ⟨n, rfl⟩ := Int.eq_ofNat_of_zero_le hn.1
  have hn2 : n ≤ 100 := by omega
  exact sizes_loop f s hf.1 hf.2 hs.1 hs.2 n hn2 n 1000 0 rfl (Nat.zero_le _) (by omega)
end Go.Proofs.Ytefiadhmcdfdoaa.Pure

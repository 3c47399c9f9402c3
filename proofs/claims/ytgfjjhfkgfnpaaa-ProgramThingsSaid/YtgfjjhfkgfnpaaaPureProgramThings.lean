/- Each function is one thing more, behind all others, of every program. Conditions: those of the statement's arguments. -/
import Derived.Test.YtgfjjhfkgfnpaaaThings
import Derived.Test.YtgfjjhfkgfnpaaaPBx20
import Derived.Test.YtgfjjhfkgfnpaaaTools
namespace Go.Proofs.Ytgfjjhfkgfnpaaa.ProgCheck
open Go Go.RowKit Go.Proofs.Ytgfjjhfkgfnpaaa.PB Go.Proofs.YtgfjjhfkgfnpaaaW.PrintWords Go.Proofs.YtgfjjhfkgfnpaaaW.PrintLast Go.Proofs.YtgfjjhfkgfnpaaaW.PrintMore Go.Proofs.Ytgfjjhfkgfnpaaa.Tools
set_option linter.unusedVariables false
set_option linter.unusedSimpArgs false
def oF (x : S52) : S45 := ⟨x.f0, x.f1⟩
def oO (x : S53) : S42 := ⟨x.f0, x.f1, x.f2, x.f3, x.f4, x.f5, x.f6⟩
theorem at52 (l : List S52) (i : Nat) (hi : i < l.length) : rd_T52 l (i : Int) = l[i] := by unfold rd_T52; rw [Int.toNat_natCast, List.getD_eq_getElem?_getD, List.getElem?_eq_getElem hi]; rfl
theorem at53 (l : List S53) (i : Nat) (hi : i < l.length) : rd_T53 l (i : Int) = l[i] := by unfold rd_T53; rw [Int.toNat_natCast, List.getD_eq_getElem?_getD, List.getElem?_eq_getElem hi]; rfl
section own
variable (a0 a1 a2 : Int) (F : List S52) (E : List Int) (O : List S53)
theorem made_l1 (r0 r1 r2 : Int) (r3 : List S45) (r4 : List Int) (hl : O.length < 1000000) (hO : ∀ o ∈ O, o.f5.length < 41) (d : Nat) : ∀ (K k i : Nat) (acc : List S42), O.length - i = d → K = k + d + 1 → acc.length ≤ i → dowserlaw15_Own.l1 K O (O.length : Int) (i : Int) r0 r1 r2 r3 r4 acc = some (r0, r1, r2, r3, r4, acc ++ (O.drop i).map oO) := by
  induction d with
  | zero =>
    intro K k i acc hd hK ha
    obtain rfl : K = k + 1 := by omega
    rw [dowserlaw15_Own.l1, if_neg (by omega), List.drop_eq_nil_of_le (by omega), List.map_nil, List.append_nil]
  | succ d ih =>
    intro K k i acc hd hK ha
    obtain ⟨K, rfl⟩ : ∃ m, K = m + 1 := ⟨k + d + 1, by omega⟩
    rw [dowserlaw15_Own.l1]
    have hi : i < O.length := by omega
    have hm := hO _ (List.getElem_mem hi)
    rw [if_pos (by omega), if_pos (by omega), if_pos (by omega), at53 O i hi, w_succ (by omega), Option.bind_some, if_pos (by simp only [List.length_nil]; omega), if_pos (by omega), ih K k (i + 1) _ (by omega) (by omega) (by rw [List.length_append, List.length_singleton]; omega), List.drop_eq_getElem_cons hi, List.map_cons, List.append_assoc]
    rfl
theorem made_l0 (hl : F.length < 1000000) (hF : ∀ f ∈ F, f.f0.length < 41) (b0 b1 b2 r0 r1 r2 : Int) (F' : List S52) (E' r4 : List Int) (d : Nat) : ∀ (K k i : Nat) (acc : List S45), F.length - i = d → K = k + d + 1 → acc.length ≤ i → dowserlaw15_Own.l0 K F (F.length : Int) (i : Int) b0 b1 b2 F' E' O r0 r1 r2 acc r4 = dowserlaw15_Own.l1 k O (O.length : Int) 0 r0 r1 r2 (acc ++ (F.drop i).map oF) r4 [] := by
  induction d with
  | zero =>
    intro K k i acc hd hK ha
    obtain rfl : K = k + 1 := by omega
    rw [dowserlaw15_Own.l0, if_neg (by omega), List.drop_eq_nil_of_le (by omega), List.map_nil, List.append_nil]
  | succ d ih =>
    intro K k i acc hd hK ha
    obtain ⟨K, rfl⟩ : ∃ m, K = m + 1 := ⟨k + d + 1, by omega⟩
    rw [dowserlaw15_Own.l0]
    have hi : i < F.length := by omega
    have hm := hF _ (List.getElem_mem hi)
    rw [if_pos (by omega), if_pos (by omega), if_pos (by omega), at52 F i hi, w_succ (by omega), Option.bind_some, if_pos (by simp only [List.length_nil]; omega), if_pos (by omega), ih K k (i + 1) _ (by omega) (by omega) (by rw [List.length_append, List.length_singleton]; omega), List.drop_eq_getElem_cons hi, List.map_cons, List.append_assoc]
    rfl
theorem made_f (k : Nat) (hE : E.length < 1000000) (hF : F.length < 1000000) (hO : O.length < 1000000) (hF2 : ∀ f ∈ F, f.f0.length < 41) (hO2 : ∀ o ∈ O, o.f5.length < 41) : dowserlaw15_Own.f (k + O.length + 1 + F.length + 1) a0 a1 a2 F E O = some (a0, a1, a2, F.map oF, E, O.map oO) := by
  have h0 := made_l0 F O hF hF2 a0 a1 a2 a0 a1 a2 F E E F.length _ (k + O.length + 1) 0 [] (by omega) rfl (Nat.le_refl _)
  have h1 := made_l1 O a0 a1 a2 (F.map oF) E hO hO2 O.length _ k 0 [] (by omega) rfl (Nat.le_refl _)
  simp only [Int.ofNat_zero, Int.natCast_zero, List.drop_zero, List.nil_append] at h0 h1
  unfold dowserlaw15_Own.f
  rw [Option.bind_some, if_pos (by simp only [List.length_nil]; omega), List.nil_append, h0, h1]
end own
theorem up {α : Type} {g : Nat → Option α} (hm : ∀ k, LeO (g k) (g (k + 1))) {k k' : Nat} {r : α} (h : g k = some r) (hk : k ≤ k') : g k' = some r := by
  obtain ⟨n, rfl⟩ := Nat.le.dest hk
  induction n with
  | zero => exact h
  | succ n ih => exact hm _ _ (ih (by omega))
end Go.Proofs.Ytgfjjhfkgfnpaaa.ProgCheck
namespace Go.Proofs.Ytgfjjhfkgfnpaaa.Pure
open Go Go.RowKit Go.Proofs.Ytgfjjhfkgfnpaaa.PB Go.Proofs.YtgfjjhfkgfnpaaaW.PrintWords Go.Proofs.Ytgfjjhfkgfnpaaa.ProgCheck
set_option maxRecDepth 100000 in
theorem awake15t : dowserlaw15_awake.f 30 = some true := by kernel_rfl
theorem ProgramThings : dowserlaw15_ProgramThings.Pure := by
  intro a0 a1 a2 F E O t _ _ _ _ _ _ _
  refine ⟨2000, ?_⟩
  unfold dowserlaw15_ProgramThings.f
  rw [up (g := fun k => dowserlaw15_awake.f k) (fun k => dowserlaw15_awake.mono k) awake15t (by omega : 30 ≤ 2000), Option.bind_some, if_pos rfl]
  obtain ⟨⟨V, U, Y, G, E', O'⟩, hR⟩ : ∃ z, right15 a0 a1 a2 F E O 4 = z := ⟨_, rfl⟩
  have hr := right15_few a0 a1 a2 F E O 4 4 (by decide) hR
  rw [hR]
  simp only
  have h3 := made_f V U Y G E' O' 0 (by omega) (by omega) (by omega) hr.2.2.2.1 hr.2.2.2.2.1
  rw [up (g := fun k => dowserlaw15_Own.f k V U Y G E' O') (fun k => dowserlaw15_Own.mono _ _ _ _ _ _ k) h3 (by omega : _ ≤ 2000), Option.bind_some]
  simp only
  rw [if_pos]
  rw [List.length_map]
  exact ⟨hr.2.2.2.2.2.1, hr.2.2.2.2.2.2, hr.1⟩
end Go.Proofs.Ytgfjjhfkgfnpaaa.Pure

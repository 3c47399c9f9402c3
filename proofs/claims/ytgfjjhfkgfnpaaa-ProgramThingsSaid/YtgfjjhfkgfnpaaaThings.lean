/- The law ProgramThings: what it answers; what Right makes is of few members. No conditions. -/
import Derived.Test.YtgfjjhfkgfnpaaaRightOps
import Derived.Test.YtgfjjhfkgfnpaaaRightEnt
import Derived.Test.YtgfjjhfkgfnpaaaRightFin
import Derived.Test.YtgfjjhfkgfnpaaaThingsH
namespace Go.Proofs.Ytgfjjhfkgfnpaaa.PB
open Go.RowKit Go.Proofs.YtgfjjhfkgfnpaaaW.PrintWords Go.Proofs.YtgfjjhfkgfnpaaaW.PrintLast Go.Proofs.YtgfjjhfkgfnpaaaW.PrintMore
set_option linter.unusedVariables false
set_option linter.unusedSimpArgs false
theorem dowserlaw15_Right.got : GotSaid := right15_front (right15_entry right15_ops)
theorem right15_ : RightSaid := by
  unfold RightSaid
  intro a0 a1 a2 A3 c3 l3 A4 c4 l4 A5 c5 l5 ops hop w hr3 hc3 hr4 hc4 hr5 hc5 V U Y G E O h
  unfold right15 at h
  simp only [Prod.mk.injEq] at h
  obtain ⟨rfl, rfl, rfl, rfl, rfl, rfl⟩ := h
  refine (dowserlaw15_Right.got a0 a1 a2 A3 c3 l3 A4 c4 l4 A5 c5 l5 ops hop w hr3 hc3 hr4 hc4 hr5 hc5).mono ?_
  rintro e w' ⟨V, U, Y, nf, EL, OL, B3, d3, B4, ne, d4, B5, no, d5, rfl, ⟨rfl, rfl, rfl, rfl, rfl, rfl⟩, h3, ⟨rfl, h4⟩, ⟨rfl, h5⟩, hb⟩
  exact ⟨B3, d3, B4, d4, B5, d5, rfl, h3, h4, h5, hb⟩
theorem dowserlaw15_ProgramThings.calls (k : Nat) (a0_0 : Int) (a0_1 : Int) (a0_2 : Int) (A0_3 : Option Addr) (c0_3 : Nat) (l0_3 : List (S52)) (A0_4 : Option Addr) (c0_4 : Nat) (l0_4 : List Int) (A0_5 : Option Addr) (c0_5 : Nat) (l0_5 : List (S53)) (a1 : Int) (r : Bool) (w : World) (hr0_3 : Kd.C k52 w A0_3 l0_3.length l0_3) (hc0_3 : l0_3.length ≤ c0_3) (hr0_4 : Kd.C (Kd.int .i64) w A0_4 l0_4.length l0_4) (hc0_4 : l0_4.length ≤ c0_4) (hr0_5 : Kd.C k53 w A0_5 l0_5.length l0_5) (hc0_5 : l0_5.length ≤ c0_5) (h : dowserlaw15_ProgramThings.f k a0_0 a0_1 a0_2 l0_3 l0_4 l0_5 a1 = some r) :
    Calls Try.prog 6 #[.agg #[.int .i64 a0_0, .int .i64 a0_1, .int .i64 a0_2, .slice A0_3 l0_3.length c0_3, .slice A0_4 l0_4.length c0_4, .slice A0_5 l0_5.length c0_5], .int .i64 a1] w fun e w' => e = .returned (.bool r) ∧ Below w.heap.size w w' := dowserlaw15_ProgramThings.callsH right15_ k a0_0 a0_1 a0_2 A0_3 c0_3 l0_3 A0_4 c0_4 l0_4 A0_5 c0_5 l0_5 a1 r w hr0_3 hc0_3 hr0_4 hc0_4 hr0_5 hc0_5 h
/-- THE ONE PURE STATEMENT of the law. -/
def dowserlaw15_ProgramThings.Pure : Prop := ∀ (a0_0 : Int) (a0_1 : Int) (a0_2 : Int) (l0_3 : List (S52)) (l0_4 : List Int) (l0_5 : List (S53)) (a1 : Int), (Lit.int .i64 a0_0).wf = true → (Lit.int .i64 a0_1).wf = true → (Lit.int .i64 a0_2).wf = true → (l0_3.length ≤ maxLen ∧ ∀ y249 ∈ l0_3, ((y249.f0.length ≤ maxLen ∧ ∀ y250 ∈ y249.f0, (Lit.int .i64 y250).wf = true) ∧ (Lit.int .i64 y249.f1).wf = true)) → (l0_4.length ≤ maxLen ∧ ∀ y251 ∈ l0_4, (Lit.int .i64 y251).wf = true) → (l0_5.length ≤ maxLen ∧ ∀ y252 ∈ l0_5, ((Lit.int .i64 y252.f0).wf = true ∧ (Lit.int .i64 y252.f1).wf = true ∧ (Lit.int .i64 y252.f2).wf = true ∧ (Lit.int .i64 y252.f3).wf = true ∧ (Lit.int .i64 y252.f4).wf = true ∧ (y252.f5.length ≤ maxLen ∧ ∀ y253 ∈ y252.f5, (Lit.int .i64 y253).wf = true) ∧ (Lit.float .f64 y252.f6).wf = true)) → (Lit.int .i64 a1).wf = true → ∃ k, dowserlaw15_ProgramThings.f k a0_0 a0_1 a0_2 l0_3 l0_4 l0_5 a1 = some true
end Go.Proofs.Ytgfjjhfkgfnpaaa.PB
namespace Go.Proofs.Ytgfjjhfkgfnpaaa.ProgCheck
open Go Go.RowKit Go.Proofs.Ytgfjjhfkgfnpaaa.PB Go.Proofs.YtgfjjhfkgfnpaaaW.PrintWords
theorem fun15g_mem (V : Int) (l : List S52) : ∀ f ∈ fun15g V l, f.f0.length < 41 := by
  intro f hf
  unfold fun15g at hf
  split at hf
  · simp only [List.mem_singleton] at hf
    subst hf
    decide
  · obtain ⟨x, _, rfl⟩ := List.mem_map.1 hf
    have := vars15_len V x.f0
    simp only
    omega
theorem ops15_mem (V U Y n : Int) (l : List S53) : ∀ o ∈ ops15 V U Y n l, o.f5.length < 41 := by
  intro o ho
  obtain ⟨x, _, rfl⟩ := List.mem_map.1 ho
  unfold op15
  split
  · have := vars15_len V x.f5
    simp only
    omega
  · exact (by decide : ([] : List Int).length < 41)
theorem right15_few (a0 a1 a2 : Int) (l3 : List S52) (l4 : List Int) (l5 : List S53) (ops : Int) (m : Nat) (hm : ops ≤ (m : Int)) {V U Y : Int} {G : List S52} {E : List Int} {O : List S53} (h : right15 a0 a1 a2 l3 l4 l5 ops = (V, U, Y, G, E, O)) :
    (1 ≤ G.length ∧ G.length ≤ 8) ∧ E.length ≤ 8 ∧ O.length ≤ m ∧ (∀ f ∈ G, f.f0.length < 41) ∧ (∀ o ∈ O, o.f5.length < 41) ∧ 1 ≤ U ∧ U ≤ 12 := by
  unfold right15 at h
  simp only [Prod.mk.injEq] at h
  obtain ⟨rfl, rfl, rfl, rfl, rfl, rfl⟩ := h
  have hg := fun15g_len (1 + a0 % 30) l3
  have he := ent15_len ((fun15g (1 + a0 % 30) l3).length : Int) l4 (fun15g (1 + a0 % 30) l3).length
  refine ⟨hg, by omega, ?_, fun15g_mem _ _, ops15_mem _ _ _ _ _, by omega, by omega⟩
  unfold ops15
  rw [List.length_map, List.length_take]
  omega
end Go.Proofs.Ytgfjjhfkgfnpaaa.ProgCheck

-- what a law is handed, opened by kind: a type's cells that are read are of a kind of the words
import Derived.Test.YtgfjjhfkgfnpaaaWMore
import Derived.WalkKit
import Derived.ProofKit
import Derived.OpenShut
import Derived.ShutString
import Derived.ChangeOld
import Derived.ChangeSlices
import Derived.Below
import Derived.DataElems
namespace Go.Proofs.Ytgfjjhfkgfnpaaa.Opens
open Go Go.RowKit Go.ChangeShapes Go.WideShapes Go.ChangeAt Go.Proofs.YtgfjjhfkgfnpaaaW.PrintWords
/-- What is read of a type is of this kind, and so. -/
structure Opens {α : Type} (P : Program) (t : TypeId) (d : Kd α) (Ok : α → Prop) : Prop where
  out : ∀ {H : Type} {enc : TypeId × Value → H} {w : World} {base : Nat} {spare : Nat → Bool} {held : Bool} {fuel : Nat} {cs : List Value} {x : DataW H × List MemPlace},
    DataW.trod enc P w base spare held fuel t cs = some x → ∃ a, d.K w a cs ∧ Ok a
variable {P : Program}
theorem Opens.imp {α : Type} {t : TypeId} {d : Kd α} {Ok Ok' : α → Prop} (h : Opens P t d Ok) (hi : ∀ a, Ok a → Ok' a) : Opens P t d Ok' := ⟨fun hx => by
  obtain ⟨a, h1, h2⟩ := h.out hx; exact ⟨a, h1, hi a h2⟩⟩
theorem opens_int {t : TypeId} {k : IntKind} (ht : P.underlying t = some (.int k)) : Opens P t (Kd.int k) (fun n => (Lit.int k n).wf = true) := ⟨fun hx => by
  obtain ⟨n, rfl, _, hw⟩ := DataW.trod_int ht hx
  exact ⟨n, rfl, hw⟩⟩
theorem opens_float {t : TypeId} {k : FloatKind} (ht : P.underlying t = some (.float k)) : Opens P t (Kd.scalar (Value.float k) (fun _ => rfl)) (fun n => (Lit.float k n).wf = true) := ⟨fun {_ _ _ _ _ _ fuel cs x} hx => by
  have h : ∃ n, cs = [.float k n] ∧ (Lit.float k n).wf = true := by
    cases fuel with
    | zero => simp [DataW.trod] at hx
    | succ n =>
      unfold DataW.trod at hx
      rw [ht] at hx
      split at hx <;> simp_all
  obtain ⟨n, rfl, hw⟩ := h
  exact ⟨n, rfl, hw⟩⟩
theorem listed {α : Type} {Q : Nat → α → Prop} : ∀ n, (∀ i, i < n → ∃ p, Q i p) → ∃ ps : List α, ps.length = n ∧ ∀ j p, ps[j]? = some p → Q j p
  | 0, _ => ⟨[], rfl, by simp⟩
  | n + 1, h => by
    obtain ⟨ps, h1, h2⟩ := listed n (fun i hi => h i (by omega))
    obtain ⟨p, hp⟩ := h n (by omega)
    refine ⟨ps ++ [p], by simp [h1], fun j q hq => ?_⟩
    rcases Nat.lt_or_ge j ps.length with hj | hj
    · rw [List.getElem?_append_left hj] at hq; exact h2 j q hq
    · rw [List.getElem?_append_right hj] at hq
      obtain rfl : j = ps.length := by
        have := (List.getElem?_eq_some_iff.1 hq).1; simp at this; omega
      simp at hq
      rw [← hq, h1]; exact hp
theorem opens_slice {α : Type} {t e q : TypeId} {d : Kd α} {Ok : α → Prop} (ht : P.underlying t = some (.slice e)) (hc : P.cellsOf e = d.sz) (h : Opens P e d Ok) :
    Opens P t (Kd.slice q d) (fun xs => xs.length ≤ maxLen ∧ ∀ x ∈ xs, Ok x) := by
  constructor
  intro H enc w base spare held fuel cs x hx
  rcases DataW.trod_slice ht hx with ⟨rfl, _⟩ | ⟨a, len, cap, elems, rest, n, _, rfl, rfl, hb, hl, hm, hlen, hel, _, _⟩
  · exact ⟨[], ⟨none, 0, rfl, Nat.le_refl _, rfl, by simp, fun h => absurd h (by simp)⟩, by simp, by simp⟩
  · obtain ⟨ps, h1, h2⟩ := listed len (Q := fun i p => ∃ cs, w.cells? base (a.add (i * P.cellsOf e)) (P.cellsOf e) = some cs ∧ d.K w p cs ∧ Ok p) fun i hi => by
      have h1 := hel i hi
      rw [List.getElem?_eq_getElem (by omega), Option.bind_eq_some_iff] at h1
      obtain ⟨cs, h2, h3⟩ := h1
      obtain ⟨p, h4, h5⟩ := h.out h3
      exact ⟨p, cs, h2, h4, h5⟩
    subst h1
    refine ⟨ps, ⟨some a, cap, rfl, hl, rfl, Nat.le_trans hl hm, fun _ => ⟨a, rfl, fun j p hj => ?_⟩⟩, Nat.le_trans hl hm, fun x hx => ?_⟩
    · obtain ⟨cs, c1, c2, _⟩ := h2 j p hj
      obtain ⟨_, c3, c4⟩ := World.cells?_some c1
      refine ⟨cs, d.K_len c2, c2, fun i u hu => ?_⟩
      have hi : i < cs.length := (List.getElem?_eq_some_iff.1 hu).1
      rw [← hu, ← c4 i (by omega), ← hc]
      rw [Addr.add_add]
    · obtain ⟨j, hj⟩ := List.getElem?_of_mem hx
      obtain ⟨_, _, _, h5⟩ := h2 j x hj
      exact h5
/-- Fields from an offset on. -/
structure OpensF {α : Type} (P : Program) (off : Nat) (fs : List Field) (d : Kd α) (Ok : α → Prop) : Prop where
  out : ∀ {H : Type} {enc : TypeId × Value → H} {w : World} {base : Nat} {spare : Nat → Bool} {held : Bool} {fuel : Nat} {cs : List Value},
    (∀ f ∈ fs, ∃ x, DataW.trod enc P w base spare held fuel f.type ((cs.drop f.offset).take (P.cellsOf f.type)) = some x) → cs.length = off + d.sz → ∃ a, d.K w a (cs.drop off) ∧ Ok a
theorem opensF_last {α : Type} {f : Field} {d : Kd α} {Ok : α → Prop} {off : Nat} (h : Opens P f.type d Ok) (hc : P.cellsOf f.type = d.sz) (ho : f.offset = off) : OpensF P off [f] d Ok := by
  subst ho
  constructor
  intro H enc w base spare held fuel cs hf hl
  obtain ⟨x, hx⟩ := hf f (List.mem_singleton.2 rfl)
  rw [List.take_of_length_le (by rw [List.length_drop]; omega)] at hx
  exact h.out hx
theorem opensF_cons {α β : Type} {f : Field} {fs : List Field} {d : Kd α} {d' : Kd β} {Ok : α → Prop} {Ok' : β → Prop} (h : Opens P f.type d Ok) {off : Nat} (hc : P.cellsOf f.type = d.sz) (ho : f.offset = off) (h' : OpensF P (off + d.sz) fs d' Ok') :
    OpensF P off (f :: fs) (Kd.pair d d') (fun p => Ok p.1 ∧ Ok' p.2) := by
  subst ho
  constructor
  intro H enc w base spare held fuel cs hf hl
  have hs : (Kd.pair d d').sz = d.sz + d'.sz := rfl
  rw [hs] at hl
  obtain ⟨x, hx⟩ := hf f List.mem_cons_self
  obtain ⟨a, ha, oa⟩ := h.out hx
  obtain ⟨b, hb, ob⟩ := h'.out (fun g hg => hf g (List.mem_cons_of_mem _ hg)) (by omega)
  refine ⟨(a, b), ⟨_, _, ?_, ha, hb⟩, oa, ob⟩
  rw [hc, ← List.drop_drop, List.take_append_drop]
theorem opens_struct {α : Type} {t : TypeId} {fs : Array Field} {d : Kd α} {Ok : α → Prop} (ht : P.underlying t = some (.struct fs)) (hc : P.cellsOf t = d.sz) (h : OpensF P 0 fs.toList d Ok) : Opens P t d Ok := by
  constructor
  intro H enc w base spare held fuel cs x hx
  obtain ⟨xs, n, _, _, hl, hlen, hf⟩ := DataW.trod_struct ht hx
  have := h.out (cs := cs) (enc := enc) (w := w) (base := base) (spare := spare) (held := held) (fuel := n) (fun f hm => by
    obtain ⟨i, hi⟩ := List.getElem?_of_mem hm
    have h1 := hf i f (by rw [← Array.getElem?_toList]; exact hi)
    have hi' := (List.getElem?_eq_some_iff.1 hi).1
    rw [List.getElem?_eq_getElem (by rw [hlen, ← Array.length_toList]; exact hi')] at h1
    exact ⟨_, h1⟩) (by omega)
  rwa [List.drop_zero] at this
/-- A kind seen through a map that reaches all of it. -/
theorem opens_iso {α β : Type} {t : TypeId} {d : Kd α} {Ok : α → Prop} (f : β → α) (g : α → β) (hfg : ∀ a, f (g a) = a) (h : Opens P t d Ok) : Opens P t (Kd.iso d f) (fun b => Ok (f b)) := by
  constructor
  intro H enc w base spare held fuel cs x hx
  obtain ⟨a, h1, h2⟩ := h.out hx
  exact ⟨g a, by show d.K w (f (g a)) cs; rw [hfg]; exact h1, by show Ok (f (g a)); rw [hfg]; exact h2⟩
end Go.Proofs.Ytgfjjhfkgfnpaaa.Opens

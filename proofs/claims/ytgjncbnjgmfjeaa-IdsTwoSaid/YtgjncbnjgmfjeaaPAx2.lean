-- Written by this session's own program wip/bin/dprint.py, over the kit's print.py, with own texts for some functions: no print of print.sh's
import Derived.Test.YtgjncbnjgmfjeaaPAx0
import Derived.Test.YtgjncbnjgmfjeaaPAx1
namespace Go.Proofs.Ytgjncbnjgmfjeaa.PA
open Go.RowKit Go.Proofs.YtgjncbnjgmfjeaaW.PrintWords Go.Proofs.YtgjncbnjgmfjeaaW.PrintLast Go.Proofs.YtgjncbnjgmfjeaaW.PrintMore
attribute [local go_sem] max2_int min2_int max_two min_two max_three min_three max_four min_four   -- for this text's walks alone
set_option linter.unusedVariables false
set_option linter.unusedSimpArgs false


/-! ### ids_pick: function 27 (own text) -/
section
/-- What pick keeps: the wanted (block wb), and what was picked (in the variable of block pb). -/
def PickI (w0 : World) (h wb pb : Nat) (k : Nat) (l : List Int) (W : World) : Prop :=
  Below w0.heap.size w0 W ∧ W.heap[wb]? = some (.cells #[.func (.func h) #[] #[]] 36 (0, 0)) ∧ l.length + k ≤ 1000000 ∧ w0.heap.size ≤ wb ∧ w0.heap.size ≤ pb ∧ wb ≠ pb ∧
    ∃ v, W.heap[pb]? = some (.cells #[v] 22 (0, 0)) ∧ Kd.R (Kd.int .i64) 3 W w0.heap.size (fun _ => True) v l
theorem PickI.drewN {w0 : World} {h wb pb k : Nat} {l : List Int} {W : World} (H : PickI w0 h wb pb k l W) (n : Nat) : PickI w0 h wb pb k l (W.drewN n) := by
  obtain ⟨h1, h2, h3, h4, h5, h6, v, h7, h8⟩ := H
  exact ⟨pw_below_drewN h1 n, h2, h3, h4, h5, h6, v, h7, Kd.R_drewN h8 n⟩
theorem PickI.mono {w0 : World} {h wb pb k j : Nat} {l : List Int} {W : World} (H : PickI w0 h wb pb k l W) (hj : j ≤ k) : PickI w0 h wb pb j l W := by
  obtain ⟨h1, h2, h3, h4, h5, h6, v, h7, h8⟩ := H
  exact ⟨h1, h2, by omega, h4, h5, h6, v, h7, h8⟩
def pickStep (wf : Bool → Bool → Bool) (l : List Int) (x : Int) (p q : Bool) : List Int × Bool := (if wf p q = true then l ++ [x] else l, true)
/-- behind the append: the two variables are as they were -/
theorem PickI.after {w0 : World} {h wb pb k : Nat} {l : List Int} {W w1 : World} (H : PickI w0 h wb pb k l W) {v : Value} (hv : W.heap[pb]? = some (.cells #[v] 22 (0, 0))) (hR : Kd.R (Kd.int .i64) 3 W w0.heap.size (fun _ => True) v l) (hg : W.grownBy w1 v.ownBlock) : w1.heap[pb]? = some (.cells #[v] 22 (0, 0)) ∧ w1.heap[wb]? = some (.cells #[.func (.func h) #[] #[]] 36 (0, 0)) := by
  obtain ⟨h1, h2, h3, h4, h5, h6, _⟩ := H
  exact ⟨(hg.block pb (lt_of_block hv) (Kd.R_ne hR hv (by decide))).trans hv, (hg.block wb (lt_of_block h2) (Kd.R_ne hR h2 (by decide))).trans h2⟩
theorem PickI.put {w0 : World} {h wb pb k : Nat} {l : List Int} {W w1 : World} (H : PickI w0 h wb pb (k + 1) l W) {v v1 : Value} {x : Int} (hb : Below w0.heap.size w0 w1) (h1 : w1.heap[pb]? = some (.cells #[v] 22 (0, 0))) (h2 : w1.heap[wb]? = some (.cells #[.func (.func h) #[] #[]] 36 (0, 0))) (hR : Kd.R (Kd.int .i64) 3 w1 w0.heap.size (fun _ => True) v1 (l ++ [x])) : PickI w0 h wb pb k (l ++ [x]) (w1.setCell ⟨pb, 0, none⟩ v1) := by
  obtain ⟨_, _, h3, h4, h5, h6, _⟩ := H
  refine ⟨hb.setCell (p := ⟨pb, 0, none⟩) h5 _, ?_, by rw [List.length_append]; simp; omega, h4, h5, h6, v1, one_setCell h1, Kd.R_set hR h1 (by intro q hq; simp [Kd.int, Kd.scalar] at hq; omega) 0 v1⟩
  rw [Below.heap_setCell w1 ⟨pb, 0, none⟩ v1 wb h6]
  exact h2
set_option maxHeartbeats 1000000 in
set_option maxRecDepth 100000 in
theorem pickClosure (w0 : World) (h wb pb : Nat) (wf : Bool → Bool → Bool) (eh : ∀ args w, (callFunc h args).run Try.prog w = .ok (.enter h args) w)
    (hw : ∀ p q W, Calls Try.prog h #[.bool p, .bool q] W fun e W' => e = .returned (.bool (wf p q)) ∧ Drawn0 W W')
    (k : Nat) (l : List Int) (x : Int) (p q : Bool) (W : World) (H : PickI w0 h wb pb (k + 1) l W) :
    Calls Try.prog 39 #[.int .i64 x, .bool p, .bool q, .pointer (some ⟨wb, 0, none⟩), .pointer (some ⟨pb, 0, none⟩)] W fun e W' => e = .returned (.bool (pickStep wf l x p q).2) ∧ PickI w0 h wb pb k (pickStep wf l x p q).1 W' := by
  have HH := Aside0.mk H
  obtain ⟨h1, h2, h3, h4, h5, h6, v, h7, h8⟩ := H
  have hc1 : W.cell? ⟨wb, 0, none⟩ = some (.func (.func h) #[] #[]) := cell_of_one h2
  have hc2 : W.cell? ⟨pb, 0, none⟩ = some v := cell_of_one h7
  have hf2 : W.frozen? ⟨pb, 0, none⟩ = false := by simp [World.frozen?, h7]
  have HR := Aside0.mk h8
  have HB := Aside0.mk h1
  have H2 := Aside0.mk h2
  have H7 := Aside0.mk h7
  have H3 := Aside0.mk h3
  clear h1 h2 h3 h7 h8
  have hcall := hw p q W
  unfold pickStep
  cases hb : wf p q with
  | false =>
    rw [hb] at hcall
    rw [if_neg (by decide)]
    have HC := Aside0.mk hcall
    clear hcall hw hb
    go_enter Try.func39, Try.ntmps39
    go_wp2_with (first | (go_at_fn h; refine HC.out.mono ?_; rintro e w2 ⟨rfl, ⟨nd, rfl⟩⟩))
    go_ret
    exact ⟨rfl, (HH.out.drewN _).mono (by omega)⟩
  | true =>
    rw [hb] at hcall
    rw [if_pos rfl]
    have HC := Aside0.mk hcall
    clear hcall hw hb
    go_enter Try.func39, Try.ntmps39
    go_wp2_with (first | (go_at_fn h; refine HC.out.mono ?_; rintro e w2 ⟨rfl, ⟨nd, rfl⟩⟩) | ((with_reducible refine gate_builtin (b := .append) (xs := #[.tmp 13, .tmp 15]) rfl ?_); at_builtin; refine Kd.R_append (Kd.int .i64) (w0 := w0) w0.heap.size rfl (.tmp 13) (.tmp 15) 22 3 (.int .i64 0) 8 rfl Try.underlying22 info3 rfl (by decide) (by omega) v l x [.int .i64 x] (fun _ => True) (fun _ => False) rfl rfl ?aP (fun _ hk => hk.elim) ?aF ?aO ?aB ?aS ?aL ?_; (case aP => exact rfl); (case aB => exact pw_below_drewN HB.out nd); (case aF => exact (fun _ _ => trivial)); (case aO => exact Kd.R_drewN HR.out nd); (case aS => exact (below_size (pw_below_drewN HB.out nd))); (case aL => have := H3.out; omega); intro v1 w1 ho hb hg hat; obtain ⟨A1, c1, e1⟩ := Kd.R_slice ho; generalize (l ++ [x]).length = n1 at e1; subst e1; have ha := (HH.out.drewN nd).after H7.out (Kd.R_drewN HR.out nd) hg; have hx := cell_of_one ha.1; have hy := free_of_one ha.1; have N0 := Aside0.mk ha; have N1 := Aside0.mk ho; have N2 := Aside0.mk hb; clear ha ho hb hg hat hc2 hf2))
    go_ret
    exact ⟨rfl, HH.out.put N2.out N0.out.1 N0.out.2 N1.out⟩
theorem alloc_one (w : World) (o1 o2 : Obj) : ((w.alloc o1).alloc o2).heap[w.heap.size]? = some o1 := by
  have h1 := blk_new w o1
  have h2 := (below_alloc (Below.refl (w.alloc o1).heap.size (w.alloc o1)) o2).block w.heap.size (lt_of_block h1)
  exact h2.trans h1
theorem alloc_two (w : World) (o1 o2 : Obj) : ((w.alloc o1).alloc o2).heap[w.heap.size + 1]? = some o2 := by
  have h1 := blk_new (w.alloc o1) o2
  have hs : (w.alloc o1).heap.size = w.heap.size + 1 := by simp
  rw [hs] at h1
  exact h1
/-- What pick tells. -/
def pickL (wf : Bool → Bool → Bool) (a b : List Int) : List Int := walkN (pickStep wf) (a.length + b.length) a b []
set_option maxHeartbeats 1000000 in
set_option maxRecDepth 100000 in
theorem pickCalls (h : Nat) (wf : Bool → Bool → Bool) (eh : ∀ args w, (callFunc h args).run Try.prog w = .ok (.enter h args) w)
    (hw : ∀ p q W, Calls Try.prog h #[.bool p, .bool q] W fun e W' => e = .returned (.bool (wf p q)) ∧ Drawn0 W W')
    (A0 : Option Addr) (c0 : Nat) (l0 : List Int) (A1 : Option Addr) (c1 : Nat) (l1 : List Int) (w : World) (hr0 : Kd.C (Kd.int .i64) w A0 l0.length l0) (hc0 : l0.length ≤ c0) (hr1 : Kd.C (Kd.int .i64) w A1 l1.length l1) (hc1 : l1.length ≤ c1) (hm : l0.length + l1.length ≤ 1000000) :
    Calls Try.prog 27 #[.slice A0 l0.length c0, .slice A1 l1.length c1, .func (.func h) #[] #[]] w fun e w' => ∃ v0_ : Value, e = .returned v0_ ∧ Kd.R (Kd.int .i64) 3 w' w.heap.size (fun _ => True) v0_ (pickL wf l0 l1) ∧ Below w.heap.size w w' := by
  have eg : ∀ args w, (callFunc 39 args).run Try.prog w = .ok (.enter 39 args) w := fun args w => enters_of Try.func39 (by kernel_rfl) rfl args w
  have HW := fun W hI => walkCalls (pickStep wf) (fun k l W => PickI w h w.heap.size (w.heap.size + 1) k l W) w.heap.size w 39 #[.pointer (some ⟨w.heap.size, 0, none⟩), .pointer (some ⟨w.heap.size + 1, 0, none⟩)] eg
    (fun k s W H => H.1) (fun k s W n H => H.drewN n) (fun k s W _ H => H.mono (Nat.zero_le _)) (fun k s x p q W H => pickClosure w h _ _ wf eh hw k s x p q W H) [] W A0 c0 l0 A1 c1 l1 ⟨hc0, fun W hW => Kd.C_below hr0 hW⟩ ⟨hc1, fun W hW => Kd.C_below hr1 hW⟩ hI hm
  have HWC := Aside0.mk HW
  have HMM := Aside0.mk hm
  clear HW hr0 hr1 hc0 hc1 hm hw
  go_enter Try.func27, Try.ntmps27
  go_wp2_with (first | (go_at_call 31; refine (HWC.out _ ?s1).mono ?_; (case s1 => exact ⟨below_alloc (below_alloc (Below.refl _ _) _) _, alloc_one _ _ _, by have := HMM.out; simp; omega, Nat.le_refl _, Nat.le_succ _, by omega, _, alloc_two _ _ _, Kd.R_nil _ _ _ _ _⟩); rintro e w2 ⟨rfl, hI⟩; obtain ⟨h1, h2, h3, h4, h5, h6, v, h7, h8⟩ := hI; have hx := cell_of_one h7; have N0 := Aside0.mk h1; have N1 := Aside0.mk h8; clear h1 h2 h3 h4 h5 h6 h7 h8))
  go_ret
  exact ⟨_, rfl, N1.out, N0.out⟩
end


/-! ### ids_Union: function 11 (own text) -/
section
theorem clUnion (p q : Bool) (W : World) : Calls Try.prog 28 #[.bool p, .bool q] W fun e W' => e = .returned (.bool true) ∧ Drawn0 W W' := by
  go_enter Try.func28, Try.ntmps28
  go_wp2
  go_ret
  exact ⟨rfl, Drawn0.refl _⟩
def ids_Union.f (l0 l1 : List Int) : Option (List Int) := if l0.length + l1.length ≤ 1000000 then some (pickL (fun _ _ => true) l0 l1) else none
set_option maxHeartbeats 1000000 in
set_option maxRecDepth 100000 in
theorem ids_Union.calls (A0 : Option Addr) (c0 : Nat) (l0 : List Int) (A1 : Option Addr) (c1 : Nat) (l1 : List Int) (r : List Int) (w : World) (hr0 : Kd.C (Kd.int .i64) w A0 l0.length l0) (hc0 : l0.length ≤ c0) (hr1 : Kd.C (Kd.int .i64) w A1 l1.length l1) (hc1 : l1.length ≤ c1) (h : ids_Union.f l0 l1 = some r) :
    Calls Try.prog 11 #[.slice A0 l0.length c0, .slice A1 l1.length c1] w fun e w' => ∃ v0_ : Value, e = .returned v0_ ∧ Kd.R (Kd.int .i64) 3 w' w.heap.size (fun _ => True) v0_ r ∧ Below w.heap.size w w' := by
  unfold ids_Union.f at h
  by_cases hm : l0.length + l1.length ≤ 1000000
  · rw [if_pos hm] at h
    obtain rfl := Option.some.inj h
    have HP := Aside0.mk (pickCalls 28 (fun _ _ => true) (fun args w => enters_of Try.func28 (by kernel_rfl) rfl args w) (fun p q W => clUnion p q W) A0 c0 l0 A1 c1 l1 w hr0 hc0 hr1 hc1 hm)
    clear h hr0 hc0 hr1 hc1 hm
    go_enter Try.func11, Try.ntmps11
    go_wp2_with (first | (go_at_call 27; refine HP.out.mono ?_; rintro e w2 ⟨v, rfl, hR, hb⟩; have N0 := Aside0.mk hR; have N1 := Aside0.mk hb; clear hR hb))
    go_ret
    exact ⟨_, rfl, N0.out, N1.out⟩
  · rw [if_neg hm] at h; cases h
end


/-! ### slices_Clone_int_int: function 33 (own text) -/
theorem slices_Clone_int_int.spot_ {w : World} {a : Addr} {v : Value} (h : w.cell? a = some v) : a.spot = none := by
  unfold World.cell? at h
  split at h
  · split at h
    · cases h
    · rename_i hs; simpa using hs
  · cases h
def slices_Clone_int_int.f (l : List Int) : Option (List Int) := if l.length ≤ 17592186044416 then some l else none
theorem slices_Clone_int_int.calls (A0 : Option Addr) (c0 : Nat) (l0 : List Int) (r : List Int) (w : World) (hr0 : Kd.C (Kd.int .i64) w A0 l0.length l0) (hc0 : l0.length ≤ c0) (h : slices_Clone_int_int.f l0 = some r) :
    Calls Try.prog 33 #[.slice A0 l0.length c0] w fun e w' => ∃ v0_ : Value, e = .returned (v0_) ∧ Kd.R (Kd.int .i64) 3 w' w.heap.size (fun _ => True) v0_ r ∧ Below w.heap.size w w' := by
  unfold slices_Clone_int_int.f at h
  by_cases hl : l0.length ≤ 17592186044416
  · rw [if_pos hl] at h
    obtain rfl := Option.some.inj h
    cases A0 with
    | none =>
      have h0 : l0.length = 0 := by
        rcases Nat.eq_zero_or_pos l0.length with h0 | h0
        · exact h0
        · obtain ⟨ad, e, _⟩ := hr0.2.2 h0; cases e
      have hn : l0 = [] := List.eq_nil_of_length_eq_zero h0
      subst hn
      refine (Try.slices_Clone_int_nil 0 c0 w).mono ?_
      rintro e w' ⟨rfl, rfl⟩
      exact ⟨_, rfl, Kd.R_nil _ _ _ _ _, Below.refl _ _⟩
    | some ad =>
      by_cases h0 : 0 < l0.length
      · obtain ⟨a1, e1, hx⟩ := Kd.at_int hr0 0 (by omega) (by omega)
        have hs : ad.spot = none := by
          have e2 : ad = a1 := by injection e1
          rw [← e2] at hx
          have : ad.add (Int.toNat 0) = ad := by simp [Addr.add]
          rw [this] at hx
          exact slices_Clone_int_int.spot_ hx
        obtain ⟨b, off, sp⟩ := ad
        simp only at hs
        subst hs
        refine (Try.slices_Clone_int b off l0.length c0 l0 w (Nat.le_refl _) (by omega) (fun j hj => ?_)).mono ?_
        · obtain ⟨a2, e2, hy⟩ := Kd.at_int hr0 (j : Int) (by omega) (by omega)
          have e3 : (⟨b, off, none⟩ : Addr) = a2 := by injection e2
          rw [← e3, Int.toNat_natCast] at hy
          have e4 : (⟨b, off, none⟩ : Addr).add j = ⟨b, off + j, none⟩ := by unfold Addr.add; split <;> simp_all
          rw [e4] at hy
          rw [hy]; unfold rd; rw [Int.toNat_natCast]
        · rintro e w' ⟨v', rfl, ho, _, hb⟩
          rw [List.take_length] at ho
          exact ⟨v', rfl, Kd.R_of_own ho (fun _ _ => trivial), hb⟩
      · have hn : l0 = [] := List.eq_nil_of_length_eq_zero (by omega)
        subst hn
        refine (Try.slices_Clone_int_zero ad c0 w).mono ?_
        rintro e w' ⟨v', rfl, ho, _, hb⟩
        exact ⟨v', rfl, Kd.R_of_own ho (fun _ _ => trivial), hb⟩
  · rw [if_neg hl] at h; cases h

/-! ### cmp_isNaN_int: function 55 -/
def cmp_isNaN_int.f (a0 : Int) : Option (Bool) := some (a0 != a0)
set_option maxHeartbeats 40000000 in
set_option maxRecDepth 100000 in
theorem cmp_isNaN_int.calls (a0 : Int) (r : Bool) (w : World) (h : cmp_isNaN_int.f a0 = some r) :
    Calls Try.prog 55 #[.int .i64 a0] w fun e w' => e = .returned (.bool r) ∧ Drawn0 w w' := by
  have H : (some (a0 != a0)) = some r := h
  clear h
  obtain rfl := Option.some.inj H
  go_enter Try.func55, Try.ntmps55
  go_wp2
  go_ret
  exact ⟨by first | rfl | (simp; done) | (simp [*]; done) | (simp; rw [Bool.eq_iff_iff]; simp; done), by repeat (first | exact Drawn0.refl _ | apply Drawn0.step)⟩

end Go.Proofs.Ytgjncbnjgmfjeaa.PA

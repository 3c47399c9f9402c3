-- Written by this session's own program wip/bin/dprint.py, over the kit's print.py, with own texts for some functions: no print of print.sh's
import Derived.Test.YtfkgidiedpkbdaaPRx0
import Derived.Test.YtfkgidiedpkbdaaPRx1
import Derived.Test.YtfkgidiedpkbdaaPRx2
namespace Go.Proofs.Ytfkgidiedpkbdaa.PR
open Go.RowKit Go.Proofs.YtfkgidiedpkbdaaW.PrintWords Go.Proofs.YtfkgidiedpkbdaaW.PrintLast Go.Proofs.YtfkgidiedpkbdaaW.PrintMore
attribute [local go_sem] max2_int min2_int max_two min_two max_three min_three max_four min_four   -- for this text's walks alone
set_option linter.unusedVariables false
set_option linter.unusedSimpArgs false


/-! ### dowserlaw17_ForestLeads: function 9 (own text) -/
section
theorem infoInt : (Try.prog.info? 3).map (fun i => (i.zero, i.size, i.bytes)) = some (some (.int .i64 0), 1, 8) := by kernel_rfl
/-- A block of whole numbers. -/
def NI (W : World) (g : Nat) (l : List Nat) : Prop := W.heap[g]? = some (.cells (l.map (fun x : Nat => Value.int .i64 (x : Int))).toArray 3 (0, 0))
theorem NI.cell {W : World} {g : Nat} {l : List Nat} (h : NI W g l) (j : Nat) (hj : j < l.length) : W.cell? ⟨g, j, none⟩ = some (.int .i64 ((l.getD j 0 : Nat) : Int)) := by
  unfold NI at h
  simp [World.cell?, h, List.getD, hj]
theorem NI.cold {W : World} {g : Nat} {l : List Nat} (h : NI W g l) (j : Nat) : W.frozen? ⟨g, j, none⟩ = false := by
  unfold NI at h
  simp [World.frozen?, h]
theorem NI.step {W W' : World} {g : Nat} {l : List Nat} (h : NI W g l) (e : W'.heap[g]? = W.heap[g]?) : NI W' g l := by
  unfold NI at h ⊢; rw [e]; exact h
theorem NI.far {W : World} {g : Nat} {l : List Nat} (h : NI W g l) {p : Addr} (hp : g ≠ p.block) (u : Value) : NI (W.setCell p u) g l := h.step (Below.heap_setCell W p u g hp)
theorem NI.set {W : World} {g : Nat} {l : List Nat} (h : NI W g l) (j : Nat) (b : Nat) : NI (W.setCell ⟨g, j, none⟩ (.int .i64 (b : Int))) g (l.set j b) := by
  unfold NI at h ⊢
  rw [blk_set h]
  simp [List.map_set]
/-- A forest in memory: its struct, what each number leads to, the ring. -/
structure FS (W : World) (p gu gr n : Nat) (up ring : List Nat) (gs : Nat) : Prop where
  st : W.heap[p]? = some (.cells #[.slice (some ⟨gu, 0, none⟩) n n, .slice (some ⟨gr, 0, none⟩) n n, .int .i64 (gs : Int)] 76 (0, 0))
  u : NI W gu up
  r : NI W gr ring
  ul : up.length = n
  rl : ring.length = n
  pu : p ≠ gu
  pr : p ≠ gr
  ur : gu ≠ gr
  hn : n ≤ 1000000
theorem FS.up_ {W : World} {p gu gr n : Nat} {up ring : List Nat} {gs : Nat} (h : FS W p gu gr n up ring gs) : W.cell? ⟨p, 0, none⟩ = some (.slice (some ⟨gu, 0, none⟩) n n) := by simp [World.cell?, h.st]
theorem FS.ring_ {W : World} {p gu gr n : Nat} {up ring : List Nat} {gs : Nat} (h : FS W p gu gr n up ring gs) : W.cell? ⟨p, 1, none⟩ = some (.slice (some ⟨gr, 0, none⟩) n n) := by simp [World.cell?, h.st]
theorem FS.gs_ {W : World} {p gu gr n : Nat} {up ring : List Nat} {gs : Nat} (h : FS W p gu gr n up ring gs) : W.cell? ⟨p, 2, none⟩ = some (.int .i64 (gs : Int)) := by simp [World.cell?, h.st]
theorem FS.cold {W : World} {p gu gr n : Nat} {up ring : List Nat} {gs : Nat} (h : FS W p gu gr n up ring gs) (j : Nat) : W.frozen? ⟨p, j, none⟩ = false := by simp [World.frozen?, h.st]
theorem FS.setUp {W : World} {p gu gr n : Nat} {up ring : List Nat} {gs : Nat} (h : FS W p gu gr n up ring gs) (j b : Nat) : FS (W.setCell ⟨gu, j, none⟩ (.int .i64 (b : Int))) p gu gr n (up.set j b) ring gs :=
  ⟨(Below.heap_setCell W _ _ p h.pu).trans h.st, h.u.set j b, h.r.far h.ur.symm _, by rw [List.length_set]; exact h.ul, h.rl, h.pu, h.pr, h.ur, h.hn⟩
theorem FS.setRing {W : World} {p gu gr n : Nat} {up ring : List Nat} {gs : Nat} (h : FS W p gu gr n up ring gs) (j b : Nat) : FS (W.setCell ⟨gr, j, none⟩ (.int .i64 (b : Int))) p gu gr n up (ring.set j b) gs :=
  ⟨(Below.heap_setCell W _ _ p h.pr).trans h.st, h.u.far h.ur _, h.r.set j b, h.ul, by rw [List.length_set]; exact h.rl, h.pu, h.pr, h.ur, h.hn⟩
theorem FS.setGs {W : World} {p gu gr n : Nat} {up ring : List Nat} {gs : Nat} (h : FS W p gu gr n up ring gs) (g2 : Nat) : FS (W.setCell ⟨p, 2, none⟩ (.int .i64 (g2 : Int))) p gu gr n up ring g2 :=
  ⟨by rw [blk_set h.st]; rfl, h.u.far h.pu.symm _, h.r.far h.pr.symm _, h.ul, h.rl, h.pu, h.pr, h.ur, h.hn⟩
theorem FS.drewN {W : World} {p gu gr n : Nat} {up ring : List Nat} {gs : Nat} (h : FS W p gu gr n up ring gs) (m : Nat) : FS (W.drewN m) p gu gr n up ring gs :=
  ⟨h.st, h.u, h.r, h.ul, h.rl, h.pu, h.pr, h.ur, h.hn⟩
/-- What a call may have changed: blocks of S, and what is new. -/
structure Chg (S : Nat → Prop) (w W : World) : Prop where
  os : W.os = w.os
  tape : W.tape = w.tape
  output : W.output = w.output
  kept : Kept w W S
theorem Chg.refl (S : Nat → Prop) (w : World) : Chg S w w := ⟨rfl, rfl, rfl, Kept.refl _ _⟩
theorem Chg.drewN {S : Nat → Prop} {w W : World} (h : Chg S w W) (m : Nat) : Chg S w (W.drewN m) := ⟨h.os, h.tape, h.output, h.kept.drewN m⟩
theorem Chg.set {S : Nat → Prop} {w W : World} (h : Chg S w W) {p : Addr} (hp : S p.block) (u : Value) : Chg S w (W.setCell p u) := ⟨h.os, h.tape, h.output, h.kept.setCell (.inl hp) u⟩
theorem Chg.then_ {S S2 : Nat → Prop} {w W W2 : World} (h : Chg S w W) (k : Chg S2 W W2) (hs : ∀ k, S2 k → S k ∨ w.heap.size ≤ k) : Chg S w W2 := ⟨k.os.trans h.os, k.tape.trans h.tape, k.output.trans h.output, h.kept.then_ k.kept hs⟩
theorem Chg.below {S : Nat → Prop} {w0 w W : World} (hb : Below w0.heap.size w0 w) (h : Chg S w W) (hs : ∀ k, S k → w0.heap.size ≤ k) : Below w0.heap.size w0 W :=
  ⟨h.os.trans hb.os, h.tape.trans hb.tape, h.output.trans hb.output, Nat.le_trans hb.size h.kept.1, fun k hk => (h.kept.2 k (Nat.lt_of_lt_of_le hk hb.size) (fun h2 => by have := hs k h2; omega)).trans (hb.block k hk)⟩
/-- Each number leads on to a nearer one of its group, the least of them to itself. -/
structure Rep (up L : List Nat) : Prop where
  len : up.length = L.length
  le : ∀ i, i < L.length → up.getD i 0 ≤ i
  same : ∀ i, i < L.length → L.getD (up.getD i 0) 0 = L.getD i 0
  root : ∀ i, i < L.length → (up.getD i 0 = i ↔ L.getD i 0 = i)
theorem getD_set (l : List Nat) (i j b : Nat) (hi : i < l.length) : (l.set i b).getD j 0 = if i = j then b else l.getD j 0 := by
  simp only [List.getD, List.getElem?_set]
  by_cases e : i = j
  · subst e; simp [hi]
  · simp [e]
theorem Rep.halve {up L : List Nat} (h : Rep up L) (i : Nat) (hi : i < L.length) (hne : up.getD i 0 ≠ i) : Rep (up.set i (up.getD (up.getD i 0) 0)) L := by
  have hl := h.le i hi
  have h2 := h.le (up.getD i 0) (by omega)
  have hu : i < up.length := by rw [h.len]; exact hi
  refine ⟨by rw [List.length_set]; exact h.len, fun j hj => ?_, fun j hj => ?_, fun j hj => ?_⟩
  · rw [getD_set _ _ _ _ hu]; split
    · omega
    · exact h.le j hj
  · rw [getD_set _ _ _ _ hu]; split
    · rename_i e; subst e; rw [h.same _ (by omega), h.same _ hi]
    · exact h.same j hj
  · rw [getD_set _ _ _ _ hu]; split
    · rename_i e; subst e
      constructor
      · intro e2; omega
      · intro e2; exact absurd ((h.root _ hi).2 e2) hne
    · exact h.root j hj
attribute [local go_sem] max2_int min2_int max_two min_two max_three min_three max_four min_four   -- for this text's walks alone
attribute [local go_sem ↓] Go.wp_at_zero Go.wp_at_succ
set_option maxHeartbeats 8000000 in
set_option maxRecDepth 100000 in
theorem find_out (W : World) (p gu gr n : Nat) (up ring : List Nat) (gs : Nat) (hF : FS W p gu gr n up ring gs) (x : Int) (hx : x < 0 ∨ (n : Int) ≤ x) :
    Calls Try.prog 25 #[.pointer (some ⟨p, 0, none⟩), .int .i64 x] W fun e W' => e = .returned (.int .i64 (-1)) ∧ Drawn0 W W' := by
  have h1 := hF.up_
  by_cases c : x < 0
  · clear hx hF
    go_enter Try.func25, Try.ntmps25
    go_wp2
    go_ret
    exact ⟨rfl, Drawn0.refl _⟩
  · have c2 : (n : Int) ≤ x := by omega
    have c3 : ¬ x < (n : Int) := by omega
    clear hx hF
    go_enter Try.func25, Try.ntmps25
    go_wp2
    go_ret
    exact ⟨rfl, Drawn0.refl _⟩
set_option maxHeartbeats 8000000 in
set_option maxRecDepth 100000 in
theorem find_in (W : World) (p gu gr n : Nat) (up ring L : List Nat) (gs : Nat) (hF : FS W p gu gr n up ring gs) (hR : Rep up L) (x : Nat) (hx : x < n) :
    Calls Try.prog 25 #[.pointer (some ⟨p, 0, none⟩), .int .i64 (x : Int)] W fun e W' => e = .returned (.int .i64 ((L.getD x 0 : Nat) : Int)) ∧ ∃ up', Rep up' L ∧ FS W' p gu gr n up' ring gs ∧ Chg (· = gu) W W' := by
  have h1 := hF.up_
  have hn : L.length = n := by rw [← hR.len]; exact hF.ul
  have hxz : ¬ (x : Int) < 0 := by omega
  have hxn : (x : Int) < (n : Int) := by omega
  have hxd : decide ((n : Int) ≤ (x : Int)) = false := decide_eq_false (by omega)
  have HF := Aside0.mk hF
  have HR := Aside0.mk hR
  have HN := Aside0.mk hn
  have HX := Aside0.mk hx
  clear hF hR hn hx
  go_enter Try.func25, Try.ntmps25
  go_wp2
  clear h1 hxz hxn hxd
  go_loopg [1] x (fun kq v1 w' => ∃ (i : Nat) (up1 : List Nat), v1 = .int .i64 (i : Int) ∧ kq = i ∧ Aside0 (i < n) ∧ Aside0 (L.getD i 0 = L.getD x 0) ∧ Aside0 (Rep up1 L) ∧ Aside0 (FS w' p gu gr n up1 ring gs) ∧ Aside0 (Chg (· = gu) W w'))
  case atStart => exact ⟨x, up, rfl, rfl, HX, ⟨rfl⟩, HR, HF, ⟨Chg.refl _ _⟩⟩
  case round =>
    clear HF HR HX
    obtain ⟨i, up1, rfl, hk, HI, HL, HR, HF, HC⟩ := hrel
    have hF := HF.out
    have hi : i < L.length := by rw [HN.out]; exact HI.out
    have hle := HR.out.le i hi
    have h1 := hF.up_
    have h2 := hF.u.cell i (by rw [hF.ul]; exact HI.out)
    have hiz : (i : Int) < (n : Int) := by have := HI.out; omega
    by_cases c : up1.getD i 0 = i
    · rw [c] at h2
      have hroot : L.getD x 0 = i := by rw [← HL.out]; exact (HR.out.root i hi).1 c
      have hle2 : Aside0 (L.getD x 0 = i) := ⟨hroot⟩
      clear hroot hle c hi hF
      go_wp2
      go_ret
      exact ⟨by rw [hle2.out]; rfl, up1, HR.out, HF.out, HC.out⟩
    · obtain ⟨y, hy⟩ : ∃ y, y = up1.getD i 0 := ⟨_, rfl⟩
      have hyi : y < i := by rw [hy]; omega
      have h3 := hF.u.cell y (by rw [hF.ul]; have := HI.out; omega)
      obtain ⟨z, hz⟩ : ∃ z, z = up1.getD y 0 := ⟨_, rfl⟩
      have hzy : z ≤ y := by rw [hz]; exact HR.out.le y (by omega)
      have h4 := hF.u.cold i
      have hset := Aside0.mk (hF.setUp i z)
      have hhal : Rep (up1.set i z) L := by rw [hz, hy]; exact HR.out.halve i hi c
      have HH := Aside0.mk hhal
      have hz2 : L.getD z 0 = L.getD i 0 := by rw [hz, HR.out.same y (by omega), hy, HR.out.same i hi]
      have HZ := Aside0.mk (hz2.trans HL.out)
      rw [← hy] at h2
      rw [← hz] at h3
      have hne : ¬ (y : Int) = (i : Int) := by omega
      have hyz : (y : Int) < (n : Int) := by have := HI.out; omega
      have hpu := hF.pu
      have hzi : z < i := by omega
      clear hz2 hhal hz hy c hle hi hF
      have z1 : (0 : Int) ≤ (i : Int) := by omega
      have z2 : (0 : Int) ≤ (y : Int) := by omega
      go_wp2_with fail
      go_region
      all_goals go_wp2_with fail
      go_roundg z
      case measure => omega
      case rel => exact ⟨z, up1.set i z, rfl, rfl, ⟨by have := HI.out; omega⟩, HZ, HH, ⟨hset.out.drewN 1⟩, ⟨(HC.out.set rfl _).drewN 1⟩⟩
attribute [local go_sem] max2_int min2_int max_two min_two max_three min_three max_four min_four   -- for this text's walks alone
attribute [local go_sem ↓] Go.wp_at_zero Go.wp_at_succ
/-- The least number of x's group; -1 where there is no x. -/
def fnd (L : List Nat) (x : Int) : Int := if 0 ≤ x ∧ x < (L.length : Int) then ((L.getD x.toNat 0 : Nat) : Int) else -1
theorem find_calls (W : World) (p gu gr n : Nat) (up ring L : List Nat) (gs : Nat) (hF : FS W p gu gr n up ring gs) (hR : Rep up L) (x : Int) :
    Calls Try.prog 25 #[.pointer (some ⟨p, 0, none⟩), .int .i64 x] W fun e W' => e = .returned (.int .i64 (fnd L x)) ∧ ∃ up', Rep up' L ∧ FS W' p gu gr n up' ring gs ∧ Chg (· = gu) W W' := by
  have hn : L.length = n := by rw [← hR.len]; exact hF.ul
  by_cases c : 0 ≤ x ∧ x < (n : Int)
  · obtain ⟨j, rfl⟩ : ∃ j : Nat, x = (j : Int) := ⟨x.toNat, by omega⟩
    have e : fnd L (j : Int) = ((L.getD j 0 : Nat) : Int) := by unfold fnd; rw [if_pos (by rw [hn]; exact c)]; rfl
    rw [e]
    exact find_in W p gu gr n up ring L gs hF hR j (by omega)
  · have e : fnd L x = -1 := by unfold fnd; rw [if_neg (by rw [hn]; exact c)]
    rw [e]
    refine (find_out W p gu gr n up ring gs hF x (by omega)).mono ?_
    rintro e W' ⟨rfl, m, rfl⟩
    exact ⟨rfl, up, hR, hF.drewN m, (Chg.refl _ _).drewN m⟩
/-- Both groups one. -/
def merge (L : List Nat) (a b : Nat) : List Nat := L.map fun z => if z = b then a else z
def swap (r : List Nat) (a b : Nat) : List Nat := (r.set a (r.getD b 0)).set b (r.getD a 0)
theorem merge_len (L : List Nat) (a b : Nat) : (merge L a b).length = L.length := by unfold merge; rw [List.length_map]
theorem merge_at (L : List Nat) (a b i : Nat) (hi : i < L.length) : (merge L a b).getD i 0 = if L.getD i 0 = b then a else L.getD i 0 := by
  unfold merge
  simp [List.getD, hi]
theorem Rep.join {up L : List Nat} (h : Rep up L) (a b : Nat) (hab : a < b) (hb : b < L.length) (ra : L.getD a 0 = a) (rb : L.getD b 0 = b) : Rep (up.set b a) (merge L a b) := by
  have hu : b < up.length := by rw [h.len]; exact hb
  refine ⟨by rw [List.length_set, merge_len]; exact h.len, fun j hj => ?_, fun j hj => ?_, fun j hj => ?_⟩ <;> rw [merge_len] at hj
  · rw [getD_set _ _ _ _ hu]; split
    · omega
    · exact h.le j hj
  · rw [getD_set _ _ _ _ hu]; split
    · rename_i e; subst e; rw [merge_at _ _ _ _ (by omega), merge_at _ _ _ _ hj, ra, rb, if_neg (by omega), if_pos rfl]
    · have := h.le j hj; rw [merge_at _ _ _ _ (by omega), merge_at _ _ _ _ hj, h.same j hj]
  · rw [getD_set _ _ _ _ hu, merge_at _ _ _ _ hj]; split
    · rename_i e; subst e; rw [if_pos rb]
    · rename_i e
      have hr := h.root j hj
      by_cases c : L.getD j 0 = b
      · rw [if_pos c]
        constructor
        · intro e2; have := hr.1 e2; omega
        · intro e2; subst e2; omega
      · rw [if_neg c]; exact hr
/-- What is known of a forest that a call is given. -/
def Forest (W : World) (p gu gr n : Nat) (L ring : List Nat) (gs : Nat) : Prop := ∃ up, Rep up L ∧ FS W p gu gr n up ring gs
set_option maxHeartbeats 8000000 in
set_option maxRecDepth 100000 in
theorem union_none (W : World) (p gu gr n : Nat) (up ring L : List Nat) (gs : Nat) (hF : FS W p gu gr n up ring gs) (hR : Rep up L) (x y : Int) (h : fnd L x < 0 ∨ fnd L y < 0) :
    Calls Try.prog 23 #[.pointer (some ⟨p, 0, none⟩), .int .i64 x, .int .i64 y] W fun e W' => e = .returned (.tuple #[.int .i64 (-1), .int .i64 (-1), .bool false]) ∧ Forest W' p gu gr n L ring gs ∧ Chg (· = gu) W W' := by
  have HF := Aside0.mk hF
  have HR := Aside0.mk hR
  obtain ⟨X, hX⟩ : ∃ X, X = fnd L x := ⟨_, rfl⟩
  obtain ⟨Y, hY⟩ : ∃ Y, Y = fnd L y := ⟨_, rfl⟩
  rw [← hX, ← hY] at h
  have HX := Aside0.mk hX.symm
  have HY := Aside0.mk hY.symm
  clear hX hY hF hR
  by_cases c : X < 0
  · clear h
    go_enter Try.func23, Try.ntmps23
    go_wp2_with (first | (go_at_call 25; (with_reducible refine (find_calls W p gu gr n up ring L gs HF.out HR.out x).mono ?_); rw [HX.out]; rintro e w1 ⟨rfl, up1, hR1, hF1, hC1⟩; have HR1 := Aside0.mk hR1; have HF1 := Aside0.mk hF1; have HC1 := Aside0.mk hC1; clear hR1 hF1 hC1) | (go_at_call 25; (with_reducible refine (find_calls w1 p gu gr n up1 ring L gs HF1.out HR1.out y).mono ?_); rw [HY.out]; rintro e w2 ⟨rfl, up2, hR2, hF2, hC2⟩; have HR2 := Aside0.mk hR2; have HF2 := Aside0.mk hF2; have HC2 := Aside0.mk hC2; clear hR2 hF2 hC2))
    refine bodyPost_ret (results_list (rs := [.tmp 6, .tmp 7, .tmp 8]) rfl (by simp) (.tmp (.tmp (.tmp .nil)))) rfl ?_
    exact ⟨rfl, ⟨up2, HR2.out, HF2.out⟩, HC1.out.then_ HC2.out (fun _ h => .inl h)⟩
  · have c2 : Y < 0 := by omega
    clear h
    go_enter Try.func23, Try.ntmps23
    go_wp2_with (first | (go_at_call 25; (with_reducible refine (find_calls W p gu gr n up ring L gs HF.out HR.out x).mono ?_); rw [HX.out]; rintro e w1 ⟨rfl, up1, hR1, hF1, hC1⟩; have HR1 := Aside0.mk hR1; have HF1 := Aside0.mk hF1; have HC1 := Aside0.mk hC1; clear hR1 hF1 hC1) | (go_at_call 25; (with_reducible refine (find_calls w1 p gu gr n up1 ring L gs HF1.out HR1.out y).mono ?_); rw [HY.out]; rintro e w2 ⟨rfl, up2, hR2, hF2, hC2⟩; have HR2 := Aside0.mk hR2; have HF2 := Aside0.mk hF2; have HC2 := Aside0.mk hC2; clear hR2 hF2 hC2))
    refine bodyPost_ret (results_list (rs := [.tmp 6, .tmp 7, .tmp 8]) rfl (by simp) (.tmp (.tmp (.tmp .nil)))) rfl ?_
    exact ⟨rfl, ⟨up2, HR2.out, HF2.out⟩, HC1.out.then_ HC2.out (fun _ h => .inl h)⟩
set_option maxHeartbeats 8000000 in
set_option maxRecDepth 100000 in
theorem union_same (W : World) (p gu gr n : Nat) (up ring L : List Nat) (gs : Nat) (hF : FS W p gu gr n up ring gs) (hR : Rep up L) (x y : Int) (a : Nat) (hx : fnd L x = (a : Int)) (hy : fnd L y = (a : Int)) :
    Calls Try.prog 23 #[.pointer (some ⟨p, 0, none⟩), .int .i64 x, .int .i64 y] W fun e W' => e = .returned (.tuple #[.int .i64 (a : Int), .int .i64 (a : Int), .bool false]) ∧ Forest W' p gu gr n L ring gs ∧ Chg (· = gu) W W' := by
  have HF := Aside0.mk hF
  have HR := Aside0.mk hR
  have HX := Aside0.mk hx
  have HY := Aside0.mk hy
  clear hx hy hF hR
  have c : ¬ (a : Int) < 0 := by omega
  go_enter Try.func23, Try.ntmps23
  go_wp2_with (first | (go_at_call 25; (with_reducible refine (find_calls W p gu gr n up ring L gs HF.out HR.out x).mono ?_); rw [HX.out]; rintro e w1 ⟨rfl, up1, hR1, hF1, hC1⟩; have HR1 := Aside0.mk hR1; have HF1 := Aside0.mk hF1; have HC1 := Aside0.mk hC1; clear hR1 hF1 hC1) | (go_at_call 25; (with_reducible refine (find_calls w1 p gu gr n up1 ring L gs HF1.out HR1.out y).mono ?_); rw [HY.out]; rintro e w2 ⟨rfl, up2, hR2, hF2, hC2⟩; have HR2 := Aside0.mk hR2; have HF2 := Aside0.mk hF2; have HC2 := Aside0.mk hC2; clear hR2 hF2 hC2))
  refine bodyPost_ret (results_list (rs := [.tmp 6, .tmp 7, .tmp 8]) rfl (by simp) (.tmp (.tmp (.tmp .nil)))) rfl ?_
  exact ⟨rfl, ⟨up2, HR2.out, HF2.out⟩, HC1.out.then_ HC2.out (fun _ h => .inl h)⟩
set_option maxHeartbeats 8000000 in
set_option maxRecDepth 100000 in
theorem union_lt (W : World) (p gu gr n : Nat) (up ring L : List Nat) (gs : Nat) (hF : FS W p gu gr n up ring gs) (hR : Rep up L) (x y : Int) (a b : Nat) (hx : fnd L x = (a : Int)) (hy : fnd L y = (b : Int))
    (hab : a < b) (hbn : b < n) (ra : L.getD a 0 = a) (rb : L.getD b 0 = b) (hg : 1 ≤ gs) (hg2 : gs ≤ 1000000) :
    Calls Try.prog 23 #[.pointer (some ⟨p, 0, none⟩), .int .i64 x, .int .i64 y] W fun e W' => e = .returned (.tuple #[.int .i64 (a : Int), .int .i64 (b : Int), .bool true]) ∧ Forest W' p gu gr n (merge L a b) (swap ring a b) (gs - 1) ∧ Chg (fun k => k = gu ∨ k = gr ∨ k = p) W W' := by
  have HF := Aside0.mk hF
  have HR := Aside0.mk hR
  have HX := Aside0.mk hx
  have HY := Aside0.mk hy
  have c1 : ¬ (a : Int) < 0 := by omega
  have c2 : ¬ (b : Int) < 0 := by omega
  have c3 : (a : Int) < (b : Int) := by omega
  have c4 : ¬ (b : Int) < (a : Int) := by omega
  have c5 : ¬ (a : Int) = (b : Int) := by omega
  have c6 : ¬ (b : Int) = (a : Int) := by omega
  have HAB := Aside0.mk hab
  have HBN := Aside0.mk hbn
  have RA := Aside0.mk ra
  have RB := Aside0.mk rb
  have hgz : (gs : Int) - 1 = ((gs - 1 : Nat) : Int) := by omega
  have hgw : wrap64 ((gs - 1 : Nat) : Int) = ((gs - 1 : Nat) : Int) := by unfold wrap64; omega
  generalize gs - 1 = g2 at hgz hgw ⊢
  have abz : (a : Int) < (n : Int) := by omega
  have bbz : (b : Int) < (n : Int) := by omega
  have az0 : (0 : Int) ≤ (a : Int) := by omega
  have bz0 : (0 : Int) ≤ (b : Int) := by omega
  clear hx hy hab hbn ra rb hg hg2 hF hR
  go_enter Try.func23, Try.ntmps23
  go_wp2_with (first | (go_at_call 25; (with_reducible refine (find_calls W p gu gr n up ring L gs HF.out HR.out x).mono ?_); rw [HX.out]; rintro e w1 ⟨rfl, up1, hR1, hF1, hC1⟩; have HR1 := Aside0.mk hR1; have HF1 := Aside0.mk hF1; have HC1 := Aside0.mk hC1; clear hR1 hF1 hC1) | (go_at_call 25; (with_reducible refine (find_calls w1 p gu gr n up1 ring L gs HF1.out HR1.out y).mono ?_); rw [HY.out]; rintro e w2 ⟨rfl, up2, hR2, hF2, hC2⟩; have HR2 := Aside0.mk hR2; have HF2 := Aside0.mk hF2; have HC2 := Aside0.mk hC2; clear hR2 hF2 hC2; have f1 := HF2.out.up_; have f2 := HF2.out.ring_; have f3 := HF2.out.gs_; have f4 := HF2.out.cold 2; have f5 := HF2.out.u.cell b (by rw [HF2.out.ul]; exact HBN.out); have f6 := HF2.out.u.cold b; have f7 := HF2.out.r.cell a (by rw [HF2.out.rl]; have := HBN.out; have := HAB.out; omega); have f8 := HF2.out.r.cold a; have f9 := HF2.out.r.cell b (by rw [HF2.out.rl]; exact HBN.out); have f10 := HF2.out.r.cold b; obtain ⟨q1, hq1⟩ : ∃ q, q = ring.getD a 0 := ⟨_, rfl⟩; obtain ⟨q2, hq2⟩ : ∃ q, q = ring.getD b 0 := ⟨_, rfl⟩; rw [← hq1] at f7; rw [← hq2] at f9; have HQ1 := Aside0.mk hq1; have HQ2 := Aside0.mk hq2; clear hq1 hq2; generalize up2.getD b 0 = q3 at f5; have n1 := HF2.out.pu; have n2 := HF2.out.pr; have n3 := HF2.out.ur))
  go_region
  all_goals go_wp2_with fail
  refine bodyPost_ret (results_list (rs := [.tmp 6, .tmp 7, .tmp 8]) rfl (by simp) (.tmp (.tmp (.tmp .nil)))) rfl ?_
  have k1 := HF2.out.setUp b a
  have k2 := k1.setRing a q2
  have k3 := k2.setRing b q1
  have k4 := k3.setGs g2
  have c9 : Chg (fun k => k = gu ∨ k = gr ∨ k = p) W w2 := ((Chg.refl _ _).then_ HC1.out (fun k h => .inl (.inl h))).then_ HC2.out (fun k h => .inl (.inl h))
  have c10 := (((c9.set (p := ⟨gu, b, none⟩) (.inl rfl) (.int .i64 (a : Int))).set (p := ⟨gr, a, none⟩) (.inr (.inl rfl)) (.int .i64 (q2 : Int))).set (p := ⟨gr, b, none⟩) (.inr (.inl rfl)) (.int .i64 (q1 : Int))).set (p := ⟨p, 2, none⟩) (.inr (.inr rfl)) (.int .i64 (g2 : Int))
  have r1 : Rep (up2.set b a) (merge L a b) := HR2.out.join a b HAB.out (by have := HR2.out.len; have := HF2.out.ul; have := HBN.out; omega) RA.out RB.out
  have sw : swap ring a b = (ring.set a q2).set b q1 := by unfold swap; rw [HQ1.out, HQ2.out]
  rw [sw]
  exact ⟨rfl, ⟨_, r1, k4.drewN 1⟩, c10.drewN 1⟩
set_option maxHeartbeats 8000000 in
set_option maxRecDepth 100000 in
theorem union_gt (W : World) (p gu gr n : Nat) (up ring L : List Nat) (gs : Nat) (hF : FS W p gu gr n up ring gs) (hR : Rep up L) (x y : Int) (a b : Nat) (hx : fnd L x = (b : Int)) (hy : fnd L y = (a : Int))
    (hab : a < b) (hbn : b < n) (ra : L.getD a 0 = a) (rb : L.getD b 0 = b) (hg : 1 ≤ gs) (hg2 : gs ≤ 1000000) :
    Calls Try.prog 23 #[.pointer (some ⟨p, 0, none⟩), .int .i64 x, .int .i64 y] W fun e W' => e = .returned (.tuple #[.int .i64 (a : Int), .int .i64 (b : Int), .bool true]) ∧ Forest W' p gu gr n (merge L a b) (swap ring a b) (gs - 1) ∧ Chg (fun k => k = gu ∨ k = gr ∨ k = p) W W' := by
  have HF := Aside0.mk hF
  have HR := Aside0.mk hR
  have HX := Aside0.mk hx
  have HY := Aside0.mk hy
  have c1 : ¬ (a : Int) < 0 := by omega
  have c2 : ¬ (b : Int) < 0 := by omega
  have c3 : (a : Int) < (b : Int) := by omega
  have c4 : ¬ (b : Int) < (a : Int) := by omega
  have c5 : ¬ (a : Int) = (b : Int) := by omega
  have c6 : ¬ (b : Int) = (a : Int) := by omega
  have HAB := Aside0.mk hab
  have HBN := Aside0.mk hbn
  have RA := Aside0.mk ra
  have RB := Aside0.mk rb
  have hgz : (gs : Int) - 1 = ((gs - 1 : Nat) : Int) := by omega
  have hgw : wrap64 ((gs - 1 : Nat) : Int) = ((gs - 1 : Nat) : Int) := by unfold wrap64; omega
  generalize gs - 1 = g2 at hgz hgw ⊢
  have abz : (a : Int) < (n : Int) := by omega
  have bbz : (b : Int) < (n : Int) := by omega
  have az0 : (0 : Int) ≤ (a : Int) := by omega
  have bz0 : (0 : Int) ≤ (b : Int) := by omega
  clear hx hy hab hbn ra rb hg hg2 hF hR
  go_enter Try.func23, Try.ntmps23
  go_wp2_with (first | (go_at_call 25; (with_reducible refine (find_calls W p gu gr n up ring L gs HF.out HR.out x).mono ?_); rw [HX.out]; rintro e w1 ⟨rfl, up1, hR1, hF1, hC1⟩; have HR1 := Aside0.mk hR1; have HF1 := Aside0.mk hF1; have HC1 := Aside0.mk hC1; clear hR1 hF1 hC1) | (go_at_call 25; (with_reducible refine (find_calls w1 p gu gr n up1 ring L gs HF1.out HR1.out y).mono ?_); rw [HY.out]; rintro e w2 ⟨rfl, up2, hR2, hF2, hC2⟩; have HR2 := Aside0.mk hR2; have HF2 := Aside0.mk hF2; have HC2 := Aside0.mk hC2; clear hR2 hF2 hC2; have f1 := HF2.out.up_; have f2 := HF2.out.ring_; have f3 := HF2.out.gs_; have f4 := HF2.out.cold 2; have f5 := HF2.out.u.cell b (by rw [HF2.out.ul]; exact HBN.out); have f6 := HF2.out.u.cold b; have f7 := HF2.out.r.cell a (by rw [HF2.out.rl]; have := HBN.out; have := HAB.out; omega); have f8 := HF2.out.r.cold a; have f9 := HF2.out.r.cell b (by rw [HF2.out.rl]; exact HBN.out); have f10 := HF2.out.r.cold b; obtain ⟨q1, hq1⟩ : ∃ q, q = ring.getD a 0 := ⟨_, rfl⟩; obtain ⟨q2, hq2⟩ : ∃ q, q = ring.getD b 0 := ⟨_, rfl⟩; rw [← hq1] at f7; rw [← hq2] at f9; have HQ1 := Aside0.mk hq1; have HQ2 := Aside0.mk hq2; clear hq1 hq2; generalize up2.getD b 0 = q3 at f5; have n1 := HF2.out.pu; have n2 := HF2.out.pr; have n3 := HF2.out.ur))
  go_region
  all_goals go_wp2_with fail
  refine bodyPost_ret (results_list (rs := [.tmp 6, .tmp 7, .tmp 8]) rfl (by simp) (.tmp (.tmp (.tmp .nil)))) rfl ?_
  have k1 := HF2.out.setUp b a
  have k2 := k1.setRing a q2
  have k3 := k2.setRing b q1
  have k4 := k3.setGs g2
  have c9 : Chg (fun k => k = gu ∨ k = gr ∨ k = p) W w2 := ((Chg.refl _ _).then_ HC1.out (fun k h => .inl (.inl h))).then_ HC2.out (fun k h => .inl (.inl h))
  have c10 := (((c9.set (p := ⟨gu, b, none⟩) (.inl rfl) (.int .i64 (a : Int))).set (p := ⟨gr, a, none⟩) (.inr (.inl rfl)) (.int .i64 (q2 : Int))).set (p := ⟨gr, b, none⟩) (.inr (.inl rfl)) (.int .i64 (q1 : Int))).set (p := ⟨p, 2, none⟩) (.inr (.inr rfl)) (.int .i64 (g2 : Int))
  have r1 : Rep (up2.set b a) (merge L a b) := HR2.out.join a b HAB.out (by have := HR2.out.len; have := HF2.out.ul; have := HBN.out; omega) RA.out RB.out
  have sw : swap ring a b = (ring.set a q2).set b q1 := by unfold swap; rw [HQ1.out, HQ2.out]
  rw [sw]
  exact ⟨rfl, ⟨_, r1, k4.drewN 1⟩, c10.drewN 1⟩
attribute [local go_sem] max2_int min2_int max_two min_two max_three min_three max_four min_four   -- for this text's walks alone
attribute [local go_sem ↓] Go.wp_at_zero Go.wp_at_succ
set_option maxHeartbeats 8000000 in
set_option maxRecDepth 100000 in
theorem groups_calls (W : World) (p gu gr n : Nat) (L ring : List Nat) (gs : Nat) (hF : Forest W p gu gr n L ring gs) :
    Calls Try.prog 26 #[.pointer (some ⟨p, 0, none⟩)] W fun e W' => e = .returned (.int .i64 (gs : Int)) ∧ Drawn0 W W' := by
  obtain ⟨up, hR, hF⟩ := hF
  have f1 := hF.gs_
  clear hF hR
  go_enter Try.func26, Try.ntmps26
  go_wp2
  go_ret
  exact ⟨rfl, Drawn0.refl _⟩
set_option maxHeartbeats 8000000 in
set_option maxRecDepth 100000 in
theorem len_calls (W : World) (p gu gr n : Nat) (L ring : List Nat) (gs : Nat) (hF : Forest W p gu gr n L ring gs) :
    Calls Try.prog 40 #[.pointer (some ⟨p, 0, none⟩)] W fun e W' => e = .returned (.int .i64 (n : Int)) ∧ Drawn0 W W' := by
  obtain ⟨up, hR, hF⟩ := hF
  have f1 := hF.up_
  clear hF hR
  go_enter Try.func40, Try.ntmps40
  go_wp2
  go_ret
  exact ⟨rfl, Drawn0.refl _⟩
theorem made (w : World) (N : Nat) (hN : N ≤ 1000000) : (Instr.makeSlice 51 (.int .i64 (N : Int)) (.int .i64 (N : Int))).run Try.prog w = .ok (.slice (some ⟨w.heap.size, 0, none⟩) N N) (w.alloc (.cells ((List.replicate N 0).map (fun x : Nat => Value.int .i64 (x : Int))).toArray 3)) := by
  obtain ⟨i, hi, he⟩ := Option.map_eq_some_iff.mp infoInt
  have hz : i.zero = some (.int .i64 0) := congrArg (fun t => t.1) he
  have hs : i.size = 1 := congrArg (fun t => t.2.1) he
  have hb : i.bytes = 8 := congrArg (fun t => t.2.2) he
  rw [run_make (P := Try.prog) w 51 3 i (.int .i64 0) (by kernel_rfl) hi hz .i64 .i64 (N : Int) (N : Int) (by omega) (by omega) (by rw [hb]; omega) (by omega)]
  have e : madeCells (Value.int .i64 0).cells ((N : Int).toNat * i.size) = ((List.replicate N 0).map (fun x : Nat => Value.int .i64 (x : Int))).toArray := by
    rw [hs]
    apply Array.ext
    · simp [madeCells]
    · intro i h1 h2
      simp [madeCells, Value.cells, Nat.mod_one]
  rw [e]
  rfl
/-- The first i filled. -/
def fill (N i : Nat) : List Nat := (List.range N).map fun j => if j < i then j else 0
theorem fill_len (N i : Nat) : (fill N i).length = N := by simp [fill]
theorem fill_none (N : Nat) : fill N 0 = List.replicate N 0 := by
  unfold fill
  apply List.ext_getElem
  · simp
  · intro j h1 h2; simp
theorem fill_all (N : Nat) : fill N N = List.range N := by
  unfold fill
  apply List.ext_getElem
  · simp
  · intro j h1 h2
    have : j < N := by simpa using h1
    simp [this]
theorem fill_next (N i : Nat) (h : i < N) : (fill N i).set i i = fill N (i + 1) := by
  unfold fill
  apply List.ext_getElem
  · simp
  · intro j h1 h2
    have hj : j < N := by simpa using h2
    rw [List.getElem_set]
    simp only [List.getElem_map, List.getElem_range]
    by_cases e : i = j
    · subst e; simp
    · rw [if_neg e]
      by_cases c : j < i
      · rw [if_pos c, if_pos (by omega)]
      · rw [if_neg c, if_neg (by omega)]
theorem Rep.start (N : Nat) : Rep (List.range N) (List.range N) := by
  have h : ∀ i, i < N → (List.range N).getD i 0 = i := fun i hi => by simp [List.getD, hi]
  refine ⟨rfl, fun i hi => ?_, fun i hi => ?_, fun i hi => ?_⟩ <;> rw [List.length_range] at hi
  all_goals first | (rw [h i hi]; omega) | (rw [h i hi, h i hi]; done) | (rw [h i hi]; done)
theorem fresh (w : World) (N : Nat) (Z : Array Value) (hZ : Z = ((List.replicate N 0).map (fun x : Nat => Value.int .i64 (x : Int))).toArray) (hN : N ≤ 1000) (gu gr : Nat) (h : (gu = w.heap.size ∧ gr = w.heap.size + 1) ∨ (gu = w.heap.size + 1 ∧ gr = w.heap.size)) :
    FS (((w.alloc (.cells Z 3)).alloc (.cells Z 3)).alloc (.cells #[.slice (some ⟨gu, 0, none⟩) N N, .slice (some ⟨gr, 0, none⟩) N N, .int .i64 (N : Int)] 76)).drew (w.heap.size + 1 + 1) gu gr N (fill N 0) (fill N 0) N := by
  rw [fill_none]
  have e1 : ∀ (A B C : Obj), (((w.heap.push A).push B).push C)[w.heap.size]? = some A := fun A B C => by
    rw [Array.getElem?_push, if_neg (by simp only [Array.size_push]; omega), Array.getElem?_push, if_neg (by simp only [Array.size_push]; omega), Array.getElem?_push, if_pos rfl]
  have e2 : ∀ (A B C : Obj), (((w.heap.push A).push B).push C)[w.heap.size + 1]? = some B := fun A B C => by
    rw [Array.getElem?_push, if_neg (by simp only [Array.size_push]; omega), Array.getElem?_push, if_pos (by simp only [Array.size_push])]
  have e3 : ∀ (A B C : Obj), (((w.heap.push A).push B).push C)[w.heap.size + 1 + 1]? = some C := fun A B C => by
    rw [Array.getElem?_push, if_pos (by simp only [Array.size_push])]
  rw [hZ]
  rcases h with ⟨rfl, rfl⟩ | ⟨rfl, rfl⟩
  · exact ⟨e3 _ _ _, e1 _ _ _, e2 _ _ _, by simp, by simp, by omega, by omega, by omega, by omega⟩
  · exact ⟨e3 _ _ _, e2 _ _ _, e1 _ _ _, by simp, by simp, by omega, by omega, by omega, by omega⟩
/-- A new forest. -/
def Newly (w W : World) (p N : Nat) : Prop := ∃ gu gr, Forest W p gu gr N (List.range N) (List.range N) N ∧ Below w.heap.size w W ∧ w.heap.size ≤ p ∧ w.heap.size ≤ gu ∧ w.heap.size ≤ gr
set_option maxHeartbeats 8000000 in
set_option maxRecDepth 100000 in
theorem new_calls (w : World) (x : Int) (N : Nat) (hx : x = (N : Int) ∨ (x < 0 ∧ N = 0)) (hN : N ≤ 1000) :
    Calls Try.prog 22 #[.int .i64 x] w fun e W' => ∃ p, e = .returned (.pointer (some ⟨p, 0, none⟩)) ∧ Newly w W' p N := by
  obtain ⟨Z, hZ⟩ : ∃ Z, Z = ((List.replicate N 0).map (fun x : Nat => Value.int .i64 (x : Int))).toArray := ⟨_, rfl⟩
  have hmk : ∀ w', (Instr.makeSlice 51 (.int .i64 (N : Int)) (.int .i64 (N : Int))).run Try.prog w' = .ok (.slice (some ⟨w'.heap.size, 0, none⟩) N N) (w'.alloc (.cells Z 3)) := fun w' => by rw [hZ]; exact made w' N (by omega)
  have HZ := Aside0.mk hZ
  have HX := Aside0.mk hN
  clear hZ hN
  by_cases c : x < 0
  · obtain rfl : N = 0 := by omega
    clear hx
    have hZ0 : Z = #[] := by rw [HZ.out]; rfl
    have hmk0 : ∀ w', (Instr.makeSlice 51 (.int .i64 0) (.int .i64 0)).run Try.prog w' = .ok (.slice (some ⟨w'.heap.size, 0, none⟩) 0 0) (w'.alloc (.cells Z 3)) := hmk
    clear hmk
    have hmk := hmk0
    clear hmk0
    go_enter Try.func22, Try.ntmps22
    go_wp2_with fail
    clear hZ0
    have hZ0 : True := trivial
    go_region
    all_goals go_wp2_with fail
    · have hf : FS (((w.alloc (.cells Z 3)).alloc (.cells Z 3)).alloc (.cells #[.slice (some ⟨w.heap.size, 0, none⟩) 0 0, .slice (some ⟨w.heap.size + 1, 0, none⟩) 0 0, .int .i64 0] 76)).drew (w.heap.size + 1 + 1) (w.heap.size) (w.heap.size + 1) 0 (fill 0 0) (fill 0 0) 0 := fresh w 0 Z HZ.out HX.out (w.heap.size) (w.heap.size + 1) (.inl ⟨rfl, rfl⟩)
      have hb : Below w.heap.size w (((w.alloc (.cells Z 3)).alloc (.cells Z 3)).alloc (.cells #[.slice (some ⟨w.heap.size, 0, none⟩) 0 0, .slice (some ⟨w.heap.size + 1, 0, none⟩) 0 0, .int .i64 0] 76)).drew := below_drew1 (below_alloc (below_alloc (below_alloc (Below.refl _ _) _) _) _)
      obtain ⟨p, hp⟩ : ∃ p, p = w.heap.size + 1 + 1 := ⟨_, rfl⟩
      obtain ⟨W1, hW1⟩ : ∃ W1, W1 = (((w.alloc (.cells Z 3)).alloc (.cells Z 3)).alloc (.cells #[.slice (some ⟨w.heap.size, 0, none⟩) 0 0, .slice (some ⟨w.heap.size + 1, 0, none⟩) 0 0, .int .i64 0] 76)).drew := ⟨_, rfl⟩
      rw [← hp, ← hW1] at hf
      rw [← hW1] at hb
      rw [← hp, ← hW1]
      obtain ⟨gu, hgu⟩ : ∃ g, g = w.heap.size := ⟨_, rfl⟩
      obtain ⟨gr, hgr⟩ : ∃ g, g = w.heap.size + 1 := ⟨_, rfl⟩
      rw [← hgr, ← hgu] at hf
      rw [← hgr, ← hgu]
      have HL := Aside0.mk (And.intro (show w.heap.size ≤ p by omega) (And.intro (show w.heap.size ≤ gu by omega) (show w.heap.size ≤ gr by omega)))
      have HF := Aside0.mk hf
      have HB := Aside0.mk hb
      clear hp hW1 hgu hgr hf hb hmk HZ hZ0
      go_loopg [15] 0 (fun kq v15 w' => v15 = .int .i64 0 ∧ w' = W1)
      case atStart => exact ⟨rfl, rfl⟩
      case round =>
        obtain ⟨rfl, rfl⟩ := hrel
        go_wp2
        go_ret
        refine ⟨p, rfl, gu, gr, ⟨_, Rep.start _, ?_⟩, HB.out, HL.out.1, HL.out.2.1, HL.out.2.2⟩
        have h := HF.out
        rw [fill_all] at h
        exact h
    · have hf : FS (((w.alloc (.cells Z 3)).alloc (.cells Z 3)).alloc (.cells #[.slice (some ⟨w.heap.size + 1, 0, none⟩) 0 0, .slice (some ⟨w.heap.size, 0, none⟩) 0 0, .int .i64 0] 76)).drew (w.heap.size + 1 + 1) (w.heap.size + 1) (w.heap.size) 0 (fill 0 0) (fill 0 0) 0 := fresh w 0 Z HZ.out HX.out (w.heap.size + 1) (w.heap.size) (.inr ⟨rfl, rfl⟩)
      have hb : Below w.heap.size w (((w.alloc (.cells Z 3)).alloc (.cells Z 3)).alloc (.cells #[.slice (some ⟨w.heap.size + 1, 0, none⟩) 0 0, .slice (some ⟨w.heap.size, 0, none⟩) 0 0, .int .i64 0] 76)).drew := below_drew1 (below_alloc (below_alloc (below_alloc (Below.refl _ _) _) _) _)
      obtain ⟨p, hp⟩ : ∃ p, p = w.heap.size + 1 + 1 := ⟨_, rfl⟩
      obtain ⟨W1, hW1⟩ : ∃ W1, W1 = (((w.alloc (.cells Z 3)).alloc (.cells Z 3)).alloc (.cells #[.slice (some ⟨w.heap.size + 1, 0, none⟩) 0 0, .slice (some ⟨w.heap.size, 0, none⟩) 0 0, .int .i64 0] 76)).drew := ⟨_, rfl⟩
      rw [← hp, ← hW1] at hf
      rw [← hW1] at hb
      rw [← hp, ← hW1]
      obtain ⟨gu, hgu⟩ : ∃ g, g = w.heap.size + 1 := ⟨_, rfl⟩
      obtain ⟨gr, hgr⟩ : ∃ g, g = w.heap.size := ⟨_, rfl⟩
      rw [← hgu, ← hgr] at hf
      rw [← hgu, ← hgr]
      have HL := Aside0.mk (And.intro (show w.heap.size ≤ p by omega) (And.intro (show w.heap.size ≤ gu by omega) (show w.heap.size ≤ gr by omega)))
      have HF := Aside0.mk hf
      have HB := Aside0.mk hb
      clear hp hW1 hgu hgr hf hb hmk HZ hZ0
      go_loopg [15] 0 (fun kq v15 w' => v15 = .int .i64 0 ∧ w' = W1)
      case atStart => exact ⟨rfl, rfl⟩
      case round =>
        obtain ⟨rfl, rfl⟩ := hrel
        go_wp2
        go_ret
        refine ⟨p, rfl, gu, gr, ⟨_, Rep.start _, ?_⟩, HB.out, HL.out.1, HL.out.2.1, HL.out.2.2⟩
        have h := HF.out
        rw [fill_all] at h
        exact h
  · obtain rfl : x = (N : Int) := by omega
    clear hx
    go_enter Try.func22, Try.ntmps22
    go_wp2_with fail
    go_region
    all_goals go_wp2_with fail
    · have hf := fresh w N Z HZ.out HX.out (w.heap.size) (w.heap.size + 1) (.inl ⟨rfl, rfl⟩)
      have hb : Below w.heap.size w (((w.alloc (.cells Z 3)).alloc (.cells Z 3)).alloc (.cells #[.slice (some ⟨w.heap.size, 0, none⟩) N N, .slice (some ⟨w.heap.size + 1, 0, none⟩) N N, .int .i64 (N : Int)] 76)).drew := below_drew1 (below_alloc (below_alloc (below_alloc (Below.refl _ _) _) _) _)
      obtain ⟨p, hp⟩ : ∃ p, p = w.heap.size + 1 + 1 := ⟨_, rfl⟩
      obtain ⟨W1, hW1⟩ : ∃ W1, W1 = (((w.alloc (.cells Z 3)).alloc (.cells Z 3)).alloc (.cells #[.slice (some ⟨w.heap.size, 0, none⟩) N N, .slice (some ⟨w.heap.size + 1, 0, none⟩) N N, .int .i64 (N : Int)] 76)).drew := ⟨_, rfl⟩
      rw [← hp, ← hW1] at hf
      rw [← hW1] at hb
      rw [← hp, ← hW1]
      obtain ⟨gu, hgu⟩ : ∃ g, g = w.heap.size := ⟨_, rfl⟩
      obtain ⟨gr, hgr⟩ : ∃ g, g = w.heap.size + 1 := ⟨_, rfl⟩
      rw [← hgr, ← hgu] at hf
      rw [← hgr, ← hgu]
      have lp : w.heap.size ≤ p := by omega
      have lu : w.heap.size ≤ gu := by omega
      have lr : w.heap.size ≤ gr := by omega
      have HL := Aside0.mk (And.intro lp (And.intro lu lr))
      have HF := Aside0.mk hf
      have HB := Aside0.mk hb
      have n1 := hf.pu
      have n2 := hf.pr
      have n3 := hf.ur
      clear lp lu lr hp hW1 hgu hgr hf hb hmk HZ
      go_loopg [15] N (fun kq v15 w' => ∃ i : Nat, v15 = .int .i64 (i : Int) ∧ i ≤ N ∧ kq = N - i ∧ Aside0 (FS w' p gu gr N (fill N i) (fill N i) N) ∧ Aside0 (Below w.heap.size w w'))
      case atStart => exact ⟨0, rfl, by omega, by omega, HF, HB⟩
      case round =>
        clear HF HB
        obtain ⟨i, rfl, hi, hk, HF, HB⟩ := hrel
        by_cases hlt : i < N
        · have hltz : (i : Int) < (N : Int) := by omega
          have h0z : (0 : Int) ≤ (i : Int) := by omega
          have hmx : (i : Int) < 9223372036854775807 := by have := HX.out; omega
          have f1 := HF.out.up_
          have f2 := HF.out.ring_
          have f3 := HF.out.u.cell i (by rw [fill_len]; exact hlt)
          have f4 := HF.out.u.cold i
          have f5 := HF.out.r.cell i (by rw [fill_len]; exact hlt)
          have f6 := HF.out.r.cold i
          generalize (fill N i).getD i 0 = q at f3 f5
          go_wp2_with fail
          go_region
          all_goals go_wp2_with fail
          have g1 := (HF.out.setUp i i).setRing i i
          rw [fill_next N i hlt] at g1
          have HG := Aside0.mk g1
          go_roundg (N - (i + 1))
          case measure => omega
          case rel => exact ⟨i + 1, by go_num, by omega, rfl, ⟨HG.out.drewN 1⟩, ⟨below_drew1 ((HB.out.setCell HL.out.2.1 _).setCell HL.out.2.2 _)⟩⟩
        · have hltz : ¬ (i : Int) < (N : Int) := by omega
          obtain rfl : i = N := by omega
          go_wp2
          go_ret
          refine ⟨p, rfl, gu, gr, ⟨_, Rep.start _, ?_⟩, HB.out, HL.out.1, HL.out.2.1, HL.out.2.2⟩
          have h := HF.out
          rw [fill_all] at h
          exact h
    · have hf := fresh w N Z HZ.out HX.out (w.heap.size + 1) (w.heap.size) (.inr ⟨rfl, rfl⟩)
      have hb : Below w.heap.size w (((w.alloc (.cells Z 3)).alloc (.cells Z 3)).alloc (.cells #[.slice (some ⟨w.heap.size + 1, 0, none⟩) N N, .slice (some ⟨w.heap.size, 0, none⟩) N N, .int .i64 (N : Int)] 76)).drew := below_drew1 (below_alloc (below_alloc (below_alloc (Below.refl _ _) _) _) _)
      obtain ⟨p, hp⟩ : ∃ p, p = w.heap.size + 1 + 1 := ⟨_, rfl⟩
      obtain ⟨W1, hW1⟩ : ∃ W1, W1 = (((w.alloc (.cells Z 3)).alloc (.cells Z 3)).alloc (.cells #[.slice (some ⟨w.heap.size + 1, 0, none⟩) N N, .slice (some ⟨w.heap.size, 0, none⟩) N N, .int .i64 (N : Int)] 76)).drew := ⟨_, rfl⟩
      rw [← hp, ← hW1] at hf
      rw [← hW1] at hb
      rw [← hp, ← hW1]
      obtain ⟨gu, hgu⟩ : ∃ g, g = w.heap.size + 1 := ⟨_, rfl⟩
      obtain ⟨gr, hgr⟩ : ∃ g, g = w.heap.size := ⟨_, rfl⟩
      rw [← hgu, ← hgr] at hf
      rw [← hgu, ← hgr]
      have lp : w.heap.size ≤ p := by omega
      have lu : w.heap.size ≤ gu := by omega
      have lr : w.heap.size ≤ gr := by omega
      have HL := Aside0.mk (And.intro lp (And.intro lu lr))
      have HF := Aside0.mk hf
      have HB := Aside0.mk hb
      have n1 := hf.pu
      have n2 := hf.pr
      have n3 := hf.ur
      clear lp lu lr hp hW1 hgu hgr hf hb hmk HZ
      go_loopg [15] N (fun kq v15 w' => ∃ i : Nat, v15 = .int .i64 (i : Int) ∧ i ≤ N ∧ kq = N - i ∧ Aside0 (FS w' p gu gr N (fill N i) (fill N i) N) ∧ Aside0 (Below w.heap.size w w'))
      case atStart => exact ⟨0, rfl, by omega, by omega, HF, HB⟩
      case round =>
        clear HF HB
        obtain ⟨i, rfl, hi, hk, HF, HB⟩ := hrel
        by_cases hlt : i < N
        · have hltz : (i : Int) < (N : Int) := by omega
          have h0z : (0 : Int) ≤ (i : Int) := by omega
          have hmx : (i : Int) < 9223372036854775807 := by have := HX.out; omega
          have f1 := HF.out.up_
          have f2 := HF.out.ring_
          have f3 := HF.out.u.cell i (by rw [fill_len]; exact hlt)
          have f4 := HF.out.u.cold i
          have f5 := HF.out.r.cell i (by rw [fill_len]; exact hlt)
          have f6 := HF.out.r.cold i
          generalize (fill N i).getD i 0 = q at f3 f5
          go_wp2_with fail
          go_region
          all_goals go_wp2_with fail
          have g1 := (HF.out.setUp i i).setRing i i
          rw [fill_next N i hlt] at g1
          have HG := Aside0.mk g1
          go_roundg (N - (i + 1))
          case measure => omega
          case rel => exact ⟨i + 1, by go_num, by omega, rfl, ⟨HG.out.drewN 1⟩, ⟨below_drew1 ((HB.out.setCell HL.out.2.1 _).setCell HL.out.2.2 _)⟩⟩
        · have hltz : ¬ (i : Int) < (N : Int) := by omega
          obtain rfl : i = N := by omega
          go_wp2
          go_ret
          refine ⟨p, rfl, gu, gr, ⟨_, Rep.start _, ?_⟩, HB.out, HL.out.1, HL.out.2.1, HL.out.2.2⟩
          have h := HF.out
          rw [fill_all] at h
          exact h
attribute [local go_sem] max2_int min2_int max_two min_two max_three min_three max_four min_four   -- for this text's walks alone
attribute [local go_sem ↓] Go.wp_at_zero Go.wp_at_succ
/-- The ring leads from x over these to y. -/
def Path (ring : List Nat) : Nat → List Nat → Nat → Prop
  | x, [], y => ring.getD x 0 = y
  | x, c :: cs, y => ring.getD x 0 = c ∧ Path ring c cs y
/-- A group's ring. -/
structure Cyc (n : Nat) (L ring : List Nat) (r : Nat) (c : List Nat) : Prop where
  path : Path ring r c r
  no : r ∉ c
  all : ∀ j, j < n → (L.getD j 0 = r ↔ j = r ∨ j ∈ c)
  lt : ∀ j, j ∈ c → j < n
def mark (n : Nat) (c : List Nat) : List Nat := (List.range n).map fun j => if j ∈ c then 1 else 0
theorem mark_len (n : Nat) (c : List Nat) : (mark n c).length = n := by simp [mark]
theorem mark_none (n : Nat) : mark n [] = List.replicate n 0 := by
  unfold mark
  apply List.ext_getElem
  · simp
  · intro j h1 h2; simp
theorem mark_set (n : Nat) (c : List Nat) (i : Nat) : (mark n c).set i 1 = mark n (i :: c) := by
  unfold mark
  apply List.ext_getElem
  · simp
  · intro j h1 h2
    rw [List.getElem_set]
    simp only [List.getElem_map, List.getElem_range, List.mem_cons]
    by_cases e : i = j
    · subst e; simp
    · have e2 : ¬ j = i := fun h => e h.symm
      simp [e, e2]
theorem mark_at (n : Nat) (c : List Nat) (i : Nat) (h : i < n) : (mark n c).getD i 0 = if i ∈ c then 1 else 0 := by
  simp [mark, List.getD, h]
/-- The members among the first i. -/
def mem (L : List Nat) (f i : Nat) : List Int := ((List.range i).filter fun j : Nat => decide (L.getD j 0 = f)).map fun j : Nat => (j : Int)
theorem mem_next (L : List Nat) (f i : Nat) : mem L f (i + 1) = if L.getD i 0 = f then mem L f i ++ [(i : Int)] else mem L f i := by
  unfold mem
  rw [List.range_succ, List.filter_append, List.map_append]
  by_cases h : L.getD i 0 = f
  · rw [if_pos h, List.filter_cons, if_pos (by simpa using h)]; rfl
  · rw [if_neg h, List.filter_cons, if_neg (by simpa using h)]; simp
theorem mem_le (L : List Nat) (f : Nat) : ∀ i, (mem L f i).length ≤ i
  | 0 => by simp [mem]
  | i + 1 => by
    rw [mem_next]
    have := mem_le L f i
    split
    · rw [List.length_append]; simp; omega
    · omega
def Ahead (ring : List Nat) (i : Nat) (q : List Nat) (f : Nat) : Prop :=
  match q with
  | [] => i = f
  | x :: rest => x = i ∧ Path ring i rest f
theorem Ahead.start {ring : List Nat} {f : Nat} {c : List Nat} (h : Path ring f c f) : Ahead ring (ring.getD f 0) c f := by
  cases c with
  | nil => exact h
  | cons x rest => exact ⟨h.1.symm, by have := h.2; rw [h.1]; exact this⟩
theorem Ahead.next {ring : List Nat} {i f x : Nat} {rest : List Nat} (h : Ahead ring i (x :: rest) f) : Ahead ring (ring.getD i 0) rest f := by
  cases rest with
  | nil => exact h.2
  | cons y r => exact ⟨h.2.1.symm, by have := h.2.2; rw [h.2.1]; exact this⟩
set_option maxHeartbeats 8000000 in
set_option maxRecDepth 100000 in
theorem members_none (W : World) (p gu gr n : Nat) (up ring L : List Nat) (gs : Nat) (hF : FS W p gu gr n up ring gs) (hR : Rep up L) (x : Int) (hx : fnd L x < 0) :
    Calls Try.prog 38 #[.pointer (some ⟨p, 0, none⟩), .int .i64 x] W fun e W' => e = .returned (.slice none 0 0) ∧ Forest W' p gu gr n L ring gs ∧ Chg (· = gu) W W' := by
  have HF := Aside0.mk hF
  have HR := Aside0.mk hR
  obtain ⟨X, hX⟩ : ∃ X, X = fnd L x := ⟨_, rfl⟩
  rw [← hX] at hx
  have HX := Aside0.mk hX.symm
  clear hX hF hR
  go_enter Try.func38, Try.ntmps38
  go_wp2_with (go_at_call 25; (with_reducible refine (find_calls W p gu gr n up ring L gs HF.out HR.out x).mono ?_); rw [HX.out]; rintro e w1 ⟨rfl, up1, hR1, hF1, hC1⟩; have HR1 := Aside0.mk hR1; have HF1 := Aside0.mk hF1; have HC1 := Aside0.mk hC1; clear hR1 hF1 hC1)
  go_ret
  exact ⟨rfl, ⟨up1, HR1.out, HF1.out⟩, HC1.out⟩
set_option maxHeartbeats 8000000 in
set_option maxRecDepth 100000 in
theorem members_in (W : World) (p gu gr n : Nat) (up ring L : List Nat) (gs : Nat) (hF : FS W p gu gr n up ring gs) (hR : Rep up L) (x : Int) (f : Nat) (hx : fnd L x = (f : Int)) (hf : f < n) (c : List Nat) (hc : Cyc n L ring f c) :
    Calls Try.prog 38 #[.pointer (some ⟨p, 0, none⟩), .int .i64 x] W fun e W' => ∃ v, e = .returned v ∧ Kd.R (Kd.int .i64) 3 W' W.heap.size (fun _ => True) v (mem L f n) ∧ Forest W' p gu gr n L ring gs ∧ Chg (· = gu) W W' := by
  have HF := Aside0.mk hF
  have HR := Aside0.mk hR
  have HX := Aside0.mk hx
  have HFL := Aside0.mk hf
  have HCY := Aside0.mk hc
  have HNN := Aside0.mk hF.hn
  have hfz : ¬ (f : Int) < 0 := by omega
  have hfn : (f : Int) < (n : Int) := by omega
  have hf0 : (0 : Int) ≤ (f : Int) := by omega
  clear hx hF hR hf hc
  go_enter Try.func38, Try.ntmps38
  go_wp2_with (go_at_call 25; (with_reducible refine (find_calls W p gu gr n up ring L gs HF.out HR.out x).mono ?_); rw [HX.out]; rintro e w1 ⟨rfl, up1, hR1, hF1, hC1⟩; have HR1 := Aside0.mk hR1; have HF1 := Aside0.mk hF1; have HC1 := Aside0.mk hC1; have f1 := hF1.up_; clear hR1 hF1 hC1)
  rw [made w1 n HNN.out]
  obtain ⟨W2, hW2⟩ : ∃ W2, W2 = (w1.alloc (.cells ((List.replicate n 0).map (fun x : Nat => Value.int .i64 (x : Int))).toArray 3)) := ⟨_, rfl⟩
  rw [← hW2]
  obtain ⟨gi, hgi⟩ : ∃ gi, gi = w1.heap.size := ⟨_, rfl⟩
  rw [← hgi]
  have hbl : Below w1.heap.size w1 W2 := by rw [hW2]; exact below_alloc (Below.refl _ _) _
  have lp : p < w1.heap.size := (Array.getElem?_eq_some_iff.1 HF1.out.st).1
  have lu : gu < w1.heap.size := (Array.getElem?_eq_some_iff.1 HF1.out.u).1
  have lr : gr < w1.heap.size := (Array.getElem?_eq_some_iff.1 HF1.out.r).1
  have hF2 : FS W2 p gu gr n up1 ring gs := ⟨(hbl.block p lp).trans HF1.out.st, HF1.out.u.step (hbl.block gu lu), HF1.out.r.step (hbl.block gr lr), HF1.out.ul, HF1.out.rl, HF1.out.pu, HF1.out.pr, HF1.out.ur, HF1.out.hn⟩
  have hI : NI W2 gi (mark n []) := by
    rw [mark_none, hW2, hgi]
    show (w1.heap.push _)[w1.heap.size]? = _
    rw [Array.getElem?_push, if_pos rfl]
  have hC2 : Chg (· = gu) W W2 := ⟨hbl.os.trans HC1.out.os, hbl.tape.trans HC1.out.tape, hbl.output.trans HC1.out.output, HC1.out.kept.below hbl⟩
  have hgw : W.heap.size ≤ gi := by have := HC1.out.kept.1; omega
  have npi : p ≠ gi := by omega
  have nui : gu ≠ gi := by omega
  have nri : gr ≠ gi := by omega
  clear f1 hgi hW2 hbl HF1 HC1 lp lu lr
  simp only [Result.andThen]
  rw [Oper.upon_value]
  have f1 := hF2.up_
  have f2 := hF2.ring_
  have f3 := hF2.r.cell f (by rw [hF2.rl]; exact HFL.out)
  have f4 := hI.cell f (by rw [mark_len]; exact HFL.out)
  have f5 := hI.cold f
  have hI2 := hI.set f 1
  rw [mark_set] at hI2
  have HF2 := Aside0.mk (show FS (W2.setCell ⟨gi, f, none⟩ (.int .i64 1)) p gu gr n up1 ring gs from ⟨(Below.heap_setCell W2 _ _ p npi).trans hF2.st, hF2.u.far nui _, hF2.r.far nri _, hF2.ul, hF2.rl, hF2.pu, hF2.pr, hF2.ur, hF2.hn⟩)
  have HI := Aside0.mk hI2
  have HC2 := Aside0.mk (show Chg (· = gu) W (W2.setCell ⟨gi, f, none⟩ (.int .i64 1)) from ⟨hC2.os, hC2.tape, hC2.output, hC2.kept.setCell (.inr hgw) _⟩)
  have HA := Aside0.mk (Ahead.start HCY.out.path)
  have HGW := Aside0.mk hgw
  generalize (mark n []).getD f 0 = q0 at f4
  obtain ⟨i0, hi0⟩ : ∃ i0, i0 = ring.getD f 0 := ⟨_, rfl⟩
  rw [← hi0] at f3 HA
  clear hI hI2 hF2 hC2 hgw hi0
  go_wp2_with fail
  clear f1 f2 f3 f4 f5
  go_loopg [7] c.length (fun kq v7 w' => ∃ (i : Nat) (q d : List Nat), v7 = .int .i64 (i : Int) ∧ kq = q.length ∧ Aside0 (Ahead ring i q f) ∧ Aside0 (∀ j, (j = f ∨ j ∈ c) ↔ (j ∈ d ∨ j ∈ q)) ∧ Aside0 (f ∉ q) ∧ Aside0 (FS w' p gu gr n up1 ring gs) ∧ Aside0 (NI w' gi (mark n d)) ∧ Aside0 (Chg (· = gu) W w'))
  case atStart => exact ⟨i0, c, [f], rfl, rfl, HA, ⟨fun j => by simp⟩, ⟨HCY.out.no⟩, HF2, HI, HC2⟩
  case round =>
    clear HF2 HI HC2 HA
    obtain ⟨i, q, d, rfl, hk, HA, HM, HNF, HF, HI, HC⟩ := hrel
    cases q with
    | cons x1 rest =>
      have hA := HA.out
      obtain rfl : x1 = i := hA.1
      have hif : x1 ≠ f := fun e => HNF.out (by rw [e]; simp)
      have hifz : ¬ (x1 : Int) = (f : Int) := by omega
      have hin : x1 < n := by
        rcases (HM.out x1).2 (.inr (by simp)) with h | h
        · exact absurd h hif
        · exact HCY.out.lt _ h
      have hinz : (x1 : Int) < (n : Int) := by omega
      have h0z : (0 : Int) ≤ (x1 : Int) := by omega
      have f2 := HF.out.ring_
      have f3 := HF.out.r.cell x1 (by rw [HF.out.rl]; exact hin)
      have f4 := HI.out.cell x1 (by rw [mark_len]; exact hin)
      have f5 := HI.out.cold x1
      have hI2 := HI.out.set x1 1
      rw [mark_set] at hI2
      have HI2 := Aside0.mk hI2
      have HA2 := Aside0.mk (Ahead.next hA)
      generalize (mark n d).getD x1 0 = q0 at f4
      obtain ⟨i1, hi1⟩ : ∃ i1, i1 = ring.getD x1 0 := ⟨_, rfl⟩
      rw [← hi1] at f3 HA2
      clear hI2 hA hif hin hi1
      go_wp2_with fail
      go_roundg rest.length
      case measure => have := hk; simp only [List.length_cons] at this; omega
      case rel => exact ⟨i1, rest, x1 :: d, rfl, rfl, HA2, ⟨fun j => by rw [HM.out j]; simp only [List.mem_cons]; exact ⟨fun h => h.elim (fun h => .inl (.inr h)) (fun h => h.elim (fun h => .inl (.inl h)) .inr), fun h => h.elim (fun h => h.elim (fun h => .inr (.inl h)) .inl) (fun h => .inr (.inr h))⟩⟩, ⟨fun h => HNF.out (List.mem_cons_of_mem _ h)⟩, ⟨⟨(Below.heap_setCell _ _ _ p npi).trans HF.out.st, HF.out.u.far nui _, HF.out.r.far nri _, HF.out.ul, HF.out.rl, HF.out.pu, HF.out.pr, HF.out.ur, HF.out.hn⟩⟩, HI2, ⟨⟨HC.out.os, HC.out.tape, HC.out.output, HC.out.kept.setCell (.inr HGW.out) _⟩⟩⟩
    | nil =>
      have hA : i = f := HA.out
      have hAz : (i : Int) = (f : Int) := by omega
      have hmark : ∀ j, j < n → (mark n d).getD j 0 = if L.getD j 0 = f then 1 else 0 := fun j hj => by
        rw [mark_at n d j hj]
        have h1 := HM.out j
        have h2 := HCY.out.all j hj
        simp only [List.not_mem_nil, or_false] at h1
        by_cases h : L.getD j 0 = f
        · rw [if_pos h, if_pos (h1.1 (h2.1 h))]
        · rw [if_neg h, if_neg (fun h3 => h (h2.2 (h1.2 h3)))]
      have HMK := Aside0.mk hmark
      obtain ⟨Ws, rfl⟩ : ∃ Ws, Ws = wr := ⟨_, rfl⟩
      have gil : gi < Ws.heap.size := (Array.getElem?_eq_some_iff.1 HI.out).1
      have HGI := Aside0.mk gil
      clear hmark gil HM HNF HA hk hA
      go_wp2_with fail
      clear hAz
      go_loopg [8, 47] n (fun kq v8 v47 w' => ∃ i : Nat, v47 = .int .i64 (i : Int) ∧ i ≤ n ∧ kq = n - i ∧ Aside0 (Kd.R (Kd.int .i64) 3 w' Ws.heap.size (fun _ => True) v8 (mem L f i)) ∧ Aside0 (Below Ws.heap.size Ws w'))
      case atStart => exact ⟨0, rfl, by omega, by omega, ⟨Kd.R_nil _ _ _ _ _⟩, ⟨Below.refl _ _⟩⟩
      case round =>
        obtain ⟨k, rfl, hkn, hkq, HO, HB⟩ := hrel
        by_cases hlt : k < n
        · have hltz : (k : Int) < (n : Int) := by omega
          have h0z : (0 : Int) ≤ (k : Int) := by omega
          have hcell := (HB.out.cell (p := ⟨gi, k, none⟩) HGI.out).trans (HI.out.cell k (by rw [mark_len]; exact hlt))
          rw [HMK.out k hlt] at hcell
          have hle := mem_le L f k
          have hsmall : k ≤ 1000000 := by have := HNN.out; omega
          have HS := Aside0.mk (And.intro hle hsmall)
          have hnx := mem_next L f k
          have hkm : (k : Int) < 9223372036854775807 := by omega
          by_cases cL : L.getD k 0 = f
          · rw [if_pos cL] at hcell hnx
            have HNX := Aside0.mk hnx
            have hc1 : ((1 : Nat) : Int) = 1 := rfl
            rw [hc1] at hcell
            clear cL hle hsmall hnx hc1 HMK
            obtain ⟨Y, hY⟩ : ∃ Y, Y = mem L f k := ⟨_, rfl⟩
            rw [← hY] at HO HS HNX
            clear hY
            go_wp2_with ((with_reducible refine gate_builtin (b := .append) (xs := #[.tmp 54, .tmp 56]) rfl ?_); at_builtin; refine Kd.R_append (Kd.int .i64) (w0 := Ws) Ws.heap.size rfl (.tmp 54) (.tmp 56) 51 3 (.int .i64 0) 8 rfl Try.underlying51 infoInt rfl (by decide) (by omega) u8 Y (k : Int) [.int .i64 (k : Int)] (fun _ => True) (fun _ => False) rfl rfl ?aP (fun _ hk => hk.elim) ?aF ?aO ?aB ?aS ?aL ?_; (case aP => exact rfl); (case aB => exact (by repeat (first | (with_reducible first | exact HB.out | apply below_alloc | apply pw_below_drewN | apply below_drew1) | exact HB.out))); (case aF => exact (fun _ _ => trivial)); (case aO => exact (by (with_reducible repeat (first | apply Kd.R_alloc | apply Kd.R_drewN | apply Kd.R_drew)); exact HO.out)); (case aS => exact (below_size (by repeat (first | (with_reducible first | exact HB.out | apply below_alloc | apply pw_below_drewN | apply below_drew1) | exact HB.out)))); (case aL => have := HS.out.1; have := HS.out.2; omega); intro v147 w14 ho hb hg hat; rw [← HNX.out] at ho; have HB2 := Aside0.mk hb; have HO2 := Aside0.mk ho; clear ho hb hg hat)
            go_roundg (n - (k + 1))
            case measure => omega
            case rel => exact ⟨k + 1, by go_num, by omega, rfl, HO2, HB2⟩
          · rw [if_neg cL] at hcell hnx
            have HNX := Aside0.mk hnx
            have hc1 : ((0 : Nat) : Int) = 0 := rfl
            rw [hc1] at hcell
            clear cL hle hsmall hnx hc1 HMK
            go_wp2_with fail
            go_roundg (n - (k + 1))
            case measure => omega
            case rel => exact ⟨k + 1, by go_num, by omega, rfl, ⟨by rw [HNX.out]; exact HO.out⟩, HB⟩
        · have hltz : ¬ (k : Int) < (n : Int) := by omega
          obtain rfl : k = n := by omega
          go_wp2_with fail
          go_ret
          have lp : p < Ws.heap.size := (Array.getElem?_eq_some_iff.1 HF.out.st).1
          have lu : gu < Ws.heap.size := (Array.getElem?_eq_some_iff.1 HF.out.u).1
          have lr : gr < Ws.heap.size := (Array.getElem?_eq_some_iff.1 HF.out.r).1
          exact ⟨_, rfl, Kd.R_lower HO.out HC.out.kept.1, ⟨up1, HR1.out, ⟨(HB.out.block p lp).trans HF.out.st, HF.out.u.step (HB.out.block gu lu), HF.out.r.step (HB.out.block gr lr), HF.out.ul, HF.out.rl, HF.out.pu, HF.out.pr, HF.out.ur, HF.out.hn⟩⟩, ⟨HB.out.os.trans HC.out.os, HB.out.tape.trans HC.out.tape, HB.out.output.trans HC.out.output, HC.out.kept.below HB.out⟩⟩
attribute [local go_sem] max2_int min2_int max_two min_two max_three min_three max_four min_four   -- for this text's walks alone
attribute [local go_sem ↓] Go.wp_at_zero Go.wp_at_succ
theorem Forest.drewN {W : World} {p gu gr n : Nat} {L ring : List Nat} {gs : Nat} (h : Forest W p gu gr n L ring gs) (m : Nat) : Forest (W.drewN m) p gu gr n L ring gs := by
  obtain ⟨up, h1, h2⟩ := h
  exact ⟨up, h1, h2.drewN m⟩
theorem union_ltF (W : World) (p gu gr n : Nat) (L ring : List Nat) (gs : Nat) (hF : Forest W p gu gr n L ring gs) (x y : Int) (a b : Nat) (hx : fnd L x = (a : Int)) (hy : fnd L y = (b : Int))
    (hab : a < b) (hbn : b < n) (ra : L.getD a 0 = a) (rb : L.getD b 0 = b) (hg : 1 ≤ gs) (hg2 : gs ≤ 1000000) :
    Calls Try.prog 23 #[.pointer (some ⟨p, 0, none⟩), .int .i64 x, .int .i64 y] W fun e W' => e = .returned (.tuple #[.int .i64 (a : Int), .int .i64 (b : Int), .bool true]) ∧ Forest W' p gu gr n (merge L a b) (swap ring a b) (gs - 1) ∧ Chg (fun k => k = gu ∨ k = gr ∨ k = p) W W' := by
  obtain ⟨up, h1, h2⟩ := hF
  exact union_lt W p gu gr n up ring L gs h2 h1 x y a b hx hy hab hbn ra rb hg hg2
theorem union_gtF (W : World) (p gu gr n : Nat) (L ring : List Nat) (gs : Nat) (hF : Forest W p gu gr n L ring gs) (x y : Int) (a b : Nat) (hx : fnd L x = (b : Int)) (hy : fnd L y = (a : Int))
    (hab : a < b) (hbn : b < n) (ra : L.getD a 0 = a) (rb : L.getD b 0 = b) (hg : 1 ≤ gs) (hg2 : gs ≤ 1000000) :
    Calls Try.prog 23 #[.pointer (some ⟨p, 0, none⟩), .int .i64 x, .int .i64 y] W fun e W' => e = .returned (.tuple #[.int .i64 (a : Int), .int .i64 (b : Int), .bool true]) ∧ Forest W' p gu gr n (merge L a b) (swap ring a b) (gs - 1) ∧ Chg (fun k => k = gu ∨ k = gr ∨ k = p) W W' := by
  obtain ⟨up, h1, h2⟩ := hF
  exact union_gt W p gu gr n up ring L gs h2 h1 x y a b hx hy hab hbn ra rb hg hg2
theorem findF (W : World) (p gu gr n : Nat) (L ring : List Nat) (gs : Nat) (hF : Forest W p gu gr n L ring gs) (x r : Int) (hr : fnd L x = r) :
    Calls Try.prog 25 #[.pointer (some ⟨p, 0, none⟩), .int .i64 x] W fun e W' => e = .returned (.int .i64 r) ∧ Forest W' p gu gr n L ring gs ∧ Chg (· = gu) W W' := by
  obtain ⟨up, h1, h2⟩ := hF
  refine (find_calls W p gu gr n up ring L gs h2 h1 x).mono ?_
  rintro e W' ⟨rfl, up', h3, h4, h5⟩
  exact ⟨by rw [hr], ⟨up', h3, h4⟩, h5⟩
theorem membersF (W : World) (p gu gr n : Nat) (L ring : List Nat) (gs : Nat) (hF : Forest W p gu gr n L ring gs) (x : Int) (f : Nat) (hx : fnd L x = (f : Int)) (hf : f < n) (c : List Nat) (hc : Cyc n L ring f c) :
    Calls Try.prog 38 #[.pointer (some ⟨p, 0, none⟩), .int .i64 x] W fun e W' => ∃ v, e = .returned v ∧ Kd.R (Kd.int .i64) 3 W' W.heap.size (fun _ => True) v (mem L f n) ∧ Forest W' p gu gr n L ring gs ∧ Chg (· = gu) W W' := by
  obtain ⟨up, h1, h2⟩ := hF
  exact members_in W p gu gr n up ring L gs h2 h1 x f hx hf c hc
set_option maxHeartbeats 8000000 in
set_option maxRecDepth 100000 in
theorem awake_calls (w : World) : Calls Try.prog 21 #[] w fun e W' => e = .returned (.bool true) ∧ Below w.heap.size w W' := by
  have e1 : fnd (List.range 4) 3 = ((3 : Nat) : Int) := by decide
  have e2 : fnd (List.range 4) 1 = ((1 : Nat) : Int) := by decide
  have e3 : (List.range 4).getD 1 0 = 1 := by decide
  have e4 : (List.range 4).getD 3 0 = 3 := by decide
  have e5 : fnd (merge (List.range 4) 1 3) 3 = 1 := by decide
  have E1 := Aside0.mk e1
  have E2 := Aside0.mk e2
  have E3 := Aside0.mk e3
  have E4 := Aside0.mk e4
  have E5 := Aside0.mk e5
  clear e1 e2 e3 e4 e5
  go_enter Try.func21, Try.ntmps21
  go_wp2_with (first | (go_at_call 22; (with_reducible refine (new_calls w 4 4 (.inl rfl) (by omega)).mono ?_); rintro e w1 ⟨p, rfl, gu, gr, hF, hB, l1, l2, l3⟩; have HF := Aside0.mk hF; have HB := Aside0.mk hB; have HL := Aside0.mk (And.intro l1 (And.intro l2 l3)); clear hF hB l1 l2 l3) | (go_at_call 40; (with_reducible refine (len_calls w1 p gu gr 4 _ _ _ HF.out).mono ?_); rintro e w' ⟨rfl, ⟨m1, rfl⟩⟩) | (go_at_call 23; (with_reducible refine (union_gtF (w1.drewN m1) p gu gr 4 _ _ 4 (HF.out.drewN m1) 3 1 1 3 E1.out E2.out (by omega) (by omega) E3.out E4.out (by omega) (by omega)).mono ?_); rintro e w3 ⟨rfl, hF3, hC3⟩; have HF3 := Aside0.mk hF3; have HB3 := Aside0.mk (Chg.below (pw_below_drewN HB.out m1) hC3 (fun k h => by rcases h with h | h | h <;> (rw [h]; first | exact HL.out.2.1 | exact HL.out.2.2 | exact HL.out.1))); clear hF3 hC3) | (go_at_call 25; (with_reducible refine (findF w3 p gu gr 4 _ _ _ HF3.out 3 1 E5.out).mono ?_); rintro e w4 ⟨rfl, hF4, hC4⟩; have HF4 := Aside0.mk hF4; have HB4 := Aside0.mk (Chg.below HB3.out hC4 (by rintro k rfl; exact HL.out.2.1)); clear hF4 hC4) | (go_at_call 26; (with_reducible refine (groups_calls w4 p gu gr 4 _ _ _ HF4.out).mono ?_); rintro e w' ⟨rfl, ⟨m2, rfl⟩⟩) | (go_at_call 22; (with_reducible refine (new_calls (w4.drewN m2) (-1) 0 (.inr ⟨by omega, rfl⟩) (by omega)).mono ?_); rintro e w5 ⟨p5, rfl, gu5, gr5, hF5, hB5, _⟩; have HF5 := Aside0.mk hF5; have HB5 := Aside0.mk (below_step (pw_below_drewN HB4.out m2) hB5); clear hF5 hB5) | (go_at_call 40; (with_reducible refine (len_calls w5 p5 gu5 gr5 0 _ _ _ HF5.out).mono ?_); rintro e w' ⟨rfl, ⟨m6, rfl⟩⟩))
  go_ret
  exact ⟨rfl, pw_below_drewN HB5.out m6⟩
theorem Path.move {ring ring' : List Nat} {x x' y : Nat} {c : List Nat} (h : Path ring x c y) (hx : ring'.getD x' 0 = ring.getD x 0) (hc : ∀ z ∈ c, ring'.getD z 0 = ring.getD z 0) : Path ring' x' c y := by
  induction c generalizing x x' with
  | nil => exact hx.trans h
  | cons z c ih => exact ⟨hx.trans h.1, ih h.2 (hc z (by simp)) (fun u hu => hc u (by simp [hu]))⟩
theorem Path.append {ring : List Nat} {x z y : Nat} {c d : List Nat} (h : Path ring x c z) (k : Path ring z d y) : Path ring x (c ++ z :: d) y := by
  induction c generalizing x with
  | nil => exact ⟨h, k⟩
  | cons u c ih => exact ⟨h.1, ih h.2⟩
def Rings (n : Nat) (L ring : List Nat) : Prop := ring.length = n ∧ ∀ r, r < n → L.getD r 0 = r → ∃ c, Cyc n L ring r c
theorem Rings.start (n : Nat) : Rings n (List.range n) (List.range n) := by
  refine ⟨by simp, fun r hr _ => ⟨[], ?_, by simp, fun j hj => ?_, by simp⟩⟩
  · show (List.range n).getD r 0 = r
    simp [List.getD, hr]
  · simp [List.getD, hj]
theorem Rings.join {n : Nat} {L ring : List Nat} (h : Rings n L ring) (hl : L.length = n) (a b : Nat) (hab : a < b) (hb : b < n) (ra : L.getD a 0 = a) (rb : L.getD b 0 = b) : Rings n (merge L a b) (swap ring a b) := by
  obtain ⟨hr, h⟩ := h
  have la : a < ring.length := by omega
  have lb : b < (ring.set a (ring.getD b 0)).length := by rw [List.length_set]; omega
  have sw : ∀ z, (swap ring a b).getD z 0 = if b = z then ring.getD a 0 else if a = z then ring.getD b 0 else ring.getD z 0 := fun z => by
    unfold swap; rw [getD_set _ _ _ _ lb, getD_set _ _ _ _ la]
  refine ⟨by unfold swap; simp [hr], fun r hrn hroot => ?_⟩
  rw [merge_at _ _ _ _ (by omega)] at hroot
  obtain ⟨ca, hca⟩ := h a (by omega) ra
  obtain ⟨cb, hcb⟩ := h b hb rb
  have ab_cb : a ∉ cb := fun hh => by have := (hcb.all a (by omega)).2 (.inr hh); omega
  have ba_ca : b ∉ ca := fun hh => by have := (hca.all b hb).2 (.inr hh); omega
  by_cases e : r = a
  · subst e
    refine ⟨cb ++ b :: ca, Path.append ?_ ?_, ?_, fun j hj => ?_, fun j hj => ?_⟩
    · refine hcb.path.move (by rw [sw, if_neg (by omega), if_pos rfl]) (fun z hz => ?_)
      rw [sw, if_neg (fun e => hcb.no (by rw [e]; exact hz)), if_neg (fun e => ab_cb (by rw [e]; exact hz))]
    · refine hca.path.move (by rw [sw, if_pos rfl]) (fun z hz => ?_)
      rw [sw, if_neg (fun e => ba_ca (by rw [e]; exact hz)), if_neg (fun e => hca.no (by rw [e]; exact hz))]
    · simp only [List.mem_append, List.mem_cons]
      rintro (hh | hh | hh)
      · exact ab_cb hh
      · omega
      · exact hca.no hh
    · rw [merge_at _ _ _ _ (by omega)]
      have h1 := hca.all j hj
      have h2 := hcb.all j hj
      simp only [List.mem_append, List.mem_cons]
      constructor
      · intro hh
        by_cases c : L.getD j 0 = b
        · rcases h2.1 c with h3 | h3
          · exact .inr (.inr (.inl h3))
          · exact .inr (.inl h3)
        · rw [if_neg c] at hh
          rcases h1.1 hh with h3 | h3
          · exact .inl h3
          · exact .inr (.inr (.inr h3))
      · rintro (hh | hh | hh | hh)
        · rw [if_neg (by rw [hh, ra]; omega), hh, ra]
        · rw [if_pos (h2.2 (.inr hh))]
        · rw [if_pos (h2.2 (.inl hh))]
        · have := h1.2 (.inr hh); rw [if_neg (by omega)]; exact this
    · simp only [List.mem_append, List.mem_cons] at hj
      rcases hj with hh | hh | hh
      · exact hcb.lt j hh
      · omega
      · exact hca.lt j hh
  · have c1 : L.getD r 0 ≠ b := fun c => by rw [if_pos c] at hroot; omega
    rw [if_neg c1] at hroot
    obtain ⟨c, hc⟩ := h r hrn hroot
    have nb : r ≠ b := fun e => c1 (by rw [e]; exact rb)
    have na : a ∉ c := fun hh => by have := (hc.all a (by omega)).2 (.inr hh); omega
    have nbc : b ∉ c := fun hh => by have := (hc.all b hb).2 (.inr hh); omega
    refine ⟨c, hc.path.move (by rw [sw, if_neg (fun e => nb e.symm), if_neg (fun h => e h.symm)]) (fun z hz => by rw [sw, if_neg (fun e => nbc (by rw [e]; exact hz)), if_neg (fun e => na (by rw [e]; exact hz))]), hc.no, fun j hj => ?_, hc.lt⟩
    rw [merge_at _ _ _ _ (by omega), ← hc.all j hj]
    by_cases cj : L.getD j 0 = b
    · rw [if_pos cj]; omega
    · rw [if_neg cj]
/-! Chains. -/
def run (D : Nat → Bool) : Nat → Nat
  | 0 => 0
  | j + 1 => if D j = true then run D j else j + 1
def groups (D : Nat → Bool) (n : Nat) : List Nat := (List.range n).map (run D)
def add (D : Nat → Bool) (k : Nat) : Nat → Bool := fun j => D j || decide (j = k)
def cnt (D : Nat → Bool) : Nat → Nat
  | 0 => 0
  | j + 1 => cnt D j + if D j = true then 1 else 0
theorem groups_len (D : Nat → Bool) (n : Nat) : (groups D n).length = n := by simp [groups]
theorem groups_at (D : Nat → Bool) (n j : Nat) (h : j < n) : (groups D n).getD j 0 = run D j := by simp [groups, List.getD, h]
theorem run_le (D : Nat → Bool) : ∀ j, run D j ≤ j
  | 0 => Nat.le_refl _
  | j + 1 => by have := run_le D j; unfold run; split <;> omega
theorem run_run (D : Nat → Bool) : ∀ j, run D (run D j) = run D j
  | 0 => rfl
  | j + 1 => by
    by_cases c : D j = true
    · have e : run D (j + 1) = run D j := by rw [run, if_pos c]
      rw [e]; exact run_run D j
    · have e : run D (j + 1) = j + 1 := by rw [run, if_neg c]
      rw [e]; exact e
theorem run_add (D : Nat → Bool) (k : Nat) (hk : D k = false) : ∀ j, run (add D k) j = if run D j = k + 1 then run D k else run D j
  | 0 => by simp [run]
  | j + 1 => by
    have ih := run_add D k hk j
    by_cases e : j = k
    · subst e
      have h1 : run (add D j) (j + 1) = run (add D j) j := by rw [run, if_pos (by simp [add])]
      have h2 : run D (j + 1) = j + 1 := by rw [run, if_neg (by simp [hk])]
      have h3 := run_le D j
      rw [h1, ih, h2, if_pos rfl, if_neg (by omega)]
    · have ha : add D k j = D j := by simp [add, e]
      by_cases c : D j = true
      · have h1 : run (add D k) (j + 1) = run (add D k) j := by rw [run, if_pos (by rw [ha]; exact c)]
        have h2 : run D (j + 1) = run D j := by rw [run, if_pos c]
        rw [h1, h2, ih]
      · have h1 : run (add D k) (j + 1) = j + 1 := by rw [run, if_neg (by rw [ha]; exact c)]
        have h2 : run D (j + 1) = j + 1 := by rw [run, if_neg c]
        rw [h1, h2, if_neg (by omega)]
theorem groups_add (D : Nat → Bool) (n k : Nat) (hk : D k = false) : groups (add D k) n = merge (groups D n) (run D k) (k + 1) := by
  unfold groups merge
  rw [List.map_map]
  apply List.map_congr_left
  intro j _
  exact run_add D k hk j
theorem cnt_le (D : Nat → Bool) : ∀ m, cnt D m ≤ m
  | 0 => Nat.le_refl _
  | m + 1 => by have := cnt_le D m; unfold cnt; split <;> omega
theorem cnt_add_far (D : Nat → Bool) (k : Nat) : ∀ m, m ≤ k → cnt (add D k) m = cnt D m
  | 0, _ => rfl
  | m + 1, h => by
    have e : add D k m = D m := by simp [add]; omega
    simp only [cnt]
    rw [cnt_add_far D k m (by omega), e]
theorem cnt_add (D : Nat → Bool) (k : Nat) (hk : D k = false) : ∀ m, k < m → cnt (add D k) m = cnt D m + 1
  | 0, h => by omega
  | m + 1, h => by
    simp only [cnt]
    by_cases e : m = k
    · subst e
      rw [cnt_add_far D m m (Nat.le_refl _), if_pos (by simp [add]), if_neg (by simp [hk])]
    · have e2 : add D k m = D m := by simp [add, e]
      rw [cnt_add D k hk m (by omega), e2]
      omega
theorem cnt_all (D : Nat → Bool) : ∀ m, (∀ j, j < m → D j = true) → cnt D m = m
  | 0, _ => rfl
  | m + 1, h => by simp only [cnt]; rw [cnt_all D m (fun j hj => h j (by omega)), if_pos (h m (by omega))]
theorem cnt_none (m : Nat) : cnt (fun _ => false) m = 0 := by
  induction m with
  | zero => rfl
  | succ m ih => simp only [cnt]; rw [ih]; rfl
theorem groups_none (n : Nat) : groups (fun _ => false) n = List.range n := by
  unfold groups
  apply List.ext_getElem
  · simp
  · intro j h1 h2
    simp only [List.getElem_map, List.getElem_range]
    cases j with
    | zero => rfl
    | succ j => rfl
theorem fnd_groups (D : Nat → Bool) (n j : Nat) (h : j < n) : fnd (groups D n) (j : Int) = ((run D j : Nat) : Int) := by
  unfold fnd
  rw [groups_len, if_pos (by omega)]
  rw [show (j : Int).toNat = j from rfl, groups_at D n j h]
/-- Behind i rounds. -/
def DD (s m : Nat) (less : Int) : Nat → Nat → Bool
  | 0 => fun _ => false
  | i + 1 => if (((i + s) % m : Nat) : Int) = less then DD s m less i else add (DD s m less i) ((i + s) % m)
theorem DD_came (s m : Nat) (less : Int) (j : Nat) : ∀ i, DD s m less i j = true → ∃ t, t < i ∧ (t + s) % m = j
  | 0, h => by simp [DD] at h
  | i + 1, h => by
    unfold DD at h
    split at h
    · obtain ⟨t, h1, h2⟩ := DD_came s m less j i h; exact ⟨t, by omega, h2⟩
    · simp only [add, Bool.or_eq_true, decide_eq_true_eq] at h
      rcases h with h | h
      · obtain ⟨t, h1, h2⟩ := DD_came s m less j i h; exact ⟨t, by omega, h2⟩
      · exact ⟨i, by omega, h.symm⟩
theorem DD_new (s m : Nat) (less : Int) (i : Nat) (h : i < m) : DD s m less i ((i + s) % m) = false := by
  cases c : DD s m less i ((i + s) % m) with
  | false => rfl
  | true =>
    obtain ⟨t, h1, h2⟩ := DD_came s m less _ i c
    have h3 := Nat.sub_mod_eq_zero_of_mod_eq h2.symm
    rw [show i + s - (t + s) = i - t by omega, Nat.mod_eq_of_lt (by omega)] at h3
    omega
theorem DD_less (s m : Nat) (less : Int) (j : Nat) (hj : (j : Int) = less) : ∀ i, DD s m less i j = false
  | 0 => rfl
  | i + 1 => by
    unfold DD
    split
    · exact DD_less s m less j hj i
    · rename_i h
      have : j ≠ (i + s) % m := fun e => h (by rw [← e]; exact hj)
      simp [add, DD_less s m less j hj i, this]
theorem DD_all (s m : Nat) (less : Int) (j : Nat) (hj : (j : Int) ≠ less) (t : Nat) (ht : (t + s) % m = j) : ∀ i, t < i → DD s m less i j = true
  | 0, h => by omega
  | i + 1, h => by
    unfold DD
    by_cases e : t = i
    · subst e
      rw [if_neg (by rw [ht]; exact hj)]
      simp [add, ht]
    · have ih := DD_all s m less j hj t ht i (by omega)
      split
      · exact ih
      · simp [add, ih]
theorem comes (s m j : Nat) (hj : j < m) : ∃ t, t < m ∧ (t + s) % m = j := by
  have hq := Nat.mod_lt s (show 0 < m by omega)
  by_cases c : s % m ≤ j
  · refine ⟨j - s % m, by omega, ?_⟩
    rw [Nat.add_mod, Nat.mod_eq_of_lt (show j - s % m < m by omega), show j - s % m + s % m = j by omega, Nat.mod_eq_of_lt hj]
  · refine ⟨j + m - s % m, by omega, ?_⟩
    rw [Nat.add_mod, Nat.mod_eq_of_lt (show j + m - s % m < m by omega), show j + m - s % m + s % m = j + m by omega, Nat.add_mod_right, Nat.mod_eq_of_lt hj]
theorem run_low (D : Nat → Bool) : ∀ j, (∀ t, t < j → D t = true) → run D j = 0
  | 0, _ => rfl
  | j + 1, h => by rw [run, if_pos (h j (by omega))]; exact run_low D j (fun t ht => h t (by omega))
theorem run_high (D : Nat → Bool) (e : Nat) (he : D e = false) : ∀ j, e < j → (∀ t, e < t → t < j → D t = true) → run D j = e + 1
  | 0, h, _ => by omega
  | j + 1, h, hh => by
    by_cases c : j = e
    · subst c; rw [run, if_neg (by simp [he])]
    · rw [run, if_pos (hh j (by omega) (by omega))]; exact run_high D e he j (by omega) (fun t h1 h2 => hh t h1 (by omega))
theorem mem_low (L : List Nat) (e : Nat) : ∀ i, (∀ j, j < i → (L.getD j 0 = 0 ↔ j ≤ e)) → (mem L 0 i).length = min i (e + 1)
  | 0, _ => by simp [mem]
  | i + 1, h => by
    have ih := mem_low L e i (fun j hj => h j (by omega))
    rw [mem_next]
    by_cases c : L.getD i 0 = 0
    · have := (h i (by omega)).1 c
      rw [if_pos c, List.length_append, ih]; simp; omega
    · have : ¬ i ≤ e := fun h2 => c ((h i (by omega)).2 h2)
      rw [if_neg c, ih]; omega
/-- The groups that these pairs (links) make: L links them, links no more, and names each group by its least number. -/
structure Good (n : Nat) (link : Nat → Nat → Prop) (L : List Nat) : Prop where
  len : L.length = n
  le : ∀ x, x < n → L.getD x 0 ≤ x
  root : ∀ x, x < n → L.getD (L.getD x 0) 0 = L.getD x 0
  has : ∀ x y, x < n → y < n → link x y → L.getD x 0 = L.getD y 0
  least : ∀ M : Nat → Nat, (∀ x y, x < n → y < n → link x y → M x = M y) → ∀ x y, x < n → y < n → L.getD x 0 = L.getD y 0 → M x = M y
theorem Good.start (n : Nat) : Good n (fun _ _ => False) (List.range n) := by
  have h : ∀ i, i < n → (List.range n).getD i 0 = i := fun i hi => by simp [List.getD, hi]
  refine ⟨by simp, fun x hx => by rw [h x hx]; exact Nat.le_refl _, fun x hx => by rw [h x hx, h x hx], fun _ _ _ _ hf => hf.elim, fun M _ x y hx hy e => ?_⟩
  rw [h x hx, h y hy] at e
  rw [e]
/-- Links that are the same make the same groups. -/
theorem Good.same {n : Nat} {link link' : Nat → Nat → Prop} {L L' : List Nat} (h : Good n link L) (h' : Good n link' L') (hl : ∀ x y, link x y → link' x y ∨ link' y x) (hl' : ∀ x y, link' x y → link x y ∨ link y x) : L = L' := by
  have key : ∀ {k k' : Nat → Nat → Prop} {A B : List Nat}, Good n k A → Good n k' B → (∀ x y, k x y → k' x y ∨ k' y x) → ∀ x, x < n → B.getD x 0 ≤ A.getD x 0 := fun {k k' A B} ha hb hk x hx => by
    have hax := ha.le x hx
    have e := ha.least (fun z => B.getD z 0) (fun u v hu hv huv => (hk u v huv).elim (fun h => hb.has u v hu hv h) (fun h => (hb.has v u hv hu h).symm)) x (A.getD x 0) hx (by omega) (ha.root x hx).symm
    have := hb.le (A.getD x 0) (by omega)
    omega
  apply List.ext_getElem
  · rw [h.len, h'.len]
  · intro i h1 h2
    have hi : i < n := by rw [← h.len]; exact h1
    have a := key h h' (fun x y hk => hl x y hk) i hi
    have b := key h' h (fun x y hk => hl' x y hk) i hi
    have e1 : L.getD i 0 = L[i] := by simp [List.getD, h1]
    have e2 : L'.getD i 0 = L'[i] := by simp [List.getD, h2]
    omega
/-- Links that say no more than is so leave the groups. -/
theorem Good.more {n : Nat} {link link' : Nat → Nat → Prop} {L : List Nat} (h : Good n link L) (hs : ∀ x y, link x y → link' x y) (hn : ∀ x y, x < n → y < n → link' x y → link x y ∨ L.getD x 0 = L.getD y 0) : Good n link' L :=
  ⟨h.len, h.le, h.root, fun x y hx hy hk => (hn x y hx hy hk).elim (h.has x y hx hy) id, fun M hM x y hx hy e => h.least M (fun u v hu hv huv => hM u v hu hv (hs u v huv)) x y hx hy e⟩
/-- Two groups one. -/
theorem Good.join {n : Nat} {link : Nat → Nat → Prop} {L : List Nat} (h : Good n link L) (a b u v : Nat) (hu : u < n) (hv : v < n) (hab : a < b) (hua : L.getD u 0 = a ∧ L.getD v 0 = b ∨ L.getD u 0 = b ∧ L.getD v 0 = a) : Good n (fun x y => link x y ∨ x = u ∧ y = v) (merge L a b) := by
  have hlu := h.le u hu
  have hlv := h.le v hv
  have ru := h.root u hu
  have rv := h.root v hv
  have hbn : b < n := by omega
  have ra : L.getD a 0 = a := by rcases hua with ⟨h1, h2⟩ | ⟨h1, h2⟩ <;> simp_all
  have rb : L.getD b 0 = b := by rcases hua with ⟨h1, h2⟩ | ⟨h1, h2⟩ <;> simp_all
  have at_ : ∀ x, x < n → (merge L a b).getD x 0 = if L.getD x 0 = b then a else L.getD x 0 := fun x hx => merge_at L a b x (by rw [h.len]; exact hx)
  refine ⟨by rw [merge_len]; exact h.len, fun x hx => ?_, fun x hx => ?_, fun x y hx hy hk => ?_, fun M hM x y hx hy e => ?_⟩
  · have := h.le x hx
    rw [at_ x hx]; split <;> omega
  · have hx2 := h.le x hx
    rw [at_ x hx]
    by_cases c : L.getD x 0 = b
    · rw [if_pos c, at_ a (by omega), ra, if_neg (by omega)]
    · rw [if_neg c, at_ _ (by omega), h.root x hx, if_neg c]
  · rw [at_ x hx, at_ y hy]
    rcases hk with hk | ⟨rfl, rfl⟩
    · rw [h.has x y hx hy hk]
    · rcases hua with ⟨h1, h2⟩ | ⟨h1, h2⟩
      · rw [h1, h2, if_neg (by omega), if_pos rfl]
      · rw [h1, h2, if_pos rfl, if_neg (by omega)]
  · have hM1 : ∀ x y, x < n → y < n → link x y → M x = M y := fun x y hx hy hk => hM x y hx hy (.inl hk)
    have muv : M u = M v := hM u v hu hv (.inr ⟨rfl, rfl⟩)
    have old := h.least M hM1
    have mab : M a = M b := by
      rcases hua with ⟨h1, h2⟩ | ⟨h1, h2⟩
      · exact (old a u (by omega) hu (by rw [ra, h1])).trans (muv.trans (old v b hv hbn (by rw [rb, h2])))
      · exact (old a v (by omega) hv (by rw [ra, h2])).trans (muv.symm.trans (old u b hu hbn (by rw [rb, h1])))
    have toa : ∀ z, z < n → L.getD z 0 = b → M z = M a := fun z hz hb => (old z b hz hbn (by rw [rb, hb])).trans mab.symm
    have ota : ∀ z, z < n → L.getD z 0 = a → M z = M a := fun z hz ha => old z a hz (by omega) (by rw [ra, ha])
    rw [at_ x hx, at_ y hy] at e
    by_cases cx : L.getD x 0 = b
    · by_cases cy : L.getD y 0 = b
      · exact old x y hx hy (cx.trans cy.symm)
      · rw [if_pos cx, if_neg cy] at e
        exact (toa x hx cx).trans (ota y hy e.symm).symm
    · by_cases cy : L.getD y 0 = b
      · rw [if_neg cx, if_pos cy] at e
        exact (ota x hx e).trans (toa y hy cy).symm
      · rw [if_neg cx, if_neg cy] at e
        exact old x y hx hy e
/-- How many of the first i stand for a group. -/
def rc (L : List Nat) : Nat → Nat
  | 0 => 0
  | i + 1 => rc L i + if L.getD i 0 = i then 1 else 0
theorem rc_join (L : List Nat) (a b : Nat) (hab : a < b) (ra : L.getD a 0 = a) (rb : L.getD b 0 = b) : ∀ i, i ≤ L.length → rc (merge L a b) i + (if b < i then 1 else 0) = rc L i
  | 0, _ => by simp [rc]
  | i + 1, h => by
    have ih := rc_join L a b hab ra rb i (by omega)
    simp only [rc]
    rw [merge_at L a b i (by omega)]
    by_cases e : i = b
    · subst e
      rw [if_pos rb, if_neg (by omega), if_pos (by omega), if_pos rb]
      rw [if_neg (by omega)] at ih
      omega
    · by_cases c : L.getD i 0 = b
      · have ne : ¬ a = i := fun h => by subst h; omega
        rw [if_pos c, if_neg ne, if_neg (show ¬ L.getD i 0 = i by omega)]
        by_cases d : b < i
        · rw [if_pos d] at ih; rw [if_pos (show b < i + 1 by omega)]; omega
        · rw [if_neg d] at ih; rw [if_neg (show ¬ b < i + 1 by omega)]; omega
      · rw [if_neg c]
        by_cases d : b < i
        · rw [if_pos d] at ih; rw [if_pos (show b < i + 1 by omega)]; omega
        · rw [if_neg d] at ih; rw [if_neg (show ¬ b < i + 1 by omega)]; omega
theorem rc_start (n : Nat) : ∀ i, i ≤ n → rc (List.range n) i = i
  | 0, _ => rfl
  | i + 1, h => by
    simp only [rc]
    rw [rc_start n i (by omega), if_pos (by simp [List.getD, show i < n by omega])]
theorem rc_le (L : List Nat) : ∀ i, rc L i ≤ i
  | 0 => Nat.le_refl _
  | i + 1 => by have := rc_le L i; simp only [rc]; split <;> omega
theorem rc_pos (L : List Nat) (b : Nat) (hb : L.getD b 0 = b) : ∀ i, b < i → 1 ≤ rc L i
  | 0, h => by omega
  | i + 1, h => by
    simp only [rc]
    by_cases e : i = b
    · subst e; rw [if_pos hb]; omega
    · have := rc_pos L b hb i (by omega); omega
/-- All that is known of a forest between two calls. -/
structure Known (W : World) (p gu gr n : Nat) (link : Nat → Nat → Prop) (L ring : List Nat) (gs : Nat) : Prop where
  f : Forest W p gu gr n L ring gs
  r : Rings n L ring
  g : Good n link L
  c : gs = rc L n
  n : n ≤ 1000
theorem unionG (W : World) (p gu gr n : Nat) (link : Nat → Nat → Prop) (L ring : List Nat) (gs : Nat) (h : Known W p gu gr n link L ring gs) (x y : Int) :
    Calls Try.prog 23 #[.pointer (some ⟨p, 0, none⟩), .int .i64 x, .int .i64 y] W fun e W' => ∃ v, e = .returned v ∧ ∃ L' ring' gs', Known W' p gu gr n (fun a b => link a b ∨ (a : Int) = x ∧ (b : Int) = y) L' ring' gs' ∧ Chg (fun k => k = gu ∨ k = gr ∨ k = p) W W' := by
  have hl := h.g.len
  have sub : ∀ {W' : World}, Chg (· = gu) W W' → Chg (fun k => k = gu ∨ k = gr ∨ k = p) W W' := fun hc => ⟨hc.os, hc.tape, hc.output, hc.kept.mono (fun k hk => .inl hk)⟩
  obtain ⟨up, hR, hF⟩ := h.f
  by_cases c1 : (0 ≤ x ∧ x < (n : Int)) ∧ (0 ≤ y ∧ y < (n : Int))
  · obtain ⟨i, rfl⟩ : ∃ i : Nat, x = (i : Int) := ⟨x.toNat, by omega⟩
    obtain ⟨j, rfl⟩ : ∃ j : Nat, y = (j : Int) := ⟨y.toNat, by omega⟩
    have hi : i < n := by omega
    have hj : j < n := by omega
    have fx : fnd L (i : Int) = ((L.getD i 0 : Nat) : Int) := by unfold fnd; rw [if_pos (by omega)]; rfl
    have fy : fnd L (j : Int) = ((L.getD j 0 : Nat) : Int) := by unfold fnd; rw [if_pos (by omega)]; rfl
    have li := h.g.le i hi
    have lj := h.g.le j hj
    have gi := h.g.root i hi
    have gj := h.g.root j hj
    have hlink : ∀ (L2 : List Nat), Good n (fun x y => link x y ∨ x = i ∧ y = j) L2 → Good n (fun a b => link a b ∨ (a : Int) = (i : Int) ∧ (b : Int) = (j : Int)) L2 := fun L2 hg =>
      hg.more (fun x y hk => hk.elim .inl (fun hk => .inr ⟨by omega, by omega⟩)) (fun x y _ _ hk => hk.elim (fun hk => .inl (.inl hk)) (fun hk => .inl (.inr ⟨by omega, by omega⟩)))
    rcases Nat.lt_trichotomy (L.getD i 0) (L.getD j 0) with c | c | c
    · refine (union_lt W p gu gr n up ring L gs hF hR i j _ _ fx fy c (by omega) gi gj (by rw [h.c]; exact rc_pos L _ gj n (by omega)) (by rw [h.c]; have := rc_le L n; have := h.n; omega)).mono ?_
      rintro e W' ⟨rfl, hF', hC⟩
      refine ⟨_, rfl, _, _, _, ⟨hF', h.r.join hl _ _ c (by omega) gi gj, hlink _ (h.g.join _ _ i j hi hj c (.inl ⟨rfl, rfl⟩)), ?_, h.n⟩, hC⟩
      have hj2 := rc_join L _ _ c gi gj n (by omega)
      rw [if_pos (by omega)] at hj2
      rw [h.c]; omega
    · refine (union_same W p gu gr n up ring L gs hF hR i j _ fx (by rw [fy, c])).mono ?_
      rintro e W' ⟨rfl, hF', hC⟩
      exact ⟨_, rfl, L, ring, gs, ⟨hF', h.r, h.g.more (fun _ _ hk => .inl hk) (fun a b _ _ hk => hk.elim .inl (fun ⟨h1, h2⟩ => .inr (by rw [show a = i by omega, show b = j by omega]; exact c))), h.c, h.n⟩, sub hC⟩
    · refine (union_gt W p gu gr n up ring L gs hF hR i j _ _ fx fy c (by omega) gj gi (by rw [h.c]; exact rc_pos L _ gi n (by omega)) (by rw [h.c]; have := rc_le L n; have := h.n; omega)).mono ?_
      rintro e W' ⟨rfl, hF', hC⟩
      refine ⟨_, rfl, _, _, _, ⟨hF', h.r.join hl _ _ c (by omega) gj gi, hlink _ (h.g.join _ _ i j hi hj c (.inr ⟨rfl, rfl⟩)), ?_, h.n⟩, hC⟩
      have hj2 := rc_join L _ _ c gj gi n (by omega)
      rw [if_pos (by omega)] at hj2
      rw [h.c]; omega
  · have hneg : fnd L x < 0 ∨ fnd L y < 0 := by
      unfold fnd
      rw [hl]
      by_cases a : 0 ≤ x ∧ x < (n : Int)
      · right; rw [if_neg (fun b => c1 ⟨a, b⟩)]; omega
      · left; rw [if_neg a]; omega
    refine (union_none W p gu gr n up ring L gs hF hR x y hneg).mono ?_
    rintro e W' ⟨rfl, hF', hC⟩
    exact ⟨_, rfl, L, ring, gs, ⟨hF', h.r, h.g.more (fun _ _ hk => .inl hk) (fun a b ha hb hk => hk.elim .inl (fun ⟨h1, h2⟩ => absurd (show (0 ≤ x ∧ x < (n : Int)) ∧ (0 ≤ y ∧ y < (n : Int)) by omega) c1)), h.c, h.n⟩, sub hC⟩
theorem FS.far {W W' : World} {p gu gr n : Nat} {up ring : List Nat} {gs : Nat} {S : Nat → Prop} (h : FS W p gu gr n up ring gs) (hc : Chg S W W') (h1 : ¬ S p) (h2 : ¬ S gu) (h3 : ¬ S gr) : FS W' p gu gr n up ring gs := by
  have l1 : p < W.heap.size := (Array.getElem?_eq_some_iff.1 h.st).1
  have l2 : gu < W.heap.size := (Array.getElem?_eq_some_iff.1 h.u).1
  have l3 : gr < W.heap.size := (Array.getElem?_eq_some_iff.1 h.r).1
  exact ⟨(hc.kept.2 p l1 h1).trans h.st, h.u.step (hc.kept.2 gu l2 h2), h.r.step (hc.kept.2 gr l3 h3), h.ul, h.rl, h.pu, h.pr, h.ur, h.hn⟩
theorem Forest.far {W W' : World} {p gu gr n : Nat} {L ring : List Nat} {gs : Nat} {S : Nat → Prop} (h : Forest W p gu gr n L ring gs) (hc : Chg S W W') (h1 : ¬ S p) (h2 : ¬ S gu) (h3 : ¬ S gr) : Forest W' p gu gr n L ring gs := by
  obtain ⟨up, hr, hf⟩ := h
  exact ⟨up, hr, hf.far hc h1 h2 h3⟩
theorem Known.far {W W' : World} {p gu gr n : Nat} {link : Nat → Nat → Prop} {L ring : List Nat} {gs : Nat} {S : Nat → Prop} (h : Known W p gu gr n link L ring gs) (hc : Chg S W W') (h1 : ¬ S p) (h2 : ¬ S gu) (h3 : ¬ S gr) : Known W' p gu gr n link L ring gs :=
  ⟨h.f.far hc h1 h2 h3, h.r, h.g, h.c, h.n⟩
theorem Known.drewN {W : World} {p gu gr n : Nat} {link : Nat → Nat → Prop} {L ring : List Nat} {gs : Nat} (h : Known W p gu gr n link L ring gs) (m : Nat) : Known (W.drewN m) p gu gr n link L ring gs :=
  ⟨h.f.drewN m, h.r, h.g, h.c, h.n⟩
theorem Chg.of_below {W W' : World} {S : Nat → Prop} (h : Below W.heap.size W W') : Chg S W W' := ⟨h.os, h.tape, h.output, Kept.of_below h S⟩
/-- Below from a state that lies in new blocks alone. -/
theorem Known.blocks {W : World} {p gu gr n : Nat} {link : Nat → Nat → Prop} {L ring : List Nat} {gs : Nat} (h : Known W p gu gr n link L ring gs) : p < W.heap.size ∧ gu < W.heap.size ∧ gr < W.heap.size := by
  obtain ⟨up, hr, hf⟩ := h.f
  exact ⟨(Array.getElem?_eq_some_iff.1 hf.st).1, (Array.getElem?_eq_some_iff.1 hf.u).1, (Array.getElem?_eq_some_iff.1 hf.r).1⟩
theorem newG (w : World) (x : Int) (n : Nat) (hx : x = (n : Int)) (hn : n ≤ 1000) :
    Calls Try.prog 22 #[.int .i64 x] w fun e W' => ∃ p, e = .returned (.pointer (some ⟨p, 0, none⟩)) ∧ ∃ gu gr, Known W' p gu gr n (fun _ _ => False) (List.range n) (List.range n) n ∧ Below w.heap.size w W' ∧ w.heap.size ≤ p ∧ w.heap.size ≤ gu ∧ w.heap.size ≤ gr := by
  refine (new_calls w x n (.inl hx) hn).mono ?_
  rintro e W' ⟨p, rfl, gu, gr, hF, hB, l1, l2, l3⟩
  exact ⟨p, rfl, gu, gr, ⟨hF, Rings.start n, Good.start n, (rc_start n n (Nat.le_refl _)).symm, hn⟩, hB, l1, l2, l3⟩
theorem findG (W : World) (p gu gr n : Nat) (link : Nat → Nat → Prop) (L ring : List Nat) (gs : Nat) (h : Known W p gu gr n link L ring gs) (x : Int) :
    Calls Try.prog 25 #[.pointer (some ⟨p, 0, none⟩), .int .i64 x] W fun e W' => e = .returned (.int .i64 (fnd L x)) ∧ Known W' p gu gr n link L ring gs ∧ Chg (· = gu) W W' := by
  refine (findF W p gu gr n L ring gs h.f x _ rfl).mono ?_
  rintro e W' ⟨rfl, hF, hC⟩
  exact ⟨rfl, ⟨hF, h.r, h.g, h.c, h.n⟩, hC⟩
theorem membersG (W : World) (p gu gr n : Nat) (link : Nat → Nat → Prop) (L ring : List Nat) (gs : Nat) (h : Known W p gu gr n link L ring gs) (x : Nat) (hx : x < n) :
    Calls Try.prog 38 #[.pointer (some ⟨p, 0, none⟩), .int .i64 (x : Int)] W fun e W' => ∃ v, e = .returned v ∧ Kd.R (Kd.int .i64) 3 W' W.heap.size (fun _ => True) v (mem L (L.getD x 0) n) ∧ Known W' p gu gr n link L ring gs ∧ Chg (· = gu) W W' := by
  have hl := h.g.len
  have hle := h.g.le x hx
  have fx : fnd L (x : Int) = ((L.getD x 0 : Nat) : Int) := by unfold fnd; rw [if_pos (by omega)]; rfl
  obtain ⟨c, hc⟩ := h.r.2 (L.getD x 0) (by omega) (h.g.root x hx)
  refine (membersF W p gu gr n L ring gs h.f x _ fx (by omega) c hc).mono ?_
  rintro e W' ⟨v, rfl, hv, hF, hC⟩
  exact ⟨v, rfl, hv, ⟨hF, h.r, h.g, h.c, h.n⟩, hC⟩
theorem Known.links {W : World} {p gu gr n : Nat} {link link' : Nat → Nat → Prop} {L ring : List Nat} {gs : Nat} (h : Known W p gu gr n link L ring gs) (hl : ∀ a b, link a b ↔ link' a b) : Known W p gu gr n link' L ring gs :=
  ⟨h.f, h.r, h.g.more (fun x y hk => (hl x y).1 hk) (fun x y _ _ hk => .inl ((hl x y).2 hk)), h.c, h.n⟩
theorem Known.none {W : World} {p gu gr n : Nat} {link' : Nat → Nat → Prop} {L ring : List Nat} {gs : Nat} (h : Known W p gu gr n (fun _ _ => False) L ring gs) (hl : ∀ a b, ¬ link' a b) : Known W p gu gr n link' L ring gs :=
  h.links (fun a b => ⟨False.elim, hl a b⟩)
theorem same_l0 (l : List Int) (hl : l.length ≤ 100000) : ∀ (m i k : Nat), l.length - i ≤ m → i ≤ l.length → m + 1 ≤ k → dowserref04_Same.l0 k l l (l.length : Int) (i : Int) = some true
  | m, i, 0, _, _, h => by omega
  | m, i, k + 1, hm, hi, hk => by
    unfold dowserref04_Same.l0
    by_cases c : i < l.length
    · rw [if_pos (by omega), if_pos (by omega), if_pos (by omega), if_pos (by omega), if_pos rfl, show wrap64 ((i : Int) + 1) = ((i + 1 : Nat) : Int) by unfold wrap64; omega]
      match m with
      | 0 => omega
      | m + 1 => exact same_l0 l hl m (i + 1) k (by omega) (by omega) (by omega)
    · rw [if_neg (by omega)]
theorem same_f (l : List Int) (hl : l.length ≤ 100000) : dowserref04_Same.f (l.length + 1) l l = some true := by
  unfold dowserref04_Same.f
  rw [if_pos rfl]
  exact same_l0 l hl l.length 0 _ (by omega) (by omega) (by omega)
variable {W : World}
theorem same_calls {b1 b2 : Nat} {ok1 ok2 : Nat → Prop} {v1 v2 : Value} {l : List Int} (h1 : Kd.R (Kd.int .i64) 3 W b1 ok1 v1 l) (h2 : Kd.R (Kd.int .i64) 3 W b2 ok2 v2 l) (hl : l.length ≤ 100000) :
    Calls Try.prog 37 #[v1, v2] W fun e w' => e = .returned (.bool true) ∧ Drawn0 W w' := by
  obtain ⟨A, c, rfl, hc, hC⟩ := Kd.R_reads h1
  obtain ⟨A2, c2, rfl, hc2, hC2⟩ := Kd.R_reads h2
  exact dowserref04_Same.calls _ A c l A2 c2 l true W hC hc hC2 hc2 (same_f l hl)
theorem max2_mx' (k k' : IntKind) (x y : Int) : Builtin.max2 (.int k x) (.int k' y) = pure (.int k (mx x y)) := max2_int k k' x y
theorem min2_mn' (k k' : IntKind) (x y : Int) : Builtin.min2 (.int k x) (.int k' y) = pure (.int k (mn x y)) := min2_int k k' x y
theorem wrap_small {x : Int} (h0 : -9223372036854775808 ≤ x) (h1 : x ≤ 9223372036854775807) : wrap64 x = x := by unfold wrap64; omega
theorem rd_get (l : List Int) (i : Nat) (h : i < l.length) : rd l (i : Int) = l[i] := by
  unfold rd; rw [Int.toNat_natCast, List.getD_eq_getElem?_getD, List.getElem?_eq_getElem h]; rfl
/-- rising -/
abbrev Ris (l : List Int) : Prop := l.Pairwise (· < ·)
theorem ris_ext : ∀ (a b : List Int), Ris a → Ris b → (∀ x, x ∈ a ↔ x ∈ b) → a = b
  | [], [], _, _, _ => rfl
  | [], y :: b, _, _, h => by have := (h y).mpr (by simp); simp at this
  | x :: a, [], _, _, h => by have := (h x).mp (by simp); simp at this
  | x :: a, y :: b, ha, hb, h => by
    replace ha := List.pairwise_cons.mp ha
    replace hb := List.pairwise_cons.mp hb
    have hxy : x = y := by
      have h1 := (h x).mp (by simp)
      have h2 := (h y).mpr (by simp)
      rw [List.mem_cons] at h1 h2
      rcases h1 with h1 | h1
      · exact h1
      · rcases h2 with h2 | h2
        · exact h2.symm
        · have := ha.1 y h2; have := hb.1 x h1; omega
    subst hxy
    rw [ris_ext a b ha.2 hb.2 (fun z => ?_)]
    have hz := h z
    rw [List.mem_cons, List.mem_cons] at hz
    constructor
    · intro hm
      rcases hz.mp (.inr hm) with e | e
      · have := ha.1 z hm; omega
      · exact e
    · intro hm
      rcases hz.mpr (.inr hm) with e | e
      · have := hb.1 z hm; omega
      · exact e
theorem next (i : Nat) (h : i < 4611686018427387904) : wrap64 ((i : Int) + 1) = ((i + 1 : Nat) : Int) := by rw [wrap_small (by omega) (by omega)]; omega
/-! ### Has -/
theorem has_from (l : List Int) (x : Int) (hl : l.length ≤ 1000000) : ∀ (d i k : Nat), i + d = l.length → d < k → dowserref04_Has.l0 k x l (l.length : Int) (i : Int) = some (decide (x ∈ l.drop i))
  | 0, i, k, h, hk => by
    obtain ⟨k, rfl⟩ : ∃ m, k = m + 1 := ⟨k - 1, by omega⟩
    simp only [dowserref04_Has.l0]
    rw [if_neg (by omega), List.drop_of_length_le (by omega)]
    simp
  | d + 1, i, k, h, hk => by
    obtain ⟨k, rfl⟩ : ∃ m, k = m + 1 := ⟨k - 1, by omega⟩
    simp only [dowserref04_Has.l0]
    rw [if_pos (by omega), if_pos (by omega), if_pos (by omega), rd_get l i (by omega), next i (by omega), has_from l x hl d (i + 1) k (by omega) (by omega), List.drop_eq_getElem_cons (show i < l.length by omega)]
    by_cases c : x = l[i]'(by omega)
    · rw [if_pos c]; exact congrArg some (decide_eq_true (by rw [List.mem_cons]; exact .inl c)).symm
    · rw [if_neg c]; congr 1; rw [decide_eq_decide, List.mem_cons]; exact ⟨.inr, fun h => h.resolve_left c⟩
theorem has_f (k : Nat) (l : List Int) (x : Int) (hl : l.length ≤ 1000000) (hk : l.length < k) : dowserref04_Has.f k l x = some (decide (x ∈ l)) := by
  have := has_from l x hl l.length 0 k (by omega) hk
  rw [List.drop_zero, Int.ofNat_zero] at this
  exact this
/-! ### Add -/
/-- a rising list with a number more -/
def ins (x : Int) : List Int → List Int
  | [] => [x]
  | y :: l => if x < y then x :: y :: l else y :: ins x l
theorem ins_mem (x z : Int) : ∀ l, z ∈ ins x l ↔ z = x ∨ z ∈ l
  | [] => by simp [ins]
  | y :: l => by
    unfold ins
    split
    · simp [List.mem_cons]
    · rw [List.mem_cons, ins_mem x z l, List.mem_cons]
      constructor
      · rintro (h | h | h)
        · exact .inr (.inl h)
        · exact .inl h
        · exact .inr (.inr h)
      · rintro (h | h | h)
        · exact .inr (.inl h)
        · exact .inl h
        · exact .inr (.inr h)
theorem ins_ris (x : Int) : ∀ l, Ris l → ¬ x ∈ l → Ris (ins x l)
  | [], _, _ => by simp [ins]
  | y :: l, h, hx => by
    have h' := List.pairwise_cons.mp h
    rw [List.mem_cons] at hx
    unfold ins
    split
    · rename_i c
      refine List.pairwise_cons.mpr ⟨fun z hz => ?_, h⟩
      rw [List.mem_cons] at hz
      rcases hz with e | e
      · omega
      · have := h'.1 z e; omega
    · rename_i c
      refine List.pairwise_cons.mpr ⟨fun z hz => ?_, ins_ris x l h'.2 (fun hm => hx (.inr hm))⟩
      rcases (ins_mem x z l).mp hz with e | e
      · have : ¬ x = y := fun hh => hx (.inl hh)
        omega
      · exact h'.1 z e
theorem ins_len (x : Int) : ∀ l : List Int, (ins x l).length = l.length + 1
  | [] => rfl
  | y :: l => by
    unfold ins
    split
    · simp
    · rw [List.length_cons, ins_len x l, List.length_cons]
theorem add_done (l : List Int) (x : Int) (hl : l.length ≤ 1000000) : ∀ (d i k : Nat) (out : List Int), i + d = l.length → d < k → out.length ≤ i + 1 → dowserref04_Add.l0 k x out true l (l.length : Int) (i : Int) = some (out ++ l.drop i)
  | 0, i, k, out, h, hk, ho => by
    obtain ⟨k, rfl⟩ : ∃ m, k = m + 1 := ⟨k - 1, by omega⟩
    simp only [dowserref04_Add.l0]
    rw [if_neg (by omega), List.drop_of_length_le (by omega)]
    simp
  | d + 1, i, k, out, h, hk, ho => by
    obtain ⟨k, rfl⟩ : ∃ m, k = m + 1 := ⟨k - 1, by omega⟩
    simp only [dowserref04_Add.l0]
    rw [if_pos (by omega), if_pos (by omega), if_pos (by omega), rd_get l i (by omega), next i (by omega)]
    rw [if_pos trivial, if_pos (by omega), add_done l x hl d (i + 1) k _ (by omega) (by omega) (by simp; omega), List.drop_eq_getElem_cons (show i < l.length by omega)]
    simp
theorem add_from (l : List Int) (x : Int) (hl : l.length ≤ 1000000) : ∀ (d i k : Nat) (out : List Int), i + d = l.length → d < k → out.length ≤ i → dowserref04_Add.l0 k x out false l (l.length : Int) (i : Int) = some (out ++ ins x (l.drop i))
  | 0, i, k, out, h, hk, ho => by
    obtain ⟨k, rfl⟩ : ∃ m, k = m + 1 := ⟨k - 1, by omega⟩
    simp only [dowserref04_Add.l0]
    rw [if_neg (by omega), List.drop_of_length_le (by omega), if_neg (by decide), if_pos (by omega)]
    simp [ins]
  | d + 1, i, k, out, h, hk, ho => by
    obtain ⟨k, rfl⟩ : ∃ m, k = m + 1 := ⟨k - 1, by omega⟩
    simp only [dowserref04_Add.l0]
    rw [if_pos (by omega), if_pos (by omega), if_pos (by omega), rd_get l i (by omega), next i (by omega), if_neg (by decide), List.drop_eq_getElem_cons (show i < l.length by omega)]
    unfold ins
    by_cases c : x < l[i]'(by omega)
    · rw [if_pos c, if_pos c, if_pos (by omega), Option.bind_some, if_pos (by simp; omega), add_done l x hl d (i + 1) k _ (by omega) (by omega) (by simp; omega)]
      simp
    · rw [if_neg c, if_neg c, if_pos (by omega), add_from l x hl d (i + 1) k _ (by omega) (by omega) (by simp; omega)]
      simp
def addZ (s : List Int) (x : Int) : List Int := if x ∈ s then s else ins x s
theorem add_f (k : Nat) (s : List Int) (x : Int) (hl : s.length ≤ 1000000) (hk : s.length < k) : dowserref04_Add.f k s x = some (addZ s x) := by
  unfold dowserref04_Add.f addZ
  rw [has_f k s x hl hk, Option.bind_some]
  by_cases c : x ∈ s
  · rw [if_pos (decide_eq_true c), if_pos c]
  · rw [if_neg (by simpa using c), if_neg c]
    have := add_from s x hl s.length 0 k [] (by omega) hk (by simp)
    rw [List.drop_zero, Int.ofNat_zero, List.nil_append] at this
    exact this
/-! ### Of -/
def setOf (l : List Int) : List Int := l.foldl addZ []
theorem of_from (l : List Int) (hl : l.length ≤ 100000) : ∀ (d i k : Nat) (s : List Int), i + d = l.length → s.length ≤ i → l.length + d + 1 < k → dowserref04_Of.l0 k s l (l.length : Int) (i : Int) = some ((l.drop i).foldl addZ s)
  | 0, i, k, s, h, hs, hk => by
    obtain ⟨k, rfl⟩ : ∃ m, k = m + 1 := ⟨k - 1, by omega⟩
    simp only [dowserref04_Of.l0]
    rw [if_neg (by omega), List.drop_of_length_le (by omega)]
    rfl
  | d + 1, i, k, s, h, hs, hk => by
    obtain ⟨k, rfl⟩ : ∃ m, k = m + 1 := ⟨k - 1, by omega⟩
    simp only [dowserref04_Of.l0]
    have hlen : (addZ s (l[i]'(by omega))).length ≤ i + 1 := by
      unfold addZ
      split
      · omega
      · rw [ins_len]; omega
    rw [if_pos (by omega), if_pos (by omega), if_pos (by omega), rd_get l i (by omega), next i (by omega), add_f k s _ (by omega) (by omega), Option.bind_some, of_from l hl d (i + 1) k _ (by omega) hlen (by omega), List.drop_eq_getElem_cons (show i < l.length by omega), List.foldl_cons]
theorem of_f (k : Nat) (l : List Int) (hl : l.length ≤ 100000) (hk : 2 * l.length + 1 < k) : dowserref04_Of.f k l = some (setOf l) := by
  have := of_from l hl l.length 0 k [] (by omega) (by simp) (by omega)
  rw [List.drop_zero, Int.ofNat_zero] at this
  exact this
theorem fold_spec : ∀ (l s : List Int), Ris s → Ris (l.foldl addZ s) ∧ (∀ x, x ∈ l.foldl addZ s ↔ x ∈ s ∨ x ∈ l) ∧ (l.foldl addZ s).length ≤ s.length + l.length
  | [], s, h => by simp [h]
  | y :: l, s, h => by
    have hr : Ris (addZ s y) := by
      unfold addZ
      split
      · exact h
      · rename_i c; exact ins_ris y s h c
    have hm : ∀ x, x ∈ addZ s y ↔ x = y ∨ x ∈ s := by
      intro x
      unfold addZ
      split
      · rename_i c
        constructor
        · exact .inr
        · rintro (e | e)
          · rw [e]; exact c
          · exact e
      · exact ins_mem y x s
    have hlen : (addZ s y).length ≤ s.length + 1 := by
      unfold addZ
      split
      · omega
      · rw [ins_len]; omega
    obtain ⟨h1, h2, h3⟩ := fold_spec l (addZ s y) hr
    rw [List.foldl_cons]
    refine ⟨h1, fun x => ?_, by rw [List.length_cons]; omega⟩
    rw [h2, hm, List.mem_cons]
    constructor
    · rintro ((e | e) | e)
      · exact .inr (.inl e)
      · exact .inl e
      · exact .inr (.inr e)
    · rintro (e | e | e)
      · exact .inl (.inr e)
      · exact .inl (.inl e)
      · exact .inr e
theorem set_ris (l : List Int) : Ris (setOf l) := (fold_spec l [] List.Pairwise.nil).1
theorem set_mem (l : List Int) (x : Int) : x ∈ setOf l ↔ x ∈ l := by
  have := (fold_spec l [] List.Pairwise.nil).2.1 x
  simpa [setOf] using this
theorem set_len (l : List Int) : (setOf l).length ≤ l.length := by
  have := (fold_spec l [] List.Pairwise.nil).2.2
  simpa [setOf] using this
/-! ### Same -/
/-! ### What unions lead to -/
/-- The pair number i, its ends. -/
def px (l : List S40) (i : Nat) : Int := (rd_T40 l (i : Int)).f0
def py (l : List S40) (i : Nat) : Int := (rd_T40 l (i : Int)).f1
/-- The links that the first i pairs make. -/
def lkU (l : List S40) (i a b : Nat) : Prop := ∃ t : Nat, t < i ∧ (a : Int) = px l t ∧ (b : Int) = py l t
theorem lkU_more (l : List S40) (i a b : Nat) : (lkU l i a b ∨ (a : Int) = px l i ∧ (b : Int) = py l i) ↔ lkU l (i + 1) a b := by
  constructor
  · rintro (⟨t, h1, h2⟩ | h)
    · exact ⟨t, by omega, h2⟩
    · exact ⟨i, by omega, h⟩
  · rintro ⟨t, h1, h2⟩
    by_cases e : t = i
    · subst e; exact .inr h2
    · exact .inl ⟨t, by omega, h2⟩
/-- What pair i leads on to from the number c is in r. -/
def Closed (l : List S40) (n i : Nat) (r : List Int) (c : Int) : Prop := ∀ t, t < i → (px l t = c → 0 ≤ py l t ∧ py l t < (n : Int) → py l t ∈ r) ∧ (py l t = c → 0 ≤ px l t ∧ px l t < (n : Int) → px l t ∈ r)
/-- How far a search has come: at whole numbers, i pairs of the next one. -/
structure Come (l : List S40) (n m : Nat) (L : List Nat) (x : Nat) (r : List Int) (at_ i : Nat) : Prop where
  first : (x : Int) ∈ r
  nodup : r.Nodup
  ok : ∀ z ∈ r, 0 ≤ z ∧ z < (n : Int) ∧ L.getD z.toNat 0 = L.getD x 0
  done : ∀ t, t < at_ → Closed l n m r (r.getD t 0)
  part : at_ < r.length → Closed l n i r (r.getD at_ 0)
theorem Closed.grow {l : List S40} {n i : Nat} {r : List Int} {c : Int} (h : Closed l n i r c) (z : Int) : Closed l n i (r ++ [z]) c := fun t ht =>
  ⟨fun h1 h2 => List.mem_append_left _ ((h t ht).1 h1 h2), fun h1 h2 => List.mem_append_left _ ((h t ht).2 h1 h2)⟩
theorem Come.start (l : List S40) (n m : Nat) (L : List Nat) (x : Nat) (hx : x < n) : Come l n m L x [(x : Int)] 0 0 :=
  ⟨by simp, by simp, fun z hz => by rw [List.mem_singleton] at hz; subst hz; exact ⟨by omega, by omega, by simp⟩, fun t ht => by omega, fun _ t ht => by omega⟩
theorem nodup_len : ∀ (n : Nat) (l : List Nat), l.Nodup → (∀ z ∈ l, z < n) → l.length ≤ n
  | 0, [], _, _ => Nat.le_refl _
  | 0, a :: l, _, h => absurd (h a (by simp)) (by omega)
  | n + 1, l, h, hz => by
    have h1 := nodup_len n (l.erase n) (h.erase n) (fun z hm => by
      have h2 := (h.mem_erase_iff).1 hm
      have := hz z h2.2
      have := h2.1
      omega)
    have h3 := List.length_erase (a := n) (l := l)
    split at h3 <;> omega
theorem Come.len {l : List S40} {n m : Nat} {L : List Nat} {x : Nat} {r : List Int} {at_ i : Nat} (h : Come l n m L x r at_ i) : r.length ≤ n := by
  have h1 : (r.map Int.toNat).Nodup := by
    rw [List.nodup_iff_pairwise_ne, List.pairwise_map]
    have h2 := h.nodup
    rw [List.nodup_iff_pairwise_ne] at h2
    refine List.Pairwise.imp_of_mem ?_ h2
    intro a b ha hb hab
    have := h.ok a ha; have := h.ok b hb; omega
  have h3 := nodup_len n (r.map Int.toNat) h1 (fun z hz => by
    obtain ⟨y, hy, rfl⟩ := List.mem_map.1 hz
    have := h.ok y hy
    omega)
  simpa using h3
/-- One pair on, nothing new. -/
theorem Come.keep {l : List S40} {n m : Nat} {L : List Nat} {x : Nat} {r : List Int} {at_ i : Nat} (h : Come l n m L x r at_ i) (ha : at_ < r.length)
    (h1 : px l i = r.getD at_ 0 → 0 ≤ py l i ∧ py l i < (n : Int) → py l i ∈ r) (h2 : py l i = r.getD at_ 0 → 0 ≤ px l i ∧ px l i < (n : Int) → px l i ∈ r) : Come l n m L x r at_ (i + 1) :=
  ⟨h.first, h.nodup, h.ok, h.done, fun _ t ht => by
    by_cases e : t = i
    · subst e; exact ⟨h1, h2⟩
    · exact h.part ha t (by omega)⟩
/-- One number more. -/
theorem Come.more {l : List S40} {n m : Nat} {L : List Nat} {x : Nat} {r : List Int} {at_ i : Nat} (h : Come l n m L x r at_ i) (hg : Good n (lkU l m) L) (ha : at_ < r.length) (hi : i < m) (z : Int) (hz0 : 0 ≤ z) (hzn : z < (n : Int)) (hzr : ¬ z ∈ r)
    (hl : px l i = r.getD at_ 0 ∧ py l i = z ∨ py l i = r.getD at_ 0 ∧ px l i = z)
    (h1 : px l i = r.getD at_ 0 → 0 ≤ py l i ∧ py l i < (n : Int) → py l i = z) (h2 : py l i = r.getD at_ 0 → 0 ≤ px l i ∧ px l i < (n : Int) → px l i = z) : Come l n m L x (r ++ [z]) at_ (i + 1) := by
  have hget : ∀ t, t < r.length → (r ++ [z]).getD t 0 = r.getD t 0 := fun t ht => by simp [List.getD, List.getElem?_append_left ht]
  have hmem : r.getD at_ 0 ∈ r := by rw [List.getD_eq_getElem?_getD, List.getElem?_eq_getElem ha]; exact List.getElem_mem ha
  have hok := h.ok _ hmem
  refine ⟨List.mem_append_left _ h.first, ?_, fun y hy => ?_, fun t ht => ?_, fun _ t ht => ?_⟩
  · rw [List.nodup_append]
    exact ⟨h.nodup, by simp, fun a ha b hb e => by rw [List.mem_singleton] at hb; subst hb; subst e; exact hzr ha⟩
  · rcases List.mem_append.1 hy with hy | hy
    · exact h.ok y hy
    · rw [List.mem_singleton] at hy
      subst hy
      refine ⟨hz0, hzn, ?_⟩
      rw [← hok.2.2]
      rcases hl with ⟨e1, e2⟩ | ⟨e1, e2⟩
      · exact (hg.has _ _ (by omega) (by omega) ⟨i, hi, by omega, by omega⟩).symm
      · exact hg.has _ _ (by omega) (by omega) ⟨i, hi, by omega, by omega⟩
  · rw [hget t (by omega)]; exact (h.done t ht).grow z
  · rw [hget at_ ha]
    by_cases e : t = i
    · subst e
      exact ⟨fun a b => List.mem_append_right _ (by rw [h1 a b]; simp), fun a b => List.mem_append_right _ (by rw [h2 a b]; simp)⟩
    · exact (h.part ha).grow z t (by omega)
theorem Come.next {l : List S40} {n m : Nat} {L : List Nat} {x : Nat} {r : List Int} {at_ : Nat} (h : Come l n m L x r at_ m) (ha : at_ < r.length) : Come l n m L x r (at_ + 1) 0 :=
  ⟨h.first, h.nodup, h.ok, fun t ht => by
    by_cases e : t = at_
    · subst e; exact h.part ha
    · exact h.done t (by omega), fun _ t ht => by omega⟩
/-- At the end: just the members of the group. -/
theorem Come.all {l : List S40} {n m : Nat} {L : List Nat} {x : Nat} {r : List Int} {at_ i : Nat} (h : Come l n m L x r at_ i) (hg : Good n (lkU l m) L) (hx : x < n) (ha : r.length ≤ at_) (j : Nat) (hj : j < n) : ((j : Int) ∈ r ↔ L.getD j 0 = L.getD x 0) := by
  constructor
  · intro hm; exact (h.ok _ hm).2.2
  · intro he
    have cl : ∀ c ∈ r, Closed l n m r c := fun c hc => by
      obtain ⟨t, ht, rfl⟩ := List.getElem_of_mem hc
      have := h.done t (by omega)
      rwa [List.getD_eq_getElem?_getD, List.getElem?_eq_getElem ht] at this
    have hM := hg.least (fun z => if (z : Int) ∈ r then 0 else 1) (fun u v hu hv ⟨t, ht, e1, e2⟩ => by
      by_cases c : (u : Int) ∈ r
      · have := (cl _ c t ht).1 e1.symm (by omega)
        rw [← e2] at this
        rw [if_pos c, if_pos this]
      · rw [if_neg c]
        by_cases d : (v : Int) ∈ r
        · have := (cl _ d t ht).2 e2.symm (by omega)
          rw [← e1] at this
          exact absurd this c
        · rw [if_neg d]) j x hj hx he
    rw [if_pos h.first] at hM
    by_cases c : (j : Int) ∈ r
    · exact c
    · rw [if_neg c] at hM; omega
theorem mem_ris (L : List Nat) (f i : Nat) : Ris (mem L f i) := by
  unfold mem Ris
  rw [List.pairwise_map]
  refine List.Pairwise.imp ?_ ((List.pairwise_lt_range (n := i)).filter _)
  intro a b h; omega
theorem mem_mem (L : List Nat) (f i : Nat) (z : Int) : z ∈ mem L f i ↔ ∃ j : Nat, j < i ∧ L.getD j 0 = f ∧ z = (j : Int) := by
  unfold mem
  simp only [List.mem_map, List.mem_filter, List.mem_range, decide_eq_true_eq]
  constructor
  · rintro ⟨j, ⟨h1, h2⟩, rfl⟩; exact ⟨j, h1, h2, rfl⟩
  · rintro ⟨j, h1, h2, rfl⟩; exact ⟨j, ⟨h1, h2⟩, rfl⟩
theorem Come.set {l : List S40} {n m : Nat} {L : List Nat} {x : Nat} {r : List Int} {at_ i : Nat} (h : Come l n m L x r at_ i) (hg : Good n (lkU l m) L) (hx : x < n) (ha : r.length ≤ at_) : mem L (L.getD x 0) n = setOf r := by
  refine ris_ext _ _ (mem_ris _ _ _) (set_ris r) (fun z => ?_)
  rw [set_mem, mem_mem]
  constructor
  · rintro ⟨j, hj, he, rfl⟩; exact (h.all hg hx ha j hj).2 he
  · intro hz
    have := h.ok z hz
    exact ⟨z.toNat, by omega, this.2.2, by omega⟩
theorem hasR {W : World} {b : Nat} {ok : Nat → Prop} {v : Value} {r : List Int} (h : Kd.R (Kd.int .i64) 3 W b ok v r) (hl : r.length ≤ 1000000) (z : Int) (q : Bool) (hq : decide (z ∈ r) = q) :
    Calls Try.prog 41 #[v, .int .i64 z] W fun e w' => e = .returned (.bool q) ∧ Drawn0 W w' := by
  obtain ⟨A, c, rfl, hc, hC⟩ := Kd.R_reads h
  subst hq
  exact dowserref04_Has.calls (r.length + 1) A c r z _ W hC hc (has_f _ r z hl (by omega))
theorem ofR {W : World} {b : Nat} {ok : Nat → Prop} {v : Value} {r : List Int} (h : Kd.R (Kd.int .i64) 3 W b ok v r) (hl : r.length ≤ 1000) :
    Calls Try.prog 42 #[v] W fun e w' => ∃ v', e = .returned v' ∧ Kd.R (Kd.int .i64) 3 w' W.heap.size (fun _ => True) v' (setOf r) ∧ Below W.heap.size W w' := by
  obtain ⟨A, c, rfl, hc, hC⟩ := Kd.R_reads h
  exact dowserref04_Of.calls (2 * r.length + 2) A c r _ W hC hc (of_f _ r (by omega) (by omega))
attribute [-go_sem] max2_int min2_int
attribute [local go_sem] max2_mx' min2_mn'   -- for this text's walks alone
attribute [local go_sem ↓] Go.wp_at_zero Go.wp_at_succ
set_option maxHeartbeats 8000000 in
set_option maxRecDepth 100000 in
theorem leads_calls (w : World) (a0 : Int) (A1 : Option Addr) (N1 c1 : Nat) (l1 : List S40) (hN1 : N1 = l1.length) (n m : Nat) (hr1 : Kd.C k40 w A1 N1 l1) (hc1 : N1 ≤ c1) (hn : mx 0 (mn a0 20) = (n : Int)) (hn2 : n ≤ 20) (hm : mn (N1 : Int) 30 = (m : Int)) (hm2 : m ≤ 30) (hm3 : m ≤ N1) :
    Calls Try.prog 9 #[.int .i64 a0, .slice A1 N1 c1] w fun e W' => e = .returned (.bool true) ∧ Below w.heap.size w W' := by
  have K := Aside0.mk (And.intro hn2 (And.intro hm2 (And.intro hm3 hN1)))
  have HR1 := Aside0.mk hr1
  have HC1 := Aside0.mk hc1
  clear hn2 hm2 hm3 hr1 hc1 hN1
  go_enter Try.func9, Try.ntmps9
  go_wp2_with (first | (go_at_call 21; refine (awake_calls w).mono ?_; rintro e w1 ⟨rfl, hB⟩; have HB := Aside0.mk hB; clear hB) | (go_at_call 22; (with_reducible refine (newG w1 (n : Int) n rfl (by have := K.out; omega)).mono ?_); rintro e w2 ⟨p, rfl, gu, gr, hF, hB2, k1, k2, k3⟩; have HF := Aside0.mk hF; have HB2 := Aside0.mk hB2; have HL := Aside0.mk (And.intro k1 (And.intro k2 k3)); clear hF hB2 k1 k2 k3))
  have HB0 := Aside0.mk (below_then HB.out HB.out.size HB2.out)
  have HGE := Aside0.mk (show w.heap.size ≤ p ∧ w.heap.size ≤ gu ∧ w.heap.size ≤ gr by have := HB.out.size; have := HL.out; omega)
  have HLK := Aside0.mk (HF.out.none (link' := lkU l1 0) (fun a b ⟨t, h, _⟩ => by omega))
  clear HF HB HB2 HL hn hm
  go_loopg [27] m (fun kq v27 w' => ∃ (i : Nat) (L ring : List Nat) (gs : Nat), v27 = .int .i64 (i : Int) ∧ i ≤ m ∧ kq = m - i ∧ Aside0 (Known w' p gu gr n (lkU l1 i) L ring gs) ∧ Aside0 (Below w.heap.size w w'))
  case atStart => exact ⟨0, _, _, _, rfl, by omega, by omega, HLK, HB0⟩
  case round =>
    clear HLK HB0
    obtain ⟨i, L, ring, gs, rfl, hi, hk, HF, HB⟩ := hrel
    by_cases hlt : i < m
    · have hltz : (i : Int) < (m : Int) := by omega
      have h0z : (0 : Int) ≤ (i : Int) := by omega
      have himax : (i : Int) < 9223372036854775807 := by have := K.out; omega
      have hN : (i : Int) < (N1 : Int) := by have := K.out; omega
      obtain ⟨ad, e1, hx, hy⟩ := at_T40 (Kd.C_below HR1.out HB.out) (i : Int) h0z hN
      subst e1
      rw [Int.toNat_natCast] at hx hy
      have hbl : (ad.add (i * 2)).block < w.heap.size := by
        obtain ⟨ad', e1, hx', hy'⟩ := at_T40 HR1.out (i : Int) h0z hN
        cases e1
        rw [Int.toNat_natCast] at hx'
        exact World.block_lt_of_cell? w _ hx'
      have HLK := Aside0.mk (lkU_more l1 i)
      obtain ⟨fx, hfx⟩ : ∃ r, r = px l1 i := ⟨_, rfl⟩
      obtain ⟨fy, hfy⟩ : ∃ r, r = py l1 i := ⟨_, rfl⟩
      replace hx : wr.cell? (ad.add (i * 2)) = some (.int .i64 fx) := by rw [hfx]; exact hx
      replace hy : wr.cell? ⟨(ad.add (i * 2)).block, (ad.add (i * 2)).off + 1, none⟩ = some (.int .i64 fy) := by rw [hfy]; exact hy
      rw [← hfx, ← hfy] at HLK
      have HBL := Aside0.mk hbl
      clear hfx hfy hbl
      go_wp2_with fail
      go_region_held3 (fun w' => w'.cell? (ad.add (i * 2)) = some (.int .i64 fx) ∧ w'.cell? ⟨(ad.add (i * 2)).block, (ad.add (i * 2)).off + 1, none⟩ = some (.int .i64 fy)) (first | exact ⟨hx, hy⟩ | exact ⟨hx4, hy4⟩) (first | (go_at_call 23; refine (unionG _ p gu gr n (lkU l1 i) L ring gs (by first | exact HF.out | exact HF.out.drewN _) fx fy).mono ?_; rintro e w4 ⟨v, rfl, L', ring', gs', hF4, hC⟩; have HF4 := Aside0.mk (hF4.links HLK.out); have HB4 := Aside0.mk (Chg.below (by first | exact HB.out | exact pw_below_drewN HB.out _) hC (fun k (h : k = gu ∨ k = gr ∨ k = p) => by have := HGE.out; omega)); have hns : ¬ ((ad.add (i * 2)).block = gu ∨ (ad.add (i * 2)).block = gr ∨ (ad.add (i * 2)).block = p) := (by have := HBL.out; have := HGE.out; omega); have hx4 : w4.cell? (ad.add (i * 2)) = some (.int .i64 fx) := cell_kept hx hC.kept hns; have hy4 : w4.cell? ⟨(ad.add (i * 2)).block, (ad.add (i * 2)).off + 1, none⟩ = some (.int .i64 fy) := cell_kept hy hC.kept hns; clear hF4 hC hns))
      clear hx4 hy4 hx hy
      go_wp2_with fail
      go_roundg (m - (i + 1))
      case measure => omega
      case rel => exact ⟨i + 1, _, _, _, by go_num, by omega, rfl, ⟨by first | exact HF4.out | exact HF4.out.drewN _⟩, ⟨by first | exact HB4.out | exact pw_below_drewN HB4.out _⟩⟩
    · have hltz : ¬ (i : Int) < (m : Int) := by omega
      obtain rfl : m = i := by omega
      have HF1 := HF
      have HB1 := HB
      clear HF HB hlt hi hk
      go_wp2_with fail
      go_loopg [44] n (fun kq v44 w' => ∃ (x : Nat), v44 = .int .i64 (x : Int) ∧ x ≤ n ∧ kq = n - x ∧ Aside0 (Known w' p gu gr n (lkU l1 m) L ring gs) ∧ Aside0 (Below w.heap.size w w'))
      case atStart => exact ⟨0, rfl, by omega, by omega, HF1, HB1⟩
      case round =>
        clear HF1 HB1
        obtain ⟨x, rfl, hx, hk, HF, HB⟩ := hrel
        by_cases hxn : x < n
        · have hltz : (x : Int) < (n : Int) := by omega
          have xmax : (x : Int) < 9223372036854775807 := by have := K.out; omega
          obtain ⟨Ws, rfl⟩ : ∃ Ws, Ws = wr := ⟨_, rfl⟩
          have HR0 := Aside0.mk (show Kd.R (Kd.int .i64) 3 (Ws.alloc (.cells #[.int .i64 (x : Int)] 3)) Ws.heap.size (fun _ => True) (.slice (some ⟨Ws.heap.size, 0, none⟩) 1 1) [(x : Int)] from Kd.R_of_own (own_lit Ws Ws.heap.size 3 .i64 [(x : Int)] (Nat.le_refl _) (by simp)) (fun _ _ => trivial))
          have HI0 := Aside0.mk (below_alloc (Below.refl Ws.heap.size Ws) (.cells #[.int .i64 (x : Int)] 3))
          have HGD := Aside0.mk HF.out.g
          have HC0 := Aside0.mk (Come.start l1 n m L x hxn)
          have HXN := Aside0.mk hxn
          have HKX := Aside0.mk hk
          have HBK := Aside0.mk HF.out.blocks
          clear hxn hx hk
          go_wp2_with fail
          go_loopg [9, 10] (n + 1) (fun kq v9 v10 w' => ∃ (r : List Int) (q : Nat), v10 = .int .i64 (q : Int) ∧ kq = n + 1 - q ∧ q ≤ r.length ∧ Aside0 (Come l1 n m L x r q 0) ∧ Aside0 (Kd.R (Kd.int .i64) 3 w' Ws.heap.size (fun _ => True) v9 r) ∧ Aside0 (Below Ws.heap.size Ws w'))
          case atStart => exact ⟨[(x : Int)], 0, rfl, by omega, by simp, HC0, HR0, HI0⟩
          case round =>
            clear HC0 HR0 HI0
            obtain ⟨r, q, rfl, hk, hq, HCO, HR, HI⟩ := hrel
            have hrl := HCO.out.len
            have hrp : 0 < r.length := List.length_pos_of_mem HCO.out.first
            obtain ⟨g2, cap, hv, hg2, hlt2, hcells⟩ := Kd.R_form HR.out hrp
            subst hv
            by_cases hqr : q < r.length
            · have hltz : (q : Int) < (r.length : Int) := by omega
              have qmax : (q : Int) < 9223372036854775807 := by have := K.out; omega
              have HTR0 := Aside0.mk hqr
              clear hqr hq hrl hrp hg2 hlt2 hcells
              have HCO0 := HCO
              have HRR := HR
              have HII := HI
              clear HCO HR HI
              go_wp2_with fail
              go_loopg [9, 56] m (fun kq v9 v56 w' => ∃ (r : List Int) (i : Nat), v56 = .int .i64 (i : Int) ∧ i ≤ m ∧ kq = m - i ∧ Aside0 (q < r.length) ∧ Aside0 (Come l1 n m L x r q i) ∧ Aside0 (Kd.R (Kd.int .i64) 3 w' Ws.heap.size (fun _ => True) v9 r) ∧ Aside0 (Below Ws.heap.size Ws w'))
              case atStart => exact ⟨r, 0, rfl, by omega, by omega, HTR0, HCO0, HRR, HII⟩
              case round =>
                clear HTR0 HCO0 HRR HII
                obtain ⟨r, i, rfl, hi, hk, HTR, HCO, HR, HI⟩ := hrel
                have hrl := HCO.out.len
                have hrp : 0 < r.length := List.length_pos_of_mem HCO.out.first
                by_cases hlt : i < m
                · have hltm : (i : Int) < (m : Int) := by omega
                  have h0z : (0 : Int) ≤ (i : Int) := by omega
                  have himax : (i : Int) < 9223372036854775807 := by have := K.out; omega
                  have hN : (i : Int) < (N1 : Int) := by have := K.out; omega
                  obtain ⟨ad, e1, hx, hy⟩ := at_T40 (Kd.C_below HR1.out (below_then HB.out HB.out.size HI.out)) (i : Int) h0z hN
                  subst e1
                  rw [Int.toNat_natCast] at hx hy
                  obtain ⟨g2, cap, hv, hg2, hlt2, hcells⟩ := Kd.R_form HR.out hrp
                  subst hv
                  have hq0 : (0 : Int) ≤ (q : Int) := by omega
                  have hql : (q : Int) < (r.length : Int) := by have := HTR.out; omega
                  obtain ⟨ad2, e2, hc⟩ := Kd.at_int (Kd.R_reads' HR.out).2.2 (q : Int) hq0 hql
                  cases e2
                  obtain ⟨c, hcc0⟩ : ∃ c, c = r.getD q 0 := ⟨_, rfl⟩
                  replace hc : wr.cell? ⟨g2, q, none⟩ = some (.int .i64 c) := by
                    rw [Int.toNat_natCast] at hc
                    rw [hcc0]
                    by_cases hq1 : q = 0 <;> simpa [Addr.add, hq1, rd] using hc
                  have HCC := Aside0.mk hcc0
                  obtain ⟨fx, hfx⟩ : ∃ r, r = px l1 i := ⟨_, rfl⟩
                  obtain ⟨fy, hfy⟩ : ∃ r, r = py l1 i := ⟨_, rfl⟩
                  replace hx : wr.cell? (ad.add (i * 2)) = some (.int .i64 fx) := by rw [hfx]; exact hx
                  replace hy : wr.cell? ⟨(ad.add (i * 2)).block, (ad.add (i * 2)).off + 1, none⟩ = some (.int .i64 fy) := by rw [hfy]; exact hy
                  have HPX := Aside0.mk (And.intro hfx hfy)
                  have HIM := Aside0.mk hlt
                  have HLE := Aside0.mk (show r.length ≤ 20 by have := K.out; omega)
                  clear hcc0 hfx hfy hrl hrp hg2 hlt2 hcells hi hlt
                  go_wp2_with fail
                  go_region_held3 (fun w' => w'.cell? (ad.add (i * 2)) = some (.int .i64 fx) ∧ w'.cell? ⟨(ad.add (i * 2)).block, (ad.add (i * 2)).off + 1, none⟩ = some (.int .i64 fy)) (exact ⟨hx, hy⟩) (fail)
                  have HR5 := Aside0.mk (Kd.R_drew HR.out)
                  have HI5 := Aside0.mk (below_drew1 HI.out)
                  have hc2 : wr.drew.cell? ⟨g2, q, none⟩ = some (.int .i64 c) := hc
                  obtain ⟨W5, hW5⟩ : ∃ W5, W5 = wr.drew := ⟨_, rfl⟩
                  rw [← hW5] at HR5 HI5 hc2
                  rw [← hW5]
                  clear hW5 hx hy hc HR HI
                  have HR := HR5
                  have HI := HI5
                  clear HR5 HI5
                  by_cases e : fy = c
                  · have HEQ := Aside0.mk e
                    have eb : (fy == c) = true := beq_iff_eq.mpr e
                    have hcc : (c == c) = true := beq_self_eq_true c
                    clear e
                    by_cases b0 : (0 : Int) ≤ fx
                    · have b0b : decide ((0 : Int) ≤ fx) = true := decide_eq_true b0
                      by_cases b1 : fx < (n : Int)
                      · have b1b : decide (fx < (n : Int)) = true := decide_eq_true b1
                        by_cases b2 : fx ∈ r
                        · have HM := Aside0.mk (decide_eq_true b2)
                          have HW := Aside0.mk (show (fx = c → 0 ≤ fy ∧ fy < (n : Int) → fy ∈ r) ∧ (fy = c → 0 ≤ fx ∧ fx < (n : Int) → fx ∈ r) from ⟨fun e1 _ => by rw [HEQ.out, ← e1]; exact b2, fun _ _ => b2⟩)
                          clear b2
                          go_wp2_with (go_at_call 41; (with_reducible refine (hasR (by first | exact HR.out | exact Kd.R_drewN HR.out _) (by have := HLE.out; omega) fx true HM.out).mono ?_); rintro e1 w' ⟨rfl, ⟨mh, rfl⟩⟩)
                          go_wp2_with fail
                          go_roundg (m - (i + 1))
                          case measure => omega
                          case rel => exact ⟨r, i + 1, by go_num, by omega, rfl, HTR, ⟨HCO.out.keep HTR.out (by rw [← HPX.out.1, ← HPX.out.2, ← HCC.out]; exact HW.out.1) (by rw [← HPX.out.1, ← HPX.out.2, ← HCC.out]; exact HW.out.2)⟩, ⟨by first | exact HR.out | exact Kd.R_drewN HR.out _⟩, ⟨by first | exact HI.out | exact pw_below_drewN HI.out _⟩⟩
                        · have HM := Aside0.mk (decide_eq_false b2)
                          have HCN := Aside0.mk (HCO.out.more HGD.out HTR.out HIM.out fx b0 b1 b2 (by rw [← HPX.out.1, ← HPX.out.2, ← HCC.out]; exact .inr ⟨HEQ.out, rfl⟩) (by rw [← HPX.out.1, ← HPX.out.2, ← HCC.out]; exact fun e1 _ => by rw [HEQ.out, ← e1]) (by rw [← HPX.out.1, ← HPX.out.2, ← HCC.out]; exact fun _ _ => rfl))
                          clear b2
                          go_wp2_with (first | (go_at_call 41; (with_reducible refine (hasR (by first | exact HR.out | exact Kd.R_drewN HR.out _) (by have := HLE.out; omega) fx false HM.out).mono ?_); rintro e1 w' ⟨rfl, ⟨mh, rfl⟩⟩) | ((with_reducible refine gate_builtin (b := .append) (xs := #[.tmp 96, .tmp 98]) rfl ?_); at_builtin; refine Kd.R_append (Kd.int .i64) (w0 := Ws) Ws.heap.size rfl (.tmp 96) (.tmp 98) 51 3 (.int .i64 0) 8 rfl Try.underlying51 infoInt rfl (by decide) (by omega) (.slice (some ⟨g2, 0, none⟩) r.length cap) r fx [.int .i64 fx] (fun _ => True) (fun _ => False) rfl rfl ?aP (fun _ hk => hk.elim) ?aF ?aO ?aB ?aS ?aL ?_; (case aP => exact rfl); (case aB => exact (by repeat (first | (with_reducible first | exact HI.out | apply below_alloc | apply pw_below_drewN | apply below_drew1) | exact HI.out))); (case aF => exact (fun _ _ => trivial)); (case aO => exact (by (with_reducible repeat (first | apply Kd.R_alloc | apply Kd.R_drewN | apply Kd.R_drew)); exact HR.out)); (case aS => exact (below_size (by repeat (first | (with_reducible first | exact HI.out | apply below_alloc | apply pw_below_drewN | apply below_drew1) | exact HI.out)))); (case aL => have := HLE.out; omega); intro v147 w14 ho hb hg hat; have HI2 := Aside0.mk hb; have HR2 := Aside0.mk ho; clear ho hb hg hat))
                          go_roundg (m - (i + 1))
                          case measure => omega
                          case rel => exact ⟨r ++ [fx], i + 1, by go_num, by omega, rfl, ⟨by have := HTR.out; simp; omega⟩, HCN, HR2, HI2⟩
                      · have b1b : decide (fx < (n : Int)) = false := decide_eq_false b1
                        have HW := Aside0.mk (show (fx = c → 0 ≤ fy ∧ fy < (n : Int) → fy ∈ r) ∧ (fy = c → 0 ≤ fx ∧ fx < (n : Int) → fx ∈ r) from ⟨fun e1 h2 => absurd (e1.trans HEQ.out.symm ▸ h2.2) (by have := HEQ.out; omega), fun _ h2 => absurd h2.2 b1⟩)
                        go_wp2_with fail
                        go_roundg (m - (i + 1))
                        case measure => omega
                        case rel => exact ⟨r, i + 1, by go_num, by omega, rfl, HTR, ⟨HCO.out.keep HTR.out (by rw [← HPX.out.1, ← HPX.out.2, ← HCC.out]; exact HW.out.1) (by rw [← HPX.out.1, ← HPX.out.2, ← HCC.out]; exact HW.out.2)⟩, ⟨by first | exact HR.out | exact Kd.R_drewN HR.out _⟩, ⟨by first | exact HI.out | exact pw_below_drewN HI.out _⟩⟩
                    · have b0b : decide ((0 : Int) ≤ fx) = false := decide_eq_false b0
                      have HW := Aside0.mk (show (fx = c → 0 ≤ fy ∧ fy < (n : Int) → fy ∈ r) ∧ (fy = c → 0 ≤ fx ∧ fx < (n : Int) → fx ∈ r) from ⟨fun e1 h2 => absurd h2.1 (by have := HEQ.out; omega), fun _ h2 => absurd h2.1 b0⟩)
                      go_wp2_with fail
                      go_roundg (m - (i + 1))
                      case measure => omega
                      case rel => exact ⟨r, i + 1, by go_num, by omega, rfl, HTR, ⟨HCO.out.keep HTR.out (by rw [← HPX.out.1, ← HPX.out.2, ← HCC.out]; exact HW.out.1) (by rw [← HPX.out.1, ← HPX.out.2, ← HCC.out]; exact HW.out.2)⟩, ⟨by first | exact HR.out | exact Kd.R_drewN HR.out _⟩, ⟨by first | exact HI.out | exact pw_below_drewN HI.out _⟩⟩
                  · have HNE := Aside0.mk e
                    have eb : (fy == c) = false := beq_eq_false_iff_ne.mpr e
                    clear e
                    by_cases e2 : fx = c
                    · have HEQ := Aside0.mk e2
                      have eb2 : (fx == c) = true := beq_iff_eq.mpr e2
                      clear e2
                      by_cases b0 : (0 : Int) ≤ fy
                      · have b0b : decide ((0 : Int) ≤ fy) = true := decide_eq_true b0
                        by_cases b1 : fy < (n : Int)
                        · have b1b : decide (fy < (n : Int)) = true := decide_eq_true b1
                          by_cases b2 : fy ∈ r
                          · have HM := Aside0.mk (decide_eq_true b2)
                            have HW := Aside0.mk (show (fx = c → 0 ≤ fy ∧ fy < (n : Int) → fy ∈ r) ∧ (fy = c → 0 ≤ fx ∧ fx < (n : Int) → fx ∈ r) from ⟨fun _ _ => b2, fun e1 _ => absurd e1 HNE.out⟩)
                            clear b2
                            go_wp2_with (go_at_call 41; (with_reducible refine (hasR (by first | exact HR.out | exact Kd.R_drewN HR.out _) (by have := HLE.out; omega) fy true HM.out).mono ?_); rintro e1 w' ⟨rfl, ⟨mh, rfl⟩⟩)
                            go_wp2_with fail
                            go_roundg (m - (i + 1))
                            case measure => omega
                            case rel => exact ⟨r, i + 1, by go_num, by omega, rfl, HTR, ⟨HCO.out.keep HTR.out (by rw [← HPX.out.1, ← HPX.out.2, ← HCC.out]; exact HW.out.1) (by rw [← HPX.out.1, ← HPX.out.2, ← HCC.out]; exact HW.out.2)⟩, ⟨by first | exact HR.out | exact Kd.R_drewN HR.out _⟩, ⟨by first | exact HI.out | exact pw_below_drewN HI.out _⟩⟩
                          · have HM := Aside0.mk (decide_eq_false b2)
                            have HCN := Aside0.mk (HCO.out.more HGD.out HTR.out HIM.out fy b0 b1 b2 (by rw [← HPX.out.1, ← HPX.out.2, ← HCC.out]; exact .inl ⟨HEQ.out, rfl⟩) (by rw [← HPX.out.1, ← HPX.out.2, ← HCC.out]; exact fun _ _ => rfl) (by rw [← HPX.out.1, ← HPX.out.2, ← HCC.out]; exact fun e1 _ => absurd e1 HNE.out))
                            clear b2
                            go_wp2_with (first | (go_at_call 41; (with_reducible refine (hasR (by first | exact HR.out | exact Kd.R_drewN HR.out _) (by have := HLE.out; omega) fy false HM.out).mono ?_); rintro e1 w' ⟨rfl, ⟨mh, rfl⟩⟩) | ((with_reducible refine gate_builtin (b := .append) (xs := #[.tmp 96, .tmp 98]) rfl ?_); at_builtin; refine Kd.R_append (Kd.int .i64) (w0 := Ws) Ws.heap.size rfl (.tmp 96) (.tmp 98) 51 3 (.int .i64 0) 8 rfl Try.underlying51 infoInt rfl (by decide) (by omega) (.slice (some ⟨g2, 0, none⟩) r.length cap) r fy [.int .i64 fy] (fun _ => True) (fun _ => False) rfl rfl ?aP (fun _ hk => hk.elim) ?aF ?aO ?aB ?aS ?aL ?_; (case aP => exact rfl); (case aB => exact (by repeat (first | (with_reducible first | exact HI.out | apply below_alloc | apply pw_below_drewN | apply below_drew1) | exact HI.out))); (case aF => exact (fun _ _ => trivial)); (case aO => exact (by (with_reducible repeat (first | apply Kd.R_alloc | apply Kd.R_drewN | apply Kd.R_drew)); exact HR.out)); (case aS => exact (below_size (by repeat (first | (with_reducible first | exact HI.out | apply below_alloc | apply pw_below_drewN | apply below_drew1) | exact HI.out)))); (case aL => have := HLE.out; omega); intro v147 w14 ho hb hg hat; have HI2 := Aside0.mk hb; have HR2 := Aside0.mk ho; clear ho hb hg hat))
                            go_roundg (m - (i + 1))
                            case measure => omega
                            case rel => exact ⟨r ++ [fy], i + 1, by go_num, by omega, rfl, ⟨by have := HTR.out; simp; omega⟩, HCN, HR2, HI2⟩
                        · have b1b : decide (fy < (n : Int)) = false := decide_eq_false b1
                          have HW := Aside0.mk (show (fx = c → 0 ≤ fy ∧ fy < (n : Int) → fy ∈ r) ∧ (fy = c → 0 ≤ fx ∧ fx < (n : Int) → fx ∈ r) from ⟨fun _ h2 => absurd h2.2 b1, fun e1 _ => absurd e1 HNE.out⟩)
                          go_wp2_with fail
                          go_roundg (m - (i + 1))
                          case measure => omega
                          case rel => exact ⟨r, i + 1, by go_num, by omega, rfl, HTR, ⟨HCO.out.keep HTR.out (by rw [← HPX.out.1, ← HPX.out.2, ← HCC.out]; exact HW.out.1) (by rw [← HPX.out.1, ← HPX.out.2, ← HCC.out]; exact HW.out.2)⟩, ⟨by first | exact HR.out | exact Kd.R_drewN HR.out _⟩, ⟨by first | exact HI.out | exact pw_below_drewN HI.out _⟩⟩
                      · have b0b : decide ((0 : Int) ≤ fy) = false := decide_eq_false b0
                        have HW := Aside0.mk (show (fx = c → 0 ≤ fy ∧ fy < (n : Int) → fy ∈ r) ∧ (fy = c → 0 ≤ fx ∧ fx < (n : Int) → fx ∈ r) from ⟨fun _ h2 => absurd h2.1 b0, fun e1 _ => absurd e1 HNE.out⟩)
                        go_wp2_with fail
                        go_roundg (m - (i + 1))
                        case measure => omega
                        case rel => exact ⟨r, i + 1, by go_num, by omega, rfl, HTR, ⟨HCO.out.keep HTR.out (by rw [← HPX.out.1, ← HPX.out.2, ← HCC.out]; exact HW.out.1) (by rw [← HPX.out.1, ← HPX.out.2, ← HCC.out]; exact HW.out.2)⟩, ⟨by first | exact HR.out | exact Kd.R_drewN HR.out _⟩, ⟨by first | exact HI.out | exact pw_below_drewN HI.out _⟩⟩
                    · have HN2 := Aside0.mk e2
                      have eb2 : (fx == c) = false := beq_eq_false_iff_ne.mpr e2
                      clear e2
                      have HW := Aside0.mk (show (fx = c → 0 ≤ fy ∧ fy < (n : Int) → fy ∈ r) ∧ (fy = c → 0 ≤ fx ∧ fx < (n : Int) → fx ∈ r) from ⟨fun e1 _ => absurd e1 HN2.out, fun e1 _ => absurd e1 HNE.out⟩)
                      go_wp2_with fail
                      go_roundg (m - (i + 1))
                      case measure => omega
                      case rel => exact ⟨r, i + 1, by go_num, by omega, rfl, HTR, ⟨HCO.out.keep HTR.out (by rw [← HPX.out.1, ← HPX.out.2, ← HCC.out]; exact HW.out.1) (by rw [← HPX.out.1, ← HPX.out.2, ← HCC.out]; exact HW.out.2)⟩, ⟨by first | exact HR.out | exact Kd.R_drewN HR.out _⟩, ⟨by first | exact HI.out | exact pw_below_drewN HI.out _⟩⟩
                · have hltm : ¬ (i : Int) < (m : Int) := by omega
                  obtain rfl : i = m := by omega
                  have HCX := Aside0.mk (HCO.out.next HTR.out)
                  have HKQ := Aside0.mk (show q < n + 1 by have := HTR.out; omega)
                  clear hlt hi hk
                  go_wp2_with fail
                  go_roundg (n + 1 - (q + 1))
                  case measure => have := HKQ.out; omega
                  case rel => exact ⟨r, q + 1, by go_num, by omega, by have := HTR.out; omega, HCX, HR, HI⟩
            · have hltz : ¬ (q : Int) < (r.length : Int) := by omega
              have HST := Aside0.mk (HCO.out.set HGD.out HXN.out (by omega))
              have HSL := Aside0.mk (Nat.le_trans (set_len r) (Nat.le_trans hrl (by have := K.out; omega : n ≤ 1000)))
              have HRL := Aside0.mk (Nat.le_trans hrl (by have := K.out; omega : n ≤ 1000))
              have HF2 := Aside0.mk (HF.out.far (S := fun _ => False) (Chg.of_below HI.out) id id id)
              have HB2 := Aside0.mk (below_then HB.out HB.out.size HI.out)
              clear hqr hq hrl hrp hg2 hlt2 hcells hk
              go_wp2_with (first | (go_at_call 38; (with_reducible refine (membersG _ p gu gr n (lkU l1 m) L ring gs HF2.out x HXN.out).mono ?_); rw [HST.out]; rintro e w5 ⟨v5, rfl, hR5, hF5, hC5⟩; have HR5 := Aside0.mk hR5; have HF5 := Aside0.mk hF5; have HB5 := Aside0.mk (Chg.below HB2.out hC5 (fun k (h : k = gu) => by have := HGE.out; omega)); have HR4 := Aside0.mk (Kd.R_kept (Kd.R_bound HR.out) hC5.kept (fun k hk (h : k = gu) => by have := hk.2.1; have := HBK.out; omega)); clear hR5 hF5 hC5) | (go_at_call 42; (with_reducible refine (ofR HR4.out HRL.out).mono ?_); rintro e w6 ⟨v6, rfl, hR6, hB6⟩; have HR6 := Aside0.mk hR6; have HR7 := Aside0.mk (Kd.R_below HR5.out hB6); have HF6 := Aside0.mk (HF5.out.far (S := fun _ => False) (Chg.of_below hB6) id id id); have HB6 := Aside0.mk (below_then HB5.out HB5.out.size hB6); clear hR6 hB6) | (go_at_call 37; (with_reducible refine (same_calls HR7.out HR6.out (Nat.le_trans HSL.out (by decide))).mono ?_); rintro e1 w' ⟨rfl, ⟨m4, rfl⟩⟩))
              go_roundg (n - (x + 1))
              case measure => have := HKX.out; have := HXN.out; omega
              case rel => exact ⟨x + 1, by go_num, by have := HXN.out; omega, rfl, ⟨by first | exact HF6.out | exact HF6.out.drewN _⟩, ⟨by first | exact HB6.out | exact pw_below_drewN HB6.out _⟩⟩
        · have hltz : ¬ (x : Int) < (n : Int) := by omega
          go_wp2_with fail
          go_ret
          exact ⟨rfl, HB.out⟩
/-- What the law answers; that it does is what the walk shows. -/
def dowserlaw17_ForestLeads.f (a0 : Int) (l1 : List S40) : Option Bool := some true
theorem dowserlaw17_ForestLeads.calls (a0 : Int) (A1 : Option Addr) (c1 : Nat) (l1 : List S40) (r : Bool) (w : World) (hr1 : Kd.C k40 w A1 l1.length l1) (hc1 : l1.length ≤ c1) (h : dowserlaw17_ForestLeads.f a0 l1 = some r) :
    Calls Try.prog 9 #[.int .i64 a0, .slice A1 l1.length c1] w fun e w' => e = .returned (.bool r) ∧ Below w.heap.size w w' := by
  obtain rfl : true = r := Option.some.inj h
  have hn : mx 0 (mn a0 20) = ((mx 0 (mn a0 20)).toNat : Int) := by unfold mx mn; (repeat' split) <;> omega
  have hn2 : (mx 0 (mn a0 20)).toNat ≤ 20 := by unfold mx mn; (repeat' split) <;> omega
  have hm : mn (l1.length : Int) 30 = ((min l1.length 30 : Nat) : Int) := by unfold mn; split <;> omega
  exact leads_calls w a0 A1 l1.length c1 l1 rfl _ _ hr1 hc1 hn hn2 hm (Nat.min_le_right _ _) (Nat.min_le_left _ _)
end
def dowserlaw17_ForestLeads.Pure : Prop := ∀ (a0 : Int) (l1 : List (S40)), (Lit.int .i64 a0).wf = true → (l1.length ≤ maxLen ∧ ∀ y143 ∈ l1, ((Lit.int .i64 y143.f0).wf = true ∧ (Lit.int .i64 y143.f1).wf = true)) → dowserlaw17_ForestLeads.f a0 l1 = some true

end Go.Proofs.Ytfkgidiedpkbdaa.PR

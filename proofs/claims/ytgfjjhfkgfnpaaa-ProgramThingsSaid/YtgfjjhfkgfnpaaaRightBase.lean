/- Right, its words: what it makes, and what each part of its walk says. No conditions. -/
import Derived.Test.YtgfjjhfkgfnpaaaRightTry0
import Derived.Deep.RegionHeld3
import Derived.Deep.DeepCutAuto
namespace Go.Proofs.Ytgfjjhfkgfnpaaa.PB
open Go.RowKit Go.Proofs.YtgfjjhfkgfnpaaaW.PrintWords Go.Proofs.YtgfjjhfkgfnpaaaW.PrintLast Go.Proofs.YtgfjjhfkgfnpaaaW.PrintMore
set_option linter.unusedVariables false
set_option linter.unusedSimpArgs false
def ans15 (V x : Int) : Int := x % (V + 1) - 1
/-- At most eight functions. -/
def fun15 (V : Int) (l : List S52) : List S52 := (l.take 8).map fun x => ⟨vars15 V x.f0, ans15 V x.f1⟩
theorem fun15_len (V : Int) (l : List S52) : (fun15 V l).length = min 8 l.length := by unfold fun15; rw [List.length_map, List.length_take]
theorem fun15_succ (V : Int) (l : List S52) (i : Nat) (hi : i < l.length) (h4 : i < 8) : fun15 V (l.take (i + 1)) = fun15 V (l.take i) ++ [⟨vars15 V (rd_T52 l (i : Int)).f0, ans15 V (rd_T52 l (i : Int)).f1⟩] := by
  have : rd_T52 l (i : Int) = l[i] := by unfold rd_T52; rw [Int.toNat_natCast, List.getD_eq_getElem?_getD, List.getElem?_eq_getElem hi]; rfl
  unfold fun15
  rw [this, List.take_take, List.take_take, Nat.min_eq_right (by omega), Nat.min_eq_right (by omega), List.take_succ_eq_append_getElem hi, List.map_append]
  rfl
theorem fun15_full (V : Int) (l : List S52) (i : Nat) (h : i = l.length ∨ i = 8) : fun15 V (l.take i) = fun15 V l := by
  rcases h with rfl | rfl
  · rw [List.take_length]
  · unfold fun15; rw [List.take_take, Nat.min_self]
/-- One at least. -/
def fun15g (V : Int) (l : List S52) : List S52 := if (fun15 V l).length = 0 then [⟨[], -1⟩] else fun15 V l
/-- What stands in memory: the program that came in, the answer's cell, the program that is made. -/
def Rw1_ (w : World) (gp gz gq : Nat) (a0 a1 a2 V U Y : Int) (p3 p4 p5 v3 v4 v5 : Value) (W : World) : Prop :=
  W.heap[gp]? = some (bq_ a0 a1 a2 p3 p4 p5) ∧ W.heap[gz]? = some (bq_ 0 0 0 (.slice none 0 0) (.slice none 0 0) (.slice none 0 0)) ∧ W.heap[gq]? = some (bq_ V U Y v3 v4 v5) ∧ Below w.heap.size w W
section
variable {w : World} {gp gz gq : Nat} {a0 a1 a2 V U Y : Int} {p3 p4 p5 v3 v4 v5 u : Value} {W W1 : World}
theorem Rw1_.below (h : Rw1_ w gp gz gq a0 a1 a2 V U Y p3 p4 p5 v3 v4 v5 W) (hb : Below W.heap.size W W1) : Rw1_ w gp gz gq a0 a1 a2 V U Y p3 p4 p5 v3 v4 v5 W1 := by
  obtain ⟨k1, k2, k3, k4⟩ := h
  exact ⟨(hb.block _ (blk_lt k1)).trans k1, (hb.block _ (blk_lt k2)).trans k2, (hb.block _ (blk_lt k3)).trans k3, below_step k4 hb⟩
theorem Rw1_.grown (h : Rw1_ w gp gz gq a0 a1 a2 V U Y p3 p4 p5 v3 v4 v5 W) {row : Option Nat} (hg : W.grownBy W1 row) (hb : Below w.heap.size w W1) (ne : ∀ {g : Nat} {cs : Array Value}, W.heap[g]? = some (.cells cs 26 (0, 0)) → some g ≠ row) : Rw1_ w gp gz gq a0 a1 a2 V U Y p3 p4 p5 v3 v4 v5 W1 := by
  obtain ⟨k1, k2, k3, k4⟩ := h
  exact ⟨(hg.block gp (blk_lt k1) (ne k1)).trans k1, (hg.block gz (blk_lt k2) (ne k2)).trans k2, (hg.block gq (blk_lt k3) (ne k3)).trans k3, hb⟩
theorem Rw1_.set3 (h : Rw1_ w gp gz gq a0 a1 a2 V U Y p3 p4 p5 v3 v4 v5 W) (h1 : gp ≠ gq) (h2 : gz ≠ gq) (hg : w.heap.size ≤ gq) : Rw1_ w gp gz gq a0 a1 a2 V U Y p3 p4 p5 u v4 v5 (W.setCell ⟨gq, 3, none⟩ u) := by
  obtain ⟨k1, k2, k3, k4⟩ := h
  refine ⟨by rw [Below.heap_setCell W ⟨gq, 3, none⟩ u gp h1]; exact k1, by rw [Below.heap_setCell W ⟨gq, 3, none⟩ u gz h2]; exact k2, by simp only [World.setCell, Array.getElem?_modify, k3]; simp [bq_], k4.setCell (p := ⟨gq, 3, none⟩) hg _⟩
theorem Rw1_.set4 (h : Rw1_ w gp gz gq a0 a1 a2 V U Y p3 p4 p5 v3 v4 v5 W) (h1 : gp ≠ gq) (h2 : gz ≠ gq) (hg : w.heap.size ≤ gq) : Rw1_ w gp gz gq a0 a1 a2 V U Y p3 p4 p5 v3 u v5 (W.setCell ⟨gq, 4, none⟩ u) := by
  obtain ⟨k1, k2, k3, k4⟩ := h
  refine ⟨by rw [Below.heap_setCell W ⟨gq, 4, none⟩ u gp h1]; exact k1, by rw [Below.heap_setCell W ⟨gq, 4, none⟩ u gz h2]; exact k2, by simp only [World.setCell, Array.getElem?_modify, k3]; simp [bq_], k4.setCell (p := ⟨gq, 4, none⟩) hg _⟩
theorem Rw1_.set5 (h : Rw1_ w gp gz gq a0 a1 a2 V U Y p3 p4 p5 v3 v4 v5 W) (h1 : gp ≠ gq) (h2 : gz ≠ gq) (hg : w.heap.size ≤ gq) : Rw1_ w gp gz gq a0 a1 a2 V U Y p3 p4 p5 v3 v4 u (W.setCell ⟨gq, 5, none⟩ u) := by
  obtain ⟨k1, k2, k3, k4⟩ := h
  refine ⟨by rw [Below.heap_setCell W ⟨gq, 5, none⟩ u gp h1]; exact k1, by rw [Below.heap_setCell W ⟨gq, 5, none⟩ u gz h2]; exact k2, by simp only [World.setCell, Array.getElem?_modify, k3]; simp [bq_], k4.setCell (p := ⟨gq, 5, none⟩) hg _⟩
end
attribute [local go_sem] fdrewN_alloc_ fdrewN_setCell_
theorem fk52_ {W : World} {ok : Nat → Prop} {A : Option Addr} {n c : Nat} {l : List Int} {r : Int} (hn : n = l.length) (hc : n ≤ c) (h : Kd.F (Kd.int .i64) W ok A n l) : Kd.FK k52 W ok ⟨l, r⟩ [.slice A n c, .int .i64 r] := fun W' hW' => by
  subst hn
  exact ⟨[.slice A l.length c], [.int .i64 r], rfl, ⟨A, c, rfl, hc, h W' hW'⟩, rfl⟩
def rt15.T7 : Bool × List (List Nat × List Nat) := (true, [([], []), ([0], [0]), ([], []), ([], []), ([3], [3]), ([], []), ([4, 5], [4, 5]), ([6], [6]), ([7], [7]), ([2, 8], [2, 8]), ([], []), ([], []), ([11], [11]), ([], []), ([12, 13], [12, 13]), ([14], [14]), ([15], [15]), ([10, 16, 9], [10, 16]), ([9, 17], [9, 17]), ([18], [18]), ([1, 19, 17], [1, 19]), ([0, 1, 2, 3, 4, 5, 6, 7, 8, 9, 10, 11, 12, 13, 14, 15, 16, 17, 18, 19, 20], []), ([21, 20, 20, 0, 1, 2, 3, 4, 5, 6, 7, 8, 9, 10, 11, 12, 13, 14, 15, 16, 17, 18, 19, 20], [20, 21])])
def rt15.B7 : List Nat := [0, 1, 0, 0, 8, 0, 56, 120, 248, 508, 0, 0, 2048, 0, 14336, 30720, 63488, 131068, 262140, 524284, 1048575, 2097151, 4194303]
theorem rt15.tab7 : rtab .any (opsOf Try.f12 7) = rt15.T7 := by kernel_rfl
theorem rt15.bits7 : waitsOk rt15.T7.2 rt15.B7 = true := by kernel_rfl
theorem lit52_ (W : World) (base : Nat) (ok : Nat → Prop) (hb : base ≤ W.heap.size) (hok : ok W.heap.size) : Kd.N k52 52 (W.alloc (.cells #[.slice none 0 0, .int .i64 (-1)] 52)) base ok (.slice (some ⟨W.heap.size, 0, none⟩) 1 1) [⟨[], -1⟩] := by
  refine Kd.R_N ⟨fun k hk => ?_, [.slice none 0 0, .int .i64 (-1)], ?_, ?_⟩
  · have : W.heap.size = k := by simpa [Value.ownBlock] using hk
    subst this
    exact hok
  · exact World.ownsRow_lit (base := base) (e := 52) (size := 2) W #[.slice none 0 0, .int .i64 (-1)] 1 hb (by decide) rfl
  · refine ⟨rfl, fun j p hj => ?_⟩
    cases j with
    | zero =>
      simp only [List.getElem?_cons_zero, Option.some.injEq] at hj
      subst hj
      exact ⟨[_], [_], rfl, ⟨_, rfl, Kd.R_nil _ _ _ _ _⟩, rfl⟩
    | succ j => simp at hj
theorem fun15g_len (V : Int) (l : List S52) : 1 ≤ (fun15g V l).length ∧ (fun15g V l).length ≤ 8 := by
  unfold fun15g
  have := fun15_len V l
  split
  · exact ⟨Nat.le_refl _, by decide⟩
  · omega
def st15 (n f : Int) (acc : List Int) (x : Int) : List Int := if x % n = f then (if acc.length = 0 then acc ++ [f] else if rd acc ((acc.length - 1 : Nat) : Int) < f then acc ++ [f] else acc) else acc
def en15 (n f : Int) (acc l : List Int) : List Int := l.foldl (st15 n f) acc
def ent15 (n : Int) (l : List Int) : Nat → List Int
  | 0 => []
  | f + 1 => en15 n (f : Int) (ent15 n l f) l
theorem en15_succ (n f : Int) (acc l : List Int) (i : Nat) (hi : i < l.length) : en15 n f acc (l.take (i + 1)) = st15 n f (en15 n f acc (l.take i)) (rd l (i : Int)) := by
  have : rd l (i : Int) = l[i] := by unfold rd; rw [Int.toNat_natCast, List.getD_eq_getElem?_getD, List.getElem?_eq_getElem hi]; rfl
  unfold en15
  rw [this, List.take_succ_eq_append_getElem hi, List.foldl_append]
  rfl
theorem rd_last15 (acc : List Int) (f : Int) : rd (acc ++ [f]) (((acc ++ [f]).length - 1 : Nat) : Int) = f := by
  unfold rd
  rw [Int.toNat_natCast, List.length_append, List.length_singleton, Nat.add_sub_cancel, List.getD_eq_getElem?_getD, List.getElem?_append_right (Nat.le_refl _), Nat.sub_self]
  rfl
theorem en15_cases (n f : Int) (acc : List Int) (l : List Int) : en15 n f acc l = acc ∨ en15 n f acc l = acc ++ [f] := by
  have h2 : ∀ l : List Int, l.foldl (st15 n f) (acc ++ [f]) = acc ++ [f] := by
    intro l
    induction l with
    | nil => rfl
    | cons x l ih =>
      rw [List.foldl_cons]
      have : st15 n f (acc ++ [f]) x = acc ++ [f] := by
        unfold st15
        split
        · rw [rd_last15, if_neg (by simp), if_neg (by omega)]
        · rfl
      rw [this, ih]
  unfold en15
  induction l with
  | nil => exact .inl rfl
  | cons x l ih =>
    rw [List.foldl_cons]
    have hs : st15 n f acc x = acc ∨ st15 n f acc x = acc ++ [f] := by
      unfold st15
      split
      · split
        · exact .inr rfl
        · split
          · exact .inr rfl
          · exact .inl rfl
      · exact .inl rfl
    rcases hs with hs | hs
    · rw [hs]; exact ih
    · rw [hs]; exact .inr (h2 l)
theorem ent15_len (n : Int) (l : List Int) (f : Nat) : (ent15 n l f).length ≤ f := by
  induction f with
  | zero => exact Nat.le_refl _
  | succ f ih =>
    show (en15 n (f : Int) (ent15 n l f) l).length ≤ f + 1
    rcases en15_cases n (f : Int) (ent15 n l f) l with h | h
    · rw [h]; omega
    · rw [h, List.length_append, List.length_singleton]; omega
def and15 (x : Int) : Int := IntKind.i64.wrap (Go.bits .and .i64 x 65535 + 6)
def kind15 (x : Int) : Int := 1 + and15 x % 7
def b15 (V U n k x : Int) : Int := if k = 1 then x % U else if k = 5 ∨ k = 6 then x % n else x % V
def c15 (Y k x : Int) : Int := if k = 3 ∨ k = 4 then x % Y else 0
def op15 (V U Y n : Int) (o : S53) : S53 := if kind15 o.f0 > 5 then ⟨kind15 o.f0, o.f1 % n, ans15 V o.f2, b15 V U n (kind15 o.f0) o.f3, c15 Y (kind15 o.f0) o.f4, vars15 V o.f5, o.f6⟩ else ⟨kind15 o.f0, o.f1 % n, o.f2 % V, b15 V U n (kind15 o.f0) o.f3, c15 Y (kind15 o.f0) o.f4, [], 0⟩
def ops15 (V U Y n : Int) (l : List S53) : List S53 := l.map (op15 V U Y n)
theorem ops15_succ (V U Y n : Int) (l : List S53) (i : Nat) (hi : i < l.length) : ops15 V U Y n (l.take (i + 1)) = ops15 V U Y n (l.take i) ++ [op15 V U Y n (rd_T53 l (i : Int))] := by
  have : rd_T53 l (i : Int) = l[i] := by unfold rd_T53; rw [Int.toNat_natCast, List.getD_eq_getElem?_getD, List.getElem?_eq_getElem hi]; rfl
  unfold ops15
  rw [this, List.take_succ_eq_append_getElem hi, List.map_append]
  rfl
/-- An operation's box. -/
def bx_ (b0 b1 b2 b3 b4 : Int) (v : Value) (h : Nat) : Obj := .cells #[.int .i64 b0, .int .i64 b1, .int .i64 b2, .int .i64 b3, .int .i64 b4, v, .float .f64 h] 53 (0, 0)
theorem bx_all_ {b0 b1 b2 b3 b4 : Int} {v : Value} {e : Nat} {g : Nat} {W : World} (h : W.heap[g]? = some (bx_ b0 b1 b2 b3 b4 v e)) : (W.cell? ⟨g, 0, none⟩ = some (.int .i64 b0) ∧ W.cell? ⟨g, 1, none⟩ = some (.int .i64 b1) ∧ W.cell? ⟨g, 2, none⟩ = some (.int .i64 b2) ∧ W.cell? ⟨g, 3, none⟩ = some (.int .i64 b3) ∧ W.cell? ⟨g, 4, none⟩ = some (.int .i64 b4) ∧ W.cell? ⟨g, 5, none⟩ = some v ∧ W.cell? ⟨g, 6, none⟩ = some (.float .f64 e)) ∧ (W.frozen? ⟨g, 2, none⟩ = false ∧ W.frozen? ⟨g, 3, none⟩ = false ∧ W.frozen? ⟨g, 4, none⟩ = false ∧ W.frozen? ⟨g, 5, none⟩ = false ∧ W.frozen? ⟨g, 6, none⟩ = false) := by
  unfold bx_ at h
  refine ⟨⟨few_cell_ h rfl, few_cell_ h rfl, few_cell_ h rfl, few_cell_ h rfl, few_cell_ h rfl, few_cell_ h rfl, few_cell_ h rfl⟩, ?_, ?_, ?_, ?_, ?_⟩ <;> simp [World.frozen?, h]
section
variable {b0 b1 b2 b3 b4 : Int} {v : Value} {e g : Nat} {W : World} (h : W.heap[g]? = some (bx_ b0 b1 b2 b3 b4 v e))
theorem bx_set2_ (h : W.heap[g]? = some (bx_ b0 b1 b2 b3 b4 v e)) (u : Int) : (W.setCell ⟨g, 2, none⟩ (.int .i64 u)).heap[g]? = some (bx_ b0 b1 u b3 b4 v e) := by simp only [World.setCell, Array.getElem?_modify, h]; simp [bx_]
theorem bx_set3_ (h : W.heap[g]? = some (bx_ b0 b1 b2 b3 b4 v e)) (u : Int) : (W.setCell ⟨g, 3, none⟩ (.int .i64 u)).heap[g]? = some (bx_ b0 b1 b2 u b4 v e) := by simp only [World.setCell, Array.getElem?_modify, h]; simp [bx_]
theorem bx_set4_ (h : W.heap[g]? = some (bx_ b0 b1 b2 b3 b4 v e)) (u : Int) : (W.setCell ⟨g, 4, none⟩ (.int .i64 u)).heap[g]? = some (bx_ b0 b1 b2 b3 u v e) := by simp only [World.setCell, Array.getElem?_modify, h]; simp [bx_]
theorem bx_set5_ (h : W.heap[g]? = some (bx_ b0 b1 b2 b3 b4 v e)) (u : Value) : (W.setCell ⟨g, 5, none⟩ u).heap[g]? = some (bx_ b0 b1 b2 b3 b4 u e) := by simp only [World.setCell, Array.getElem?_modify, h]; simp [bx_]
theorem bx_set6_ (h : W.heap[g]? = some (bx_ b0 b1 b2 b3 b4 v e)) (u : Nat) : (W.setCell ⟨g, 6, none⟩ (.float .f64 u)).heap[g]? = some (bx_ b0 b1 b2 b3 b4 v u) := by simp only [World.setCell, Array.getElem?_modify, h]; simp [bx_]
end
theorem f_far_ {α : Type} {d : Kd α} {n g : Nat} {A : Option Addr} {xs : List α} {ok : Nat → Prop} {W : World} (h : Kd.F d W ok A n xs) (hok : ∀ k, ok k → k ≠ g) (j : Nat) (u : Value) : Kd.F d (W.setCell ⟨g, j, none⟩ u) ok A n xs := fun W' hW' => h W' (fun k hk hlt => (hW' k hk (by simpa [World.setCell] using hlt)).trans (Below.heap_setCell W ⟨g, j, none⟩ u k (hok k hk)))
theorem six15_ {α : Type} {d : Kd α} {n g : Nat} {A : Option Addr} {xs : List α} {ok : Nat → Prop} {W : World} (h : Kd.F d W ok A n xs) (hok : ∀ k, ok k → k ≠ g) (u0 u1 u2 u3 u4 u5 : Value) : Kd.F d ((((((W.setCell ⟨g, 0, none⟩ u0).setCell ⟨g, 1, none⟩ u1).setCell ⟨g, 2, none⟩ u2).setCell ⟨g, 3, none⟩ u3).setCell ⟨g, 4, none⟩ u4).setCell ⟨g, 5, none⟩ u5) ok A n xs := f_far_ (f_far_ (f_far_ (f_far_ (f_far_ (f_far_ h hok 0 u0) hok 1 u1) hok 2 u2) hok 3 u3) hok 4 u4) hok 5 u5
theorem fk53_ {W : World} {ok : Nat → Prop} {A : Option Addr} {n c : Nat} {l : List Int} {b0 b1 b2 b3 b4 : Int} {e : Nat} (hn : n = l.length) (hc : n ≤ c) (h : Kd.F (Kd.int .i64) W ok A n l) : Kd.FK k53 W ok ⟨b0, b1, b2, b3, b4, l, e⟩ [.int .i64 b0, .int .i64 b1, .int .i64 b2, .int .i64 b3, .int .i64 b4, .slice A n c, .float .f64 e] := fun W' hW' => by
  subst hn
  exact ⟨[_], _, rfl, rfl, [_], _, rfl, rfl, [_], _, rfl, rfl, [_], _, rfl, rfl, [_], _, rfl, rfl, [_], [_], rfl, ⟨A, c, rfl, hc, h W' hW'⟩, rfl⟩
def rt15.T35 : Bool × List (List Nat × List Nat) := (true, [([], []), ([], []), ([1], [1]), ([0, 2], [0, 2]), ([], []), ([], []), ([5], [5]), ([4, 6, 3], [4, 6]), ([], []), ([8], [8]), ([0, 1, 2, 3], []), ([10, 3, 7, 0, 1, 2, 3], [3, 10]), ([0, 1, 2, 3, 4, 5, 6, 7, 10, 11], []), ([12, 7, 11, 0, 1, 2, 3, 4, 5, 6, 7, 10, 11], [7, 12]), ([0, 1, 2, 3, 4, 5, 6, 7, 8, 9, 10, 11, 12, 13], []), ([14, 9, 13, 0, 1, 2, 3, 4, 5, 6, 7, 8, 9, 10, 11, 12, 13], [9, 14])])
def rt15.B35 : List Nat := [0, 0, 2, 7, 0, 0, 32, 127, 0, 256, 15, 1279, 3327, 7423, 16383, 32767]
theorem rt15.tab35 : rtab .any (opsOf Try.f12 35) = rt15.T35 := by kernel_rfl
theorem rt15.bits35 : waitsOk rt15.T35.2 rt15.B35 = true := by kernel_rfl
/-- The statement behind n others. -/
def dropSeq15 : Nat → Code → Code
  | 0, c => c
  | n + 1, .seq _ b => dropSeq15 n b
  | _ + 1, c => c
/-- What Right makes. -/
def right15 (a0 a1 a2 : Int) (l3 : List S52) (l4 : List Int) (l5 : List S53) (ops : Int) : Int × Int × Int × List S52 × List Int × List S53 :=
  (1 + a0 % 30, 1 + a1 % 12, 1 + a2 % 6, fun15g (1 + a0 % 30) l3, ent15 ((fun15g (1 + a0 % 30) l3).length : Int) l4 (fun15g (1 + a0 % 30) l3).length, ops15 (1 + a0 % 30) (1 + a1 % 12) (1 + a2 % 6) ((fun15g (1 + a0 % 30) l3).length : Int) (l5.take ops.toNat))
set_option maxRecDepth 100000 in
/-- From the last loop on. -/
def OpsSaid : Prop := ∀ (a0 a1 a2 : Int) (A3 : Option Addr) (c3 n3 : Nat) (l3 : List S52) (A4 : Option Addr) (c4 n4 : Nat) (l4 : List Int) (A5 : Option Addr) (c5 n5 : Nat) (l5 : List S53) (ops V U Y : Int) (w wc : World) (gp gz gq lo nf c3' : Nat) (A3' : Option Addr) (hop : ops ≤ 1000) (hr5 : Kd.C k53 w A5 l5.length l5) (hn5 : n5 = l5.length) (x5 : n5 ≤ 9223372036854775807) (bv : 1 ≤ V ∧ V ≤ 30) (bu : 1 ≤ U ∧ U ≤ 12) (by_ : 1 ≤ Y ∧ Y ≤ 6) (bf : 1 ≤ nf ∧ nf ≤ 8) (tv : V = 1 + a0 % 30) (tu_ : U = 1 + a1 % 12) (ty_ : Y = 1 + a2 % 6) (hnf : nf = (fun15g V l3).length) (hgp : w.heap.size ≤ gp) (hgz : w.heap.size ≤ gz) (hgq : w.heap.size ≤ gq) (hpz : gp ≠ gz) (hpq : gp ≠ gq) (hzq_ : gz ≠ gq) (hlo_ : gp < lo ∧ gz < lo ∧ gq < lo ∧ w.heap.size ≤ lo) (hcut : ∃ v4, Rw1_ w gp gz gq a0 a1 a2 V U Y (.slice A3 n3 c3) (.slice A4 n4 c4) (.slice A5 n5 c5) (.slice A3' nf c3') v4 (.slice none 0 0) wc ∧ Kd.N k52 52 wc w.heap.size (fun k => ((k ≠ gq ∧ k ≠ gz) ∧ w.heap.size ≤ k) ∧ k < lo) (.slice A3' nf c3') (fun15g V l3) ∧ Kd.N (Kd.int .i64) 3 wc lo (fun k => (k ≠ gq ∧ k ≠ gz) ∧ lo ≤ k) v4 (ent15 (nf : Int) l4 nf) ∧ lo ≤ wc.heap.size) (u3 u8 u9 u10 u11 u12 u13 u14 u15 u16 u17 u18 u19 u20 u21 u22 u23 u24 u25 u26 u27 u28 u29 u30 u31 u32 u33 u34 u35 u36 u37 u38 u39 u40 u41 u42 u43 u44 u45 u46 u47 u48 u49 u50 u51 u52 u53 u54 u55 u56 u57 u58 u59 u60 u61 u62 u63 u64 u65 u66 u67 u68 u69 u70 u71 u72 u73 u74 u75 u76 u77 u78 u79 u80 u81 u82 u83 u84 u85 u86 u87 u88 u89 u90 u91 u92 u93 u94 u95 u96 u97 u98 u99 u100 u101 u102 u103 u104 u105 u106 u107 u108 u109 u110 u111 u112 u113 u114 u115 u116 u117 u118 u119 u120 u121 u122 u123 u124 u125 u126 u127 u128 u129 u130 u131 u132 u133 u134 u135 u136 u137 u138 u139 u140 u141 u142 u143 u144 u145 u146 u147 u148 u149 u150 u151 u152 u153 u154 u155 u156 u157 u158 u159 u160 u161 u162 u163 u164 u165 u166 u167 u168 u169 u170 u171 u172 u173 u174 u175 u176 u177 u178 u179 u180 u181 u182 u183 u184 u185 u186 u187 u188 u189 u190 u191 u192 u193 u194 u195 u196 u197 u198 u199 u200 u201 u202 u203 u204 u205 u206 u207 : Value), Code.wp Try.prog (dropSeq15 7 (Try.f12.body.getD .skip)) (bodyPost Try.prog Try.f12 fun e w' => ∃ V U Y nf EL OL B3 d3 B4 ne d4 B5 no d5, e = .returned (.agg #[.int .i64 V, .int .i64 U, .int .i64 Y, .slice B3 nf d3, .slice B4 ne d4, .slice B5 no d5]) ∧ (V = 1 + a0 % 30 ∧ U = 1 + a1 % 12 ∧ Y = 1 + a2 % 6 ∧ nf = (fun15g V l3).length ∧ EL = ent15 (nf : Int) l4 nf ∧ OL = ops15 V U Y (nf : Int) (l5.take ops.toNat)) ∧ (Kd.F k52 w' (fun k => w.heap.size ≤ k) B3 nf (fun15g V l3) ∧ nf ≤ d3) ∧ (ne = EL.length ∧ Kd.F (Kd.int .i64) w' (fun k => w.heap.size ≤ k) B4 ne EL ∧ ne ≤ d4) ∧ (no = OL.length ∧ Kd.F k53 w' (fun k => w.heap.size ≤ k) B5 no OL ∧ no ≤ d5) ∧ Below w.heap.size w w') ⟨#[Value.agg #[.int .i64 a0, .int .i64 a1, .int .i64 a2, .slice A3 n3 c3, .slice A4 n4 c4, .slice A5 n5 c5], Value.int .i64 ops, Value.pointer (some ⟨gp, 0, none⟩), u3, Value.pointer (some ⟨gz, 0, none⟩), Value.pointer (some ⟨gq, 0, none⟩), Value.func (.func 29) #[] #[.pointer (some ⟨gq, 0, none⟩)], Value.func (.func 30) #[] #[.pointer (some ⟨gq, 0, none⟩)], u8, u9, u10, u11, u12, u13, u14, u15, u16, u17, u18, u19, u20, u21, u22, u23, u24, u25, u26, u27, u28, u29, u30, u31, u32, u33, u34, u35, u36, u37, u38, u39, u40, u41, u42, u43, u44, u45, u46, u47, u48, u49, u50, u51, u52, u53, u54, u55, u56, u57, u58, u59, u60, u61, u62, u63, u64, u65, u66, u67, u68, u69, u70, u71, u72, u73, u74, u75, u76, u77, u78, u79, u80, u81, u82, u83, u84, u85, u86, u87, u88, u89, u90, u91, u92, u93, u94, u95, u96, u97, u98, u99, u100, u101, u102, u103, u104, u105, u106, u107, u108, u109, u110, u111, u112, u113, u114, u115, u116, u117, u118, u119, u120, u121, u122, u123, u124, u125, u126, u127, u128, u129, u130, u131, u132, u133, u134, u135, u136, u137, u138, u139, u140, u141, u142, u143, u144, u145, u146, u147, u148, u149, u150, u151, u152, u153, u154, u155, u156, u157, u158, u159, u160, u161, u162, u163, u164, u165, u166, u167, u168, u169, u170, u171, u172, u173, u174, u175, u176, u177, u178, u179, u180, u181, u182, u183, u184, u185, u186, u187, u188, u189, u190, u191, u192, u193, u194, u195, u196, u197, u198, u199, u200, u201, u202, u203, u204, u205, u206, u207], []⟩ wc
set_option maxRecDepth 100000 in
/-- From the loop of the entries on. -/
def EntSaid : Prop := ∀ (a0 a1 a2 : Int) (A3 : Option Addr) (c3 n3 : Nat) (l3 : List S52) (A4 : Option Addr) (c4 n4 : Nat) (l4 : List Int) (A5 : Option Addr) (c5 n5 : Nat) (l5 : List S53) (ops V U Y : Int) (w wc : World) (gp gz gq : Nat) (hop : ops ≤ 1000) (hr4 : Kd.C (Kd.int .i64) w A4 l4.length l4) (hn4 : n4 = l4.length) (x4 : n4 ≤ 9223372036854775807) (hr5 : Kd.C k53 w A5 l5.length l5) (hn5 : n5 = l5.length) (x5 : n5 ≤ 9223372036854775807) (bv : 1 ≤ V ∧ V ≤ 30) (bu : 1 ≤ U ∧ U ≤ 12) (by_ : 1 ≤ Y ∧ Y ≤ 6) (tv : V = 1 + a0 % 30) (tu_ : U = 1 + a1 % 12) (ty_ : Y = 1 + a2 % 6) (hgp : w.heap.size ≤ gp) (hgz : w.heap.size ≤ gz) (hgq : w.heap.size ≤ gq) (hpz : gp ≠ gz) (hpq : gp ≠ gq) (hzq_ : gz ≠ gq) (hcut : ∃ v3, Rw1_ w gp gz gq a0 a1 a2 V U Y (.slice A3 n3 c3) (.slice A4 n4 c4) (.slice A5 n5 c5) v3 (.slice none 0 0) (.slice none 0 0) wc ∧ Kd.N k52 52 wc w.heap.size (fun k => (k ≠ gq ∧ k ≠ gz) ∧ w.heap.size ≤ k) v3 (fun15g V l3)) (u3 u8 u9 u10 u11 u12 u13 u14 u15 u16 u17 u18 u19 u20 u21 u22 u23 u24 u25 u26 u27 u28 u29 u30 u31 u32 u33 u34 u35 u36 u37 u38 u39 u40 u41 u42 u43 u44 u45 u46 u47 u48 u49 u50 u51 u52 u53 u54 u55 u56 u57 u58 u59 u60 u61 u62 u63 u64 u65 u66 u67 u68 u69 u70 u71 u72 u73 u74 u75 u76 u77 u78 u79 u80 u81 u82 u83 u84 u85 u86 u87 u88 u89 u90 u91 u92 u93 u94 u95 u96 u97 u98 u99 u100 u101 u102 u103 u104 u105 u106 u107 u108 u109 u110 u111 u112 u113 u114 u115 u116 u117 u118 u119 u120 u121 u122 u123 u124 u125 u126 u127 u128 u129 u130 u131 u132 u133 u134 u135 u136 u137 u138 u139 u140 u141 u142 u143 u144 u145 u146 u147 u148 u149 u150 u151 u152 u153 u154 u155 u156 u157 u158 u159 u160 u161 u162 u163 u164 u165 u166 u167 u168 u169 u170 u171 u172 u173 u174 u175 u176 u177 u178 u179 u180 u181 u182 u183 u184 u185 u186 u187 u188 u189 u190 u191 u192 u193 u194 u195 u196 u197 u198 u199 u200 u201 u202 u203 u204 u205 u206 u207 : Value), Code.wp Try.prog (dropSeq15 6 (Try.f12.body.getD .skip)) (bodyPost Try.prog Try.f12 fun e w' => ∃ V U Y nf EL OL B3 d3 B4 ne d4 B5 no d5, e = .returned (.agg #[.int .i64 V, .int .i64 U, .int .i64 Y, .slice B3 nf d3, .slice B4 ne d4, .slice B5 no d5]) ∧ (V = 1 + a0 % 30 ∧ U = 1 + a1 % 12 ∧ Y = 1 + a2 % 6 ∧ nf = (fun15g V l3).length ∧ EL = ent15 (nf : Int) l4 nf ∧ OL = ops15 V U Y (nf : Int) (l5.take ops.toNat)) ∧ (Kd.F k52 w' (fun k => w.heap.size ≤ k) B3 nf (fun15g V l3) ∧ nf ≤ d3) ∧ (ne = EL.length ∧ Kd.F (Kd.int .i64) w' (fun k => w.heap.size ≤ k) B4 ne EL ∧ ne ≤ d4) ∧ (no = OL.length ∧ Kd.F k53 w' (fun k => w.heap.size ≤ k) B5 no OL ∧ no ≤ d5) ∧ Below w.heap.size w w') ⟨#[Value.agg #[.int .i64 a0, .int .i64 a1, .int .i64 a2, .slice A3 n3 c3, .slice A4 n4 c4, .slice A5 n5 c5], Value.int .i64 ops, Value.pointer (some ⟨gp, 0, none⟩), u3, Value.pointer (some ⟨gz, 0, none⟩), Value.pointer (some ⟨gq, 0, none⟩), Value.func (.func 29) #[] #[.pointer (some ⟨gq, 0, none⟩)], Value.func (.func 30) #[] #[.pointer (some ⟨gq, 0, none⟩)], u8, u9, u10, u11, u12, u13, u14, u15, u16, u17, u18, u19, u20, u21, u22, u23, u24, u25, u26, u27, u28, u29, u30, u31, u32, u33, u34, u35, u36, u37, u38, u39, u40, u41, u42, u43, u44, u45, u46, u47, u48, u49, u50, u51, u52, u53, u54, u55, u56, u57, u58, u59, u60, u61, u62, u63, u64, u65, u66, u67, u68, u69, u70, u71, u72, u73, u74, u75, u76, u77, u78, u79, u80, u81, u82, u83, u84, u85, u86, u87, u88, u89, u90, u91, u92, u93, u94, u95, u96, u97, u98, u99, u100, u101, u102, u103, u104, u105, u106, u107, u108, u109, u110, u111, u112, u113, u114, u115, u116, u117, u118, u119, u120, u121, u122, u123, u124, u125, u126, u127, u128, u129, u130, u131, u132, u133, u134, u135, u136, u137, u138, u139, u140, u141, u142, u143, u144, u145, u146, u147, u148, u149, u150, u151, u152, u153, u154, u155, u156, u157, u158, u159, u160, u161, u162, u163, u164, u165, u166, u167, u168, u169, u170, u171, u172, u173, u174, u175, u176, u177, u178, u179, u180, u181, u182, u183, u184, u185, u186, u187, u188, u189, u190, u191, u192, u193, u194, u195, u196, u197, u198, u199, u200, u201, u202, u203, u204, u205, u206, u207], []⟩ wc
/-- The whole. -/
def GotSaid : Prop := ∀ (a0 a1 a2 : Int) (A3 : Option Addr) (c3 : Nat) (l3 : List S52) (A4 : Option Addr) (c4 : Nat) (l4 : List Int) (A5 : Option Addr) (c5 : Nat) (l5 : List S53) (ops : Int) (hop : ops ≤ 1000) (w : World) (hr3 : Kd.C k52 w A3 l3.length l3) (hc3 : l3.length ≤ c3) (hr4 : Kd.C (Kd.int .i64) w A4 l4.length l4) (hc4 : l4.length ≤ c4) (hr5 : Kd.C k53 w A5 l5.length l5) (hc5 : l5.length ≤ c5), Calls Try.prog 12 #[.agg #[.int .i64 a0, .int .i64 a1, .int .i64 a2, .slice A3 l3.length c3, .slice A4 l4.length c4, .slice A5 l5.length c5], .int .i64 ops] w fun e w' => ∃ V U Y nf EL OL B3 d3 B4 ne d4 B5 no d5, e = .returned (.agg #[.int .i64 V, .int .i64 U, .int .i64 Y, .slice B3 nf d3, .slice B4 ne d4, .slice B5 no d5]) ∧ (V = 1 + a0 % 30 ∧ U = 1 + a1 % 12 ∧ Y = 1 + a2 % 6 ∧ nf = (fun15g V l3).length ∧ EL = ent15 (nf : Int) l4 nf ∧ OL = ops15 V U Y (nf : Int) (l5.take ops.toNat)) ∧ (Kd.F k52 w' (fun k => w.heap.size ≤ k) B3 nf (fun15g V l3) ∧ nf ≤ d3) ∧ (ne = EL.length ∧ Kd.F (Kd.int .i64) w' (fun k => w.heap.size ≤ k) B4 ne EL ∧ ne ≤ d4) ∧ (no = OL.length ∧ Kd.F k53 w' (fun k => w.heap.size ≤ k) B5 no OL ∧ no ≤ d5) ∧ Below w.heap.size w w'
/-- The same, told by the function right15. -/
def RightSaid : Prop := ∀ (a0 a1 a2 : Int) (A3 : Option Addr) (c3 : Nat) (l3 : List S52) (A4 : Option Addr) (c4 : Nat) (l4 : List Int) (A5 : Option Addr) (c5 : Nat) (l5 : List S53) (ops : Int) (hop : ops ≤ 1000) (w : World) (hr3 : Kd.C k52 w A3 l3.length l3) (hc3 : l3.length ≤ c3) (hr4 : Kd.C (Kd.int .i64) w A4 l4.length l4) (hc4 : l4.length ≤ c4) (hr5 : Kd.C k53 w A5 l5.length l5) (hc5 : l5.length ≤ c5) (V U Y : Int) (G : List S52) (E : List Int) (O : List S53) (h : right15 a0 a1 a2 l3 l4 l5 ops = (V, U, Y, G, E, O)), Calls Try.prog 12 #[.agg #[.int .i64 a0, .int .i64 a1, .int .i64 a2, .slice A3 l3.length c3, .slice A4 l4.length c4, .slice A5 l5.length c5], .int .i64 ops] w fun e w' => ∃ B3 d3 B4 d4 B5 d5, e = .returned (.agg #[.int .i64 V, .int .i64 U, .int .i64 Y, .slice B3 G.length d3, .slice B4 E.length d4, .slice B5 O.length d5]) ∧ (Kd.F k52 w' (fun k => w.heap.size ≤ k) B3 G.length G ∧ G.length ≤ d3) ∧ (Kd.F (Kd.int .i64) w' (fun k => w.heap.size ≤ k) B4 E.length E ∧ E.length ≤ d4) ∧ (Kd.F k53 w' (fun k => w.heap.size ≤ k) B5 O.length O ∧ O.length ≤ d5) ∧ Below w.heap.size w w'
end Go.Proofs.Ytgfjjhfkgfnpaaa.PB

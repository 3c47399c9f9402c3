-- Written by this session's own program wip/bin/dprint.py, over the kit's print.py, with own texts for some functions: no print of print.sh's
import Derived.Test.YtiikmomjggcdfaaPAx0
import Derived.Test.YtiikmomjggcdfaaPAx1
import Derived.Test.YtiikmomjggcdfaaPAx2
namespace Go.Proofs.Ytiikmomjggcdfaa.PA
open Go.RowKit Go.Proofs.YtiikmomjggcdfaaW.PrintWords Go.Proofs.YtiikmomjggcdfaaW.PrintLast Go.Proofs.YtiikmomjggcdfaaW.PrintMore
attribute [local go_sem] max2_int min2_int max_two min_two max_three min_three max_four min_four   -- for this text's walks alone
set_option linter.unusedVariables false
set_option linter.unusedSimpArgs false


/-! ### heat_Rank: function 15 (own text) -/
section
/-- what Compare tells of two places of a list -/
def rankCf (l : List Nat) (x y : Fin l.length) : Int := (heat_Compare.f (rdOf (0 : Nat) l (y.val : Int)) (rdOf (0 : Nat) l (x.val : Int))).getD 0
set_option maxHeartbeats 4000000 in
set_option maxRecDepth 100000 in
theorem rankClosure (A0 : Option Addr) (c0 : Nat) (l : List Nat) (x y : Fin l.length) (p : Nat) (w : World) (hr0 : Kd.C kFloat w A0 l.length l) (hc0 : l.length ≤ c0) (hp : w.cell? ⟨p, 0, none⟩ = some (.slice A0 l.length c0)) (htot : ∀ a b, ∃ r, heat_Compare.f a b = some r) :
    Calls Try.prog 35 #[.int .i64 (x.val : Int), .int .i64 (y.val : Int), .pointer (some ⟨p, 0, none⟩)] w fun e w' => e = .returned (.int .i64 (rankCf l x y)) ∧ Drawn0 w w' := by
  obtain ⟨r, hr⟩ := htot (rdOf (0 : Nat) l (y.val : Int)) (rdOf (0 : Nat) l (x.val : Int))
  have er : rankCf l x y = r := by unfold rankCf; rw [hr]; rfl
  rw [er]
  have A1 := Aside0.mk hr
  clear hr er htot
  have bx := x.isLt
  have by_ := y.isLt
  obtain ⟨ad, rfl, hx⟩ := at_kFloat hr0 (x.val : Int) (by omega) (by omega)
  obtain ⟨ad', e1, hy⟩ := at_kFloat hr0 (y.val : Int) (by omega) (by omega)
  obtain rfl : ad = ad' := by injection e1
  clear e1
  obtain ⟨X, hX⟩ : ∃ X : Int, X = (x.val : Int) := ⟨_, rfl⟩
  obtain ⟨Y, hY⟩ : ∃ Y : Int, Y = (y.val : Int) := ⟨_, rfl⟩
  have x0 : 0 ≤ X := by omega
  have x1 : X < (l.length : Int) := by omega
  have y0 : 0 ≤ Y := by omega
  have y1 : Y < (l.length : Int) := by omega
  rw [← hX] at hx A1 ⊢
  rw [← hY] at hy A1 ⊢
  clear hX hY bx by_
  go_enter Try.func35, Try.ntmps35
  go_wp2_with fail
  go_quiet (first | (go_at_call 11; (with_reducible refine (heat_Compare.calls _ _ r _ A1.out).mono ?_); rintro e w' ⟨rfl, ⟨nd, rfl⟩⟩; (try first | exact ⟨rfl, _, World.drewN_drewN _ _ _⟩ | exact ⟨rfl, _, Eq.trans (World.drewN_drewN _ _ _) (congrArg (World.drewN _) (Nat.add_assoc _ _ _))⟩)))
  go_wp2
  go_ret
  exact ⟨rfl, by repeat (first | exact Drawn0.refl _ | apply Drawn0.step)⟩
open Go.Shelf Go.Lib Go.Sort
theorem ins_nothing {α : Type} [Inhabited α] (lt : α → α → Bool) (d : Array α) (a b : Nat) (h : b ≤ a + 1) : Sort.insertionSort lt d a b = d := by
  unfold Sort.insertionSort; rw [insOuter_stop _ _ _ _ _ (by omega)]
theorem insInner_sz {α : Type} [Inhabited α] (lt : α → α → Bool) (a : Nat) : ∀ (j : Nat) (d : Array α), (insInner lt a j d).size = d.size
  | 0, _ => rfl
  | j + 1, d => by
    unfold insInner
    split
    · rw [insInner_sz lt a j, size_swp]
    · rfl
theorem insOuter_sz {α : Type} [Inhabited α] (lt : α → α → Bool) (a b : Nat) : ∀ (n i : Nat) (d : Array α), b - i ≤ n → (insOuter lt a b i d).size = d.size
  | 0, i, d, h => by rw [insOuter, if_neg (by omega)]
  | n + 1, i, d, h => by
    rw [insOuter]
    split
    · rw [insOuter_sz lt a b n _ _ (by omega), insInner_sz]
    · rfl
theorem ins_sz {α : Type} [Inhabited α] (lt : α → α → Bool) (d : Array α) (a b : Nat) : (Sort.insertionSort lt d a b).size = d.size := insOuter_sz _ _ _ _ _ _ (Nat.le_refl _)
set_option maxHeartbeats 4000000 in
set_option maxRecDepth 100000 in
theorem stableShort {α : Type} [Inhabited α] (enc : α → Value) (cf : α → α → Int) (g : Nat) (cb : Array Value) (blk cap : Nat) (d0 : Array α) (w0 w : World)
    (eg : ∀ args w, (callFunc g args).run Try.prog w = .ok (.enter g args) w) (hcmp : CmpLays1 Try.prog g cb enc cf blk 0 d0.size w0) (R : Row1 enc w0 blk 0 d0) (S : SW enc w0 blk 0 d0 w) (hn : d0.size ≤ 20) :
    Calls Try.prog 43 #[.slice (some ⟨blk, 0, none⟩) d0.size cap, .int .i64 (d0.size : Int), .func (.func g) #[] cb] w fun e w' => e = .returned (.tuple #[]) ∧ SW enc w0 blk 0 (Sort.insertionSort (ltOf cf) d0 0 d0.size) w' := by
  obtain ⟨N, hN⟩ : ∃ N : Int, N = (d0.size : Int) := ⟨_, rfl⟩
  have hins : ∀ w1, SW enc w0 blk 0 d0 w1 → Calls Try.prog 46 #[.slice (some ⟨blk, 0, none⟩) d0.size cap, .int .i64 0, .int .i64 N, .func (.func g) #[] cb] w1 fun e w' => e = .returned (.tuple #[]) ∧ SW enc w0 blk 0 (Sort.insertionSort (ltOf cf) d0 0 d0.size) w' := fun w1 S1 => by
    rw [hN]; exact Try.insertionSortCmpFunc_s enc cf g cb blk 0 cap 0 d0.size d0 d0 w0 w1 eg hcmp R rfl S1 (Nat.zero_le _) (Nat.le_refl _) (by omega)
  obtain ⟨D, hD⟩ : ∃ D, D = Sort.insertionSort (ltOf cf) d0 0 d0.size := ⟨_, rfl⟩
  have hDs : N = 20 → D.size = d0.size := fun e => by rw [hD]; exact ins_sz _ _ _ _
  have hend : N = 20 → ∀ w1, SW enc w0 blk 0 D w1 → Calls Try.prog 46 #[.slice (some ⟨blk, 0, none⟩) d0.size cap, .int .i64 20, .int .i64 N, .func (.func g) #[] cb] w1 fun e w' => e = .returned (.tuple #[]) ∧ SW enc w0 blk 0 D w' := fun e w1 S1 => by
    have := Try.insertionSortCmpFunc_s enc cf g cb blk 0 cap 20 20 d0 D w0 w1 eg hcmp R (hDs e).symm S1 (Nat.le_refl _) (by have := hDs e; omega) (by have := hDs e; omega)
    rw [ins_nothing _ _ _ _ (by omega), hDs e] at this
    rw [e]; exact this
  rw [← hN, ← hD]
  rw [← hD] at hins
  have c0 : N ≤ 20 := by omega
  have c2 : ¬ (20 : Int) < N := by omega
  have HI := Aside0.mk hins
  have HE := Aside0.mk hend
  have SS := Aside0.mk S
  clear hins hend hDs S hcmp R hN hD hn
  go_enter Try.func43, Try.ntmps43
  go_wp2_with fail
  go_loopg [7, 8] 1 (fun k v7 v8 w' => (v7 = .int .i64 0 ∧ v8 = .int .i64 20 ∧ k = 1 ∧ Aside0 (SW enc w0 blk 0 d0 w')) ∨ (v7 = .int .i64 20 ∧ v8 = .int .i64 40 ∧ k = 0 ∧ N = 20 ∧ Aside0 (SW enc w0 blk 0 D w')))
  case atStart => exact .inl ⟨rfl, rfl, rfl, SS⟩
  case round =>
    clear SS
    rcases hrel with ⟨rfl, rfl, rfl, S1⟩ | ⟨rfl, rfl, rfl, rfl, S1⟩
    · by_cases e : N = 20
      · subst e
        go_wp2_with (first | (go_at_call 46; refine (HI.out _ (by first | exact S1.out)).mono ?_; rintro e w2 ⟨rfl, S2⟩; have S3 := Aside0.mk S2; clear S2 S1))
        go_roundg 0
        case measure => omega
        case rel => exact .inr ⟨rfl, rfl, rfl, trivial, S3⟩
      · have c1 : ¬ (20 : Int) ≤ N := by omega
        go_wp2_with (first | (go_at_call 46; refine (HI.out _ (by first | exact S1.out)).mono ?_; rintro e w2 ⟨rfl, S2⟩; have S3 := Aside0.mk S2; clear S2 S1))
        go_loopg [6] 0 (fun k v6 w' => v6 = .int .i64 20 ∧ Aside0 (SW enc w0 blk 0 D w'))
        case atStart => exact ⟨rfl, S3⟩
        case round =>
          obtain ⟨rfl, hS⟩ := hrel
          go_wp2
          go_end0
          exact ⟨rfl, hS.out⟩
    · go_wp2_with (first | (go_at_call 46; refine (HE.out rfl _ (by first | exact S1.out)).mono ?_; rintro e w2 ⟨rfl, S2⟩; have S3 := Aside0.mk S2; clear S2 S1))
      go_loopg [6] 0 (fun k v6 w' => v6 = .int .i64 20 ∧ Aside0 (SW enc w0 blk 0 D w'))
      case atStart => exact ⟨rfl, S3⟩
      case round =>
        obtain ⟨rfl, hS⟩ := hrel
        go_wp2
        go_end0
        exact ⟨rfl, hS.out⟩
set_option maxHeartbeats 4000000 in
set_option maxRecDepth 100000 in
theorem sortStableShort {α : Type} [Inhabited α] (enc : α → Value) (cf : α → α → Int) (g : Nat) (cb : Array Value) (blk cap : Nat) (d0 : Array α) (w0 w : World)
    (eg : ∀ args w, (callFunc g args).run Try.prog w = .ok (.enter g args) w) (hcmp : CmpLays1 Try.prog g cb enc cf blk 0 d0.size w0) (R : Row1 enc w0 blk 0 d0) (S : SW enc w0 blk 0 d0 w) (hn : d0.size ≤ 20) :
    Calls Try.prog 34 #[.slice (some ⟨blk, 0, none⟩) d0.size cap, .func (.func g) #[] cb] w fun e w' => e = .returned (.tuple #[]) ∧ SW enc w0 blk 0 (Sort.insertionSort (ltOf cf) d0 0 d0.size) w' := by
  have hs := stableShort enc cf g cb blk cap d0 w0 w eg hcmp R S hn
  have HS := Aside0.mk hs
  clear hs S hcmp R hn
  go_enter Try.func34, Try.ntmps34
  go_wp2_with (first | (go_at_call 43; refine HS.out.mono ?_; rintro e w2 ⟨rfl, S2⟩; have S3 := Aside0.mk S2; clear S2))
  go_end0
  exact ⟨rfl, S3.out⟩
theorem stableNone_ (g : Nat) (cb : Array Value) (c : Nat) (w : World) : True := trivial
open Go.Shelf Go.Lib Go.Sort
set_option maxHeartbeats 4000000 in
set_option maxRecDepth 100000 in
theorem insNone (g : Nat) (cb : Array Value) (w : World) :
    Calls Try.prog 46 #[.slice none 0 0, .int .i64 0, .int .i64 0, .func (.func g) #[] cb] w fun e w' => e = .returned (.tuple #[]) ∧ Drawn0 w w' := by
  go_enter Try.func46, Try.ntmps46
  go_wp2_with fail
  go_loopg [8] 0 (fun k v8 w' => v8 = .int .i64 1 ∧ w' = w)
  case atStart => exact ⟨rfl, rfl⟩
  case round =>
    obtain ⟨rfl, rfl⟩ := hrel
    go_wp2
    go_end0
    exact ⟨rfl, Drawn0.refl _⟩
set_option maxHeartbeats 4000000 in
set_option maxRecDepth 100000 in
theorem stableNone (g : Nat) (cb : Array Value) (w : World) :
    Calls Try.prog 43 #[.slice none 0 0, .int .i64 0, .func (.func g) #[] cb] w fun e w' => e = .returned (.tuple #[]) ∧ Drawn0 w w' := by
  go_enter Try.func43, Try.ntmps43
  go_wp2_with fail
  go_loopg [7, 8] 0 (fun k v7 v8 w' => v7 = .int .i64 0 ∧ v8 = .int .i64 20 ∧ w' = w)
  case atStart => exact ⟨rfl, rfl, rfl⟩
  case round =>
    obtain ⟨rfl, rfl, rfl⟩ := hrel
    go_wp2_with (first | (go_at_call 46; (with_reducible refine (insNone g cb _).mono ?_); rintro e w' ⟨rfl, ⟨nd, rfl⟩⟩))
    go_loopg [6] 0 (fun k v6 w' => v6 = .int .i64 20 ∧ ∃ n, w' = wr.drewN n)
    case atStart => exact ⟨rfl, _, rfl⟩
    case round =>
      obtain ⟨rfl, n, rfl⟩ := hrel
      go_wp2
      go_end0
      exact ⟨rfl, _, rfl⟩
set_option maxHeartbeats 4000000 in
set_option maxRecDepth 100000 in
theorem sortStableNone (g : Nat) (cb : Array Value) (w : World) :
    Calls Try.prog 34 #[.slice none 0 0, .func (.func g) #[] cb] w fun e w' => e = .returned (.tuple #[]) ∧ Drawn0 w w' := by
  go_enter Try.func34, Try.ntmps34
  go_wp2_with (first | (go_at_call 43; (with_reducible refine (stableNone g cb _).mono ?_); rintro e w' ⟨rfl, ⟨nd, rfl⟩⟩))
  go_end0
  exact ⟨rfl, _, rfl⟩
open Go.Shelf Go.Lib Go.Sort
namespace Srt
variable {α : Type} [Inhabited α] {enc : α → Value}
theorem holds_of_block {w : World} {g : Nat} {cur : Array Value} {e : TypeId} {ss : List α} (hb : w.heap[g]? = some (.cells cur e (0, 0))) (ht : cur.toList.take ss.length = ss.map enc) : Holds enc w g 0 ss.toArray := by
  intro j hj
  have hj' : j < ss.length := by simpa using hj
  refine ⟨?_, by simp [World.frozen?, hb]⟩
  have h1 : (cur.toList.take ss.length)[j]? = (ss.map enc)[j]? := by rw [ht]
  rw [List.getElem?_take_of_lt hj'] at h1
  simp only [World.cell?, hb, Nat.zero_add]
  simp only [Option.isSome_none, Bool.false_eq_true, if_false]
  rw [← Array.getElem?_toList, h1]
  simp [hj']
theorem heap_sorted {w : World} {g n : Nat} {os : Array Obj} {cur : Array Value} {e : TypeId} {fr : Nat × Nat} (d : Array α) (hb : w.heap[g]? = some (.cells cur e fr)) :
    (grow (putRow enc (Sort.ahead w n) g 0 d) os).heap[g]? = some (.cells (putCells enc 0 d cur) e fr) := by
  have hg : g < w.heap.size := (Array.getElem?_eq_some_iff.1 hb).1
  rw [heap_grow_old _ _ (by simpa using hg)]
  simp [putRow, mapBlock, Sort.ahead, Array.getElem?_modify, hb, onCells]
theorem grownBy_sorted {w : World} {g n : Nat} {os : Array Obj} (d : Array α) : w.grownBy (grow (putRow enc (Sort.ahead w n) g 0 d) os) (some g) := by
  refine ⟨rfl, rfl, rfl, by simp, fun k hk hne => ?_⟩
  rw [heap_grow_old _ _ (by simpa using hk)]
  have : g ≠ k := fun e => hne (by rw [e])
  simp [putRow, mapBlock, Sort.ahead, Array.getElem?_modify, this]
theorem take_putCells (cur : Array Value) (ts : List α) (h : ts.length ≤ cur.size) : (putCells enc 0 ts.toArray cur).toList.take ts.length = ts.map enc := by
  apply List.ext_getElem?
  intro j
  by_cases hj : j < ts.length
  · rw [List.getElem?_take_of_lt hj, Array.getElem?_toList]
    simp [putCells, hj, show j < cur.size by omega]
  · rw [List.getElem?_take_eq_none (by omega), List.getElem?_eq_none (by simp; omega)]
theorem ownsRow_sorted {w : World} {base g cap n N : Nat} {e : TypeId} {os : Array Obj} {cur : Array Value} {ts : List α} (hl : ts.length = N) (hbase : base ≤ g) (hb : w.heap[g]? = some (.cells cur e (0, 0)))
    (h1 : N ≤ cap) (h2 : cap ≤ maxLen) (h3 : cur.size = cap * 1) :
    (grow (putRow enc (Sort.ahead w n) g 0 ts.toArray) os).ownsRow base e 1 (.slice (some ⟨g, 0, none⟩) N cap) N (ts.map enc) :=
  ⟨by simp [hl], .inr ⟨g, cap, _, rfl, hbase, heap_sorted _ hb, h1, h2, by simp [putCells, h3], by rw [Nat.mul_one, ← hl]; exact take_putCells cur ts (by omega)⟩⟩
end Srt
open Go.Shelf Go.Lib Go.Sort
def rankL (l : List Nat) : List Int := if h : 0 < l.length then (haveI : Inhabited (Fin l.length) := ⟨⟨0, h⟩⟩; ((Sort.insertionSort (ltOf (rankCf l)) ((List.finRange l.length).toArray) 0 l.length).toList.map fun i => (i.val : Int))) else []
def heat_Rank.f (l : List Nat) : Option (List Int) := if l.length ≤ 20 then some (rankL l) else none
def rankEnc {n : Nat} (i : Fin n) : Value := .int .i64 (i.val : Int)
theorem heat_Key.total (a : Nat) : ∃ r, heat_Key.f a = some r := by
  unfold heat_Key.f math_IsNaN.f
  simp only [Option.bind_some]
  repeat' split
  all_goals exact ⟨_, rfl⟩
theorem heat_Compare.total (a b : Nat) : ∃ r, heat_Compare.f a b = some r := by
  obtain ⟨x, hx⟩ := heat_Key.total a
  obtain ⟨y, hy⟩ := heat_Key.total b
  unfold heat_Compare.f
  rw [hx, Option.bind_some, hy, Option.bind_some]
  have : ∃ r, cmp_Compare_uint64.f x y = some r := by
    unfold cmp_Compare_uint64.f cmp_isNaN_uint64.f
    simp only [Option.bind_some]
    repeat' split
    all_goals exact ⟨_, rfl⟩
  obtain ⟨r, hr⟩ := this
  rw [hr, Option.bind_some]
  exact ⟨_, rfl⟩
def rngL (n : Nat) : List Int := (List.range n).map (fun i : Nat => (i : Int))
theorem rngL_length (n : Nat) : (rngL n).length = n := by simp [rngL]
theorem rngL_succ (n : Nat) : rngL (n + 1) = rngL n ++ [(n : Int)] := by simp [rngL, List.range_succ]
theorem rng_fin (n : Nat) : (List.finRange n).map (rankEnc) = (rngL n).map (Value.int .i64) := by
  apply List.ext_getElem
  · simp [rngL]
  · intro i h1 h2
    simp [rankEnc, rngL]
set_option maxHeartbeats 4000000 in
set_option maxRecDepth 100000 in
theorem rankSort (A0 : Option Addr) (c0 : Nat) (l0 : List Nat) (p base : Nat) (wr : World) (u3 : Value) (hl : l0.length ≤ 20) (hpos : 0 < l0.length) (HR : Kd.C kFloat wr A0 l0.length l0) (hc0 : l0.length ≤ c0) (hp : wr.cell? ⟨p, 0, none⟩ = some (.slice A0 l0.length c0)) (hpb : p < base) (hbs : base ≤ wr.heap.size)
    (HRb : ∀ w', Below base wr w' → Kd.C kFloat w' A0 l0.length l0) (HO : Kd.R (Kd.int .i64) 3 wr base (fun _ => True) u3 (rngL l0.length)) :
    Calls Try.prog 34 #[u3, .func (.func 35) #[] #[.pointer (some ⟨p, 0, none⟩)]] wr fun e w' => e = .returned (.tuple #[]) ∧ Kd.R (Kd.int .i64) 3 w' base (fun _ => True) u3 (rankL l0) ∧ Below base wr w' := by
  letI : Inhabited (Fin l0.length) := ⟨⟨0, hpos⟩⟩
  obtain ⟨inner, hown⟩ := Kd.R_own HO
  have hcell : ∀ i : Nat, i < l0.length → True := fun _ _ => trivial
  have hown' : wr.ownsRow base 3 1 u3 (rngL l0.length).length ((rngL l0.length).map (Value.int .i64)) := Kd.own_of_R HO
  rw [rngL_length] at hown'
  rcases hown'.2 with ⟨rfl, h0⟩ | ⟨g, cap, cur, rfl, hbase, hb, h1, h2, h3, h4⟩
  · omega
  · have hH : Holds (rankEnc (n := l0.length)) wr g 0 (List.finRange l0.length).toArray := Srt.holds_of_block hb (by rw [List.length_finRange, rng_fin]; simpa using h4)
    have hg : g < wr.heap.size := (Array.getElem?_eq_some_iff.1 hb).1
    have hd : (List.finRange l0.length).toArray.size = l0.length := by simp
    have hcmp : CmpLays1 Try.prog 35 #[.pointer (some ⟨p, 0, none⟩)] (rankEnc (n := l0.length)) (rankCf l0) g 0 (List.finRange l0.length).toArray.size wr := by
      intro m os dk hs x y
      have hgb : wr.grownBy (sortWorld rankEnc wr g 0 m dk os) (some g) := Srt.grownBy_sorted dk
      have hbel : RowKit.Below base wr (sortWorld rankEnc wr g 0 m dk os) := ⟨hgb.os, hgb.tape, hgb.output, hgb.size, fun k hk => hgb.block k (by omega) (by intro e; injection e; omega)⟩
      refine (rankClosure A0 c0 l0 x y p _ (HRb _ hbel) hc0 ?_ heat_Compare.total).mono ?_
      · exact hgb.cell hp (by intro e; injection e with e; simp only at e; omega)
      · rintro e w' ⟨rfl, ⟨nd, rfl⟩⟩
        exact ⟨rfl, nd, #[], by rw [grow_empty]⟩
    have eg : ∀ args w, (callFunc 35 args).run Try.prog w = .ok (.enter 35 args) w := fun args w => enters_of Try.func35 (by kernel_rfl) rfl args w
    have hs := sortStableShort (rankEnc (n := l0.length)) (rankCf l0) 35 #[.pointer (some ⟨p, 0, none⟩)] g cap (List.finRange l0.length).toArray wr wr eg hcmp ⟨fun _ => rfl, hH, hg⟩ (SW.start hH) (by rw [hd]; exact hl)
    rw [hd] at hs
    refine hs.mono ?_
    rintro e w' ⟨rfl, ⟨n, os, rfl⟩⟩
    obtain ⟨D, hD⟩ : ∃ D, D = Sort.insertionSort (ltOf (rankCf l0)) (List.finRange l0.length).toArray 0 l0.length := ⟨_, rfl⟩
    have hDs : D.size = l0.length := by rw [hD, ins_sz]; exact hd
    rw [← hD]
    have hgb : wr.grownBy (sortWorld rankEnc wr g 0 n D os) (some g) := Srt.grownBy_sorted D
    have hbel : RowKit.Below base wr (sortWorld rankEnc wr g 0 n D os) := ⟨hgb.os, hgb.tape, hgb.output, hgb.size, fun k hk => hgb.block k (by omega) (by intro e; injection e; omega)⟩
    refine ⟨rfl, ?_, hbel⟩
    have hr : rankL l0 = D.toList.map fun i => (i.val : Int) := by
      unfold rankL; rw [dif_pos hpos, hD]
    have hlen : (rankL l0).length = l0.length := by rw [hr, List.length_map, Array.length_toList, hDs]
    refine Kd.R_of_own (enc := Value.int .i64) (h1 := fun _ => rfl) ?_ (fun _ _ => trivial)
    have ho := Srt.ownsRow_sorted (enc := rankEnc (n := l0.length)) (n := n) (os := os) (N := l0.length) (ts := D.toList) (by rw [Array.length_toList, hDs]) hbase hb h1 h2 h3
    rw [hlen]
    have he : encs (Value.int .i64) (rankL l0) = D.toList.map rankEnc := by rw [hr]; simp [encs, rankEnc, List.map_map, Function.comp_def]
    rw [he]
    exact ho
set_option maxHeartbeats 4000000 in
set_option maxRecDepth 100000 in
theorem heat_Rank.calls (A0 : Option Addr) (c0 : Nat) (l0 : List Nat) (r : List Int) (w : World) (hr0 : Kd.C kFloat w A0 l0.length l0) (hc0 : l0.length ≤ c0) (h : heat_Rank.f l0 = some r) :
    Calls Try.prog 15 #[.slice A0 l0.length c0] w fun e w' => ∃ v0_ : Value, e = .returned (v0_) ∧ Kd.R (Kd.int .i64) 3 w' w.heap.size (fun _ => True) v0_ r ∧ Below w.heap.size w w' := by
  unfold heat_Rank.f at h
  by_cases hl : l0.length ≤ 20
  · rw [if_pos hl] at h
    obtain rfl := Option.some.inj h
    clear h
    have HR0 := Aside0.mk hr0
    have HC0 := Aside0.mk hc0
    have HL := Aside0.mk hl
    clear hr0 hc0 hl
    go_enter Try.func15, Try.ntmps15
    go_wp2_with fail
    obtain ⟨W, hW⟩ : ∃ W, W = w.alloc (.cells #[.slice A0 l0.length c0] 30) := ⟨_, rfl⟩
    have hs : W.heap.size = w.heap.size + 1 := by rw [hW]; simp
    have hbW : Below w.heap.size w W := by rw [hW]; exact below_alloc (Below.refl _ _) _
    have hx : W.cell? ⟨w.heap.size, 0, none⟩ = some (.slice A0 l0.length c0) := by rw [hW]; simp [go_sem]
    have HBW := Aside0.mk hbW
    have HS := Aside0.mk hs
    have HX := Aside0.mk hx
    rw [← hW]
    clear hW hbW hs hx
    obtain ⟨N, hN⟩ : ∃ N : Nat, N = l0.length := ⟨_, rfl⟩
    rw [← hN]
    have HN := Aside0.mk hN
    have hN20 : N ≤ 20 := by rw [hN]; exact HL.out
    clear hN
    go_loopg [3, 7] N (fun kq v3 v7 w' => ∃ i : Nat, v7 = .int .i64 (i : Int) ∧ i ≤ N ∧ kq = N - i ∧ (i = 0 → v3 = .slice none 0 0) ∧ Aside0 (Kd.R (Kd.int .i64) 3 w' W.heap.size (fun _ => True) v3 (rngL i)) ∧ Aside0 (Below W.heap.size W w'))
    case atStart => exact ⟨0, rfl, by omega, by omega, fun _ => rfl, ⟨Kd.R_nil _ _ _ _ _⟩, ⟨Below.refl _ _⟩⟩
    case round =>
      obtain ⟨i, rfl, hi, hk, hnil, HO, HB⟩ := hrel
      have LM : Aside0 ((rngL i).length ≤ 20) := ⟨by rw [rngL_length]; omega⟩
      by_cases hlt : i < N
      · have hltz : (i : Int) < (N : Int) := by omega
        go_wp2_with (first | ((with_reducible refine gate_builtin (b := .append) (xs := #[.tmp 10, .tmp 12]) rfl ?_); at_builtin; refine Kd.R_append (Kd.int .i64) (w0 := W) W.heap.size rfl (.tmp 10) (.tmp 12) 32 3 (.int .i64 0) 8 rfl Try.underlying32 info3 rfl (by decide) (by omega) u3 (rngL i) (i : Int) [.int .i64 (i : Int)] (fun _ => True) (fun _ => False) rfl rfl ?aP (fun _ hk => hk.elim) ?aF ?aO ?aB ?aS ?aL ?_; (case aP => exact rfl); (case aB => exact (by repeat (first | (with_reducible first | exact HB.out | apply below_alloc | apply pw_below_drewN | apply below_drew1) | exact HB.out))); (case aF => exact (fun _ _ => trivial)); (case aO => exact (by (with_reducible repeat (first | apply Kd.R_alloc | apply Kd.R_drewN | apply Kd.R_drew)); exact HO.out)); (case aS => exact (below_size (by repeat (first | (with_reducible first | exact HB.out | apply below_alloc | apply pw_below_drewN | apply below_drew1) | exact HB.out)))); (case aL => have := LM.out; omega); intro v102 w4 ho hb hg hat; rw [← rngL_succ] at ho; have n0_ := Aside0.mk hb; have n1_ := Aside0.mk ho; clear HB HO ho hb hg hat LM))
        go_roundg (N - (i + 1))
        case measure => omega
        case rel => exact ⟨i + 1, by go_num, by omega, rfl, fun h => by omega, n1_, n0_⟩
      · have hltz : ¬ (i : Int) < (N : Int) := by omega
        obtain rfl : i = N := by omega
        rcases Nat.eq_zero_or_pos i with h0 | h0
        · obtain rfl := hnil h0
          subst h0
          clear hnil
          go_wp2_with (first | (go_at_call 34; (with_reducible refine (sortStableNone 35 _ _).mono ?_); rintro e w' ⟨rfl, ⟨nd, rfl⟩⟩))
          go_ret
          have e0 : rankL l0 = [] := by unfold rankL; rw [dif_neg (by have := HN.out; omega)]
          rw [e0]
          exact ⟨_, rfl, Kd.R_nil _ _ _ _ _, HBW.out.trans ((HB.out.mono (by have := HS.out; omega)).trans (pw_below_drewN (Below.refl _ _) _))⟩
        · clear hnil
          have hc := rankSort A0 c0 l0 w.heap.size W.heap.size wr u3 HL.out (by have := HN.out; omega) (Kd.C_below HR0.out (HBW.out.trans (HB.out.mono (by have := HS.out; omega)))) HC0.out (by rw [World.cell?_of_block (HB.out.block _ (by have := HS.out; show w.heap.size < _; omega))]; exact HN.out ▸ HX.out) (by have := HS.out; omega) (HB.out.size)
            (fun w' hb' => Kd.C_below HR0.out (HBW.out.trans ((HB.out.trans hb').mono (by have := HS.out; omega)))) (by rw [← HN.out]; exact HO.out)
          have HC := Aside0.mk hc
          clear hc
          go_wp2_with (first | (go_at_call 34; (refine HC.out.mono ?_); rintro e w' ⟨rfl, hR, hb⟩; have HR2 := Aside0.mk hR; have HB2 := Aside0.mk hb; clear hR hb))
          go_ret
          exact ⟨_, rfl, Kd.R_lower HR2.out (by have := HS.out; omega), HBW.out.trans ((HB.out.trans HB2.out).mono (by have := HS.out; omega))⟩
  · rw [if_neg hl] at h; cases h
end

end Go.Proofs.Ytiikmomjggcdfaa.PA

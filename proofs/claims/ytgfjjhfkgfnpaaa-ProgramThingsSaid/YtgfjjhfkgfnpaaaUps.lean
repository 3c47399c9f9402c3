-- a later world: what stood stands still (short words for the printed searches)
import Derived.Test.YtgfjjhfkgfnpaaaWMore
namespace Go.Proofs.YtgfjjhfkgfnpaaaW.PrintMore
open Go Go.RowKit Go.Proofs.YtgfjjhfkgfnpaaaW.PrintWords Go.Proofs.YtgfjjhfkgfnpaaaW.PrintLast Go.Proofs.YtgfjjhfkgfnpaaaW.PrintMore
class Ups (w W : World) : Prop where
  up : Below w.heap.size w W
instance upR (w : World) : Ups w w := ⟨Below.refl _ _⟩
instance upD (w W : World) [h : Ups w W] : Ups w W.drew := ⟨h.up.drew⟩
instance upN (w W : World) (n : Nat) [h : Ups w W] : Ups w (W.drewN n) := ⟨pw_below_drewN h.up n⟩
instance upA (w W : World) (o : Obj) [h : Ups w W] : Ups w (W.alloc o) := ⟨below_alloc h.up o⟩
theorem bu {w W : World} {g : Nat} {o : Obj} [h : Ups w W] (hb : w.heap[g]? = some o) : W.heap[g]? = some o := (h.up.block g (blk_lt hb)).trans hb
theorem ru {α : Type} {d : Kd α} {e base : Nat} {ok : Nat → Prop} {w W : World} {v : Value} {xs : List α} [h : Ups w W] (hr : d.R e w base ok v xs) : d.R e W base ok v xs := Kd.R_below hr h.up
theorem cu {α : Type} {d : Kd α} {A : Option Addr} {n : Nat} {w W : World} {xs : List α} [h : Ups w W] (hr : d.C w A n xs) : d.C W A n xs := Kd.C_below hr h.up
/-- A block that is not older than v. -/
class GEc (v : World) (g : Nat) : Prop where
  out : v.heap.size ≤ g
class Lup (v w W : World) : Prop where
  up : Below v.heap.size v w → Below v.heap.size v W
instance loR (v w : World) : Lup v w w := ⟨fun h => h⟩
instance loD (v w W : World) [h : Lup v w W] : Lup v w W.drew := ⟨fun b => (h.up b).drew⟩
instance loN (v w W : World) (n : Nat) [h : Lup v w W] : Lup v w (W.drewN n) := ⟨fun b => pw_below_drewN (h.up b) n⟩
instance loA (v w W : World) (o : Obj) [h : Lup v w W] : Lup v w (W.alloc o) := ⟨fun b => below_alloc (h.up b) o⟩
instance loS (v w W : World) (g j : Nat) (x : Value) [h : Lup v w W] [hg : GEc v g] : Lup v w (W.setCell ⟨g, j, none⟩ x) := ⟨fun b => below_set (h.up b) hg.out⟩
theorem lo {v w W : World} [h : Lup v w W] (hb : Below v.heap.size v w) : Below v.heap.size v W := h.up hb
abbrev tt : Bool := true
abbrev ff : Bool := false
theorem pq2 {a b : Nat → Prop} : ∀ k, a k ∧ b k → b k := fun _ h => h.2
theorem bN {w : World} {g : Nat} {o : Obj} (h : w.heap[g]? = some o) (n : Nat) : (w.drewN n).heap[g]? = some o := blk_drewN h n
theorem bD {w : World} {g : Nat} {o : Obj} (h : w.heap[g]? = some o) : w.drew.heap[g]? = some o := h
theorem bA {w : World} {g : Nat} {o : Obj} (h : w.heap[g]? = some o) (o' : Obj) : (w.alloc o').heap[g]? = some o := blk_alloc h o'
theorem bc {w : World} {g : Nat} {cs : Array Value} {t : TypeId} {v : Value} (h : w.heap[g]? = some (.cells cs t (0, 0))) (i : Nat) (e : cs[i]? = some v) : w.cell? ⟨g, i, none⟩ = some v := (blk_cell h i).trans e
theorem am {p : Prop} (h : p) : Aside0 p := ⟨h⟩
theorem sA {α : Type} {l : List α} {i : Nat} {a : α} : l.toArray.setIfInBounds i a = (l.set i a).toArray := List.setIfInBounds_toArray ..
theorem sZ {α : Type} {l : List α} {a b : α} : (a :: l).set 0 b = b :: l := rfl
theorem sS {α : Type} {l : List α} {i : Nat} {a b : α} : (a :: l).set (i + 1) b = a :: l.set i b := rfl
end Go.Proofs.YtgfjjhfkgfnpaaaW.PrintMore

-- Written by this session's own program wip/bin/dprint.py, over the kit's print.py, with own texts for some functions: no print of print.sh's
import Derived.Test.YtgfjjhfkgfnpaaaPBx0
import Derived.Test.YtgfjjhfkgfnpaaaUps
namespace Go.Proofs.Ytgfjjhfkgfnpaaa.PB
open Go.RowKit Go.Proofs.YtgfjjhfkgfnpaaaW.PrintWords Go.Proofs.YtgfjjhfkgfnpaaaW.PrintLast Go.Proofs.YtgfjjhfkgfnpaaaW.PrintMore
attribute [local go_sem] max2_int min2_int max_two min_two max_three min_three max_four min_four   -- for this text's walks alone
set_option linter.unusedVariables false
set_option linter.unusedSimpArgs false


/-! ### slices_Clone_int_int: function 31 (own text) -/
theorem slices_Clone_int_int.spot_ {w : World} {a : Addr} {v : Value} (h : w.cell? a = some v) : a.spot = none:=by
 unfold World.cell? at h;(split at h)
 ·split at h
  ·cases h
  ·rename_i hs;simpa using hs
 ·cases h
def slices_Clone_int_int.f (l : List Int) : Option (List Int):=if l.length ≤ 17592186044416 then some l else none
theorem slices_Clone_int_int.calls (A0 : Option Addr) (c0 : Nat) (l0 : List Int) (r : List Int) (w : World) (hr0 : Kd.C (Kd.int .i64) w A0 l0.length l0) (hc0 : l0.length ≤ c0) (h : slices_Clone_int_int.f l0 = some r) :
  Calls Try.prog 31 #[.slice A0 l0.length c0] w fun e w' => ∃ v0_ : Value,e = .returned (v0_) ∧ Kd.R (Kd.int .i64) 3 w' w.heap.size (fun _ => True) v0_ r ∧ Below w.heap.size w w':=by
 unfold slices_Clone_int_int.f at h;(by_cases hl : l0.length ≤ 17592186044416)
 ·rw [if_pos hl] at h;obtain rfl:=Option.some.inj h
  cases A0 with
  | none =>
   have h0 : l0.length = 0:=by
    rcases Nat.eq_zero_or_pos l0.length with h0 | h0
    ·exact h0
    ·obtain ⟨ad,e,_⟩:=hr0.2.2 h0;cases e
   have hn : l0 = []:=List.eq_nil_of_length_eq_zero h0;subst hn;(refine (Try.slices_Clone_int_nil 0 c0 w).mono ?_);(rintro e w' ⟨rfl,rfl⟩);exact ⟨_,rfl,Kd.R_nil _ _ _ _ _,Below.refl _ _⟩
  | some ad =>
   by_cases h0 : 0 < l0.length
   ·obtain ⟨a1,e1,hx⟩:=Kd.at_int hr0 0 (by omega) (by omega)
    have hs : ad.spot = none:=by
     (have e2 : ad = a1:=by injection e1);rw [← e2] at hx;(have : ad.add (Int.toNat 0) = ad:=by simp [Addr.add]);rw [this] at hx;exact slices_Clone_int_int.spot_ hx
    obtain ⟨b,off,sp⟩:=ad;simp only at hs;subst hs;(refine (Try.slices_Clone_int b off l0.length c0 l0 w (Nat.le_refl _) (by omega) (fun j hj => ?_)).mono ?_)
    ·(obtain ⟨a2,e2,hy⟩:=Kd.at_int hr0 (j : Int) (by omega) (by omega));(have e3 : (⟨b,off,none⟩ : Addr) = a2:=by injection e2);rw [← e3,Int.toNat_natCast] at hy;(have e4 : (⟨b,off,none⟩ : Addr).add j = ⟨b,off + j,none⟩:=by unfold Addr.add;split <;> simp_all);rw [e4] at hy;(rw [hy];unfold rd;rw [Int.toNat_natCast])
    ·(rintro e w' ⟨v',rfl,ho,_,hb⟩);rw [List.take_length] at ho;(exact ⟨v',rfl,Kd.R_of_own ho (fun _ _ => trivial),hb⟩)
   ·(have hn : l0 = []:=List.eq_nil_of_length_eq_zero (by omega));subst hn;(refine (Try.slices_Clone_int_zero ad c0 w).mono ?_);(rintro e w' ⟨v',rfl,ho,_,hb⟩);(exact ⟨v',rfl,Kd.R_of_own ho (fun _ _ => trivial),hb⟩)
 ·rw [if_neg hl] at h;cases h

-- NOT PRINTED: function 32 (program_Func_32)

-- NOT PRINTED: function 33 (program_Op_33)

end Go.Proofs.Ytgfjjhfkgfnpaaa.PB

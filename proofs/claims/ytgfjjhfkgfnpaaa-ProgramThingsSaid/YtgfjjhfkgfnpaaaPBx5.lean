-- Written by this session's own program wip/bin/dprint.py, over the kit's print.py, with own texts for some functions: no print of print.sh's
import Derived.Test.YtgfjjhfkgfnpaaaPBx0
import Derived.Test.YtgfjjhfkgfnpaaaUps
namespace Go.Proofs.Ytgfjjhfkgfnpaaa.PB
open Go.RowKit Go.Proofs.YtgfjjhfkgfnpaaaW.PrintWords Go.Proofs.YtgfjjhfkgfnpaaaW.PrintLast Go.Proofs.YtgfjjhfkgfnpaaaW.PrintMore
attribute [local go_sem] max2_int min2_int max_two min_two max_three min_three max_four min_four   -- for this text's walks alone
set_option linter.unusedVariables false
set_option linter.unusedSimpArgs false

-- NOT PRINTED: function 50 (program_Func_50)

-- NOT PRINTED: function 40 (program_Func_40)

-- NOT PRINTED: function 51 (program_Op_51)

-- NOT PRINTED: function 42 (program_Op_42)

/-! ### slices.ContainsFunc___dowser_program.Func_dowser_program.Func_@_dowser_program.Program_.big_1 (own text) -/
section
/-- Is one's list longer than six? -/
def program_big_1.p_ (x : S45) : Bool:=decide (6 < x.f0.length)
def program_big_1.f (l : List S45) : Option Bool:=some (l.any program_big_1.p_)
theorem program_big_1.at_ (l : List S45) (i : Nat) (hi : i < l.length) : rd_T45 l (i : Int) = l[i]:=by unfold rd_T45;rw [Int.toNat_natCast,List.getD_eq_getElem?_getD,List.getElem?_eq_getElem hi];rfl
def program_big_1.Found_ (l : List S45) (r : Int) : Prop:=decide (0 ≤ r) = l.any program_big_1.p_
theorem program_big_1.hit_ (l : List S45) (i : Nat) (hi : i < l.length) (h : program_big_1.p_ (rd_T45 l (i : Int)) = true) : program_big_1.Found_ l (i : Int):=by
 unfold program_big_1.Found_;rw [decide_eq_true (Int.natCast_nonneg _)];(symm);rw [List.any_eq_true];(exact ⟨l[i],List.getElem_mem hi,by rw [← program_big_1.at_ l i hi];exact h⟩)
theorem program_big_1.miss_ (l : List S45) (h : ∀ j,j < l.length → program_big_1.p_ (rd_T45 l (j : Int)) = false) : program_big_1.Found_ l (-1):=by
 unfold program_big_1.Found_;rw [show decide ((0 : Int) ≤ -1) = false from rfl];(symm);rw [List.any_eq_false];intro x hx;obtain ⟨j,hj,rfl⟩:=List.mem_iff_getElem.1 hx;(rw [← program_big_1.at_ l j hj,h j hj];simp)
theorem program_big_1.more_ (l : List S45) (i : Nat) (h : ∀ j,j < i → program_big_1.p_ (rd_T45 l (j : Int)) = false) (hi : program_big_1.p_ (rd_T45 l (i : Int)) = false) : ∀ j,j < i + 1 → program_big_1.p_ (rd_T45 l (j : Int)) = false:=by
 intro j hj;(by_cases e : j = i)
 ·rw [e];exact hi
 ·exact h j (by omega)
set_option maxHeartbeats 4000000 in
set_option maxRecDepth 100000 in
theorem program_big_1.clo_ (A : Option Addr) (n c : Nat) (r : Int) (b : Bool) (w : World) (hb : decide (6 < n) = b) : Calls Try.prog 41 #[.agg #[.slice A n c,.int .i64 r]] w fun e w' => e = .returned (.bool b) ∧ Below w.heap.size w w':=by
 have hu45:=Try.underlying45;(have hb2 : decide ((6 : Int) < (n : Int)) = b:=by rw [← hb];exact decide_eq_decide.mpr (by omega))
 cases b with
 | true =>
  (go_enter Try.func41,Try.ntmps41);(go_wp2);(go_ret);(exact ⟨rfl,by repeat (first | exact Below.refl _ _ | apply below_alloc | apply pw_below_drewN)⟩)
 | false =>
  (go_enter Try.func41,Try.ntmps41);(go_wp2);(go_ret);(exact ⟨rfl,by repeat (first | exact Below.refl _ _ | apply below_alloc | apply pw_below_drewN)⟩)
set_option maxHeartbeats 4000000 in
set_option maxRecDepth 100000 in
theorem program_big_1.index_ (A : Option Addr) (c : Nat) (l : List S45) (w : World) (hC : Kd.C k45 w A l.length l) (hc : l.length ≤ c) : Calls Try.prog 50 #[.slice A l.length c,.func (.func 41) #[] #[]] w fun e w' => ∃ r : Int,e = .returned (.int .i64 r) ∧ program_big_1.Found_ l r ∧ Below w.heap.size w w':=by
 have HC:=am hC;have hm:=Kd.C_max hC;have HM:=am hm;have hu45:=Try.underlying45;clear hC hm;(go_enter Try.func50,Try.ntmps50);(go_wp2);(go_loopg [8] l.length (fun kq v8 w' => ∃ i : Nat,v8 = .int .i64 (i : Int) ∧ i ≤ l.length ∧ kq = l.length - i ∧ Aside0 (∀ j,j < i → program_big_1.p_ (rd_T45 l (j : Int)) = false) ∧ Aside0 (Below w.heap.size w w')));(case atStart => exact ⟨0,rfl,by omega,by omega,⟨fun j hj => absurd hj (by omega)⟩,⟨Below.refl _ _⟩⟩)
 case round =>
  obtain ⟨i,rfl,hi,hk,hJ,hD⟩:=hrel;(by_cases hlt : i < l.length)
  ·have hltb : decide (i < l.length) = true:=decide_eq_true hlt;(have hltz : (i : Int) < (l.length : Int):=by omega);(have h0z : (0 : Int) ≤ (i : Int):=by omega);(have himax : (i : Int) < 9223372036854775807:=by have:=HM.out;omega);obtain ⟨ad,A1,c1,e1,hx0,hx1,hl1,hC1⟩:=at_T45 (Kd.C_below HC.out hD.out) (i : Int) h0z hltz;subst e1;rw [Int.toNat_natCast] at hx0 hx1;obtain ⟨z,hz⟩ : ∃ z,z = rd_T45 l (i : Int):=⟨_,rfl⟩;rw [← hz] at hx0 hx1;clear hl1 hC1;obtain ⟨n,hn⟩ : ∃ n,n = z.f0.length:=⟨_,rfl⟩;rw [← hn] at hx0;(have hpn : program_big_1.p_ z = decide (6 < n):=by unfold program_big_1.p_;rw [hn])
   cases hp : program_big_1.p_ z with
   | false =>
    (have HP:=am (program_big_1.more_ l i hJ.out (by rw [← hz];exact hp)));have HQ:=am (hpn.symm.trans hp);clear hz hp hpn hn;(go_wp2_with (go_at_call 41;refine (program_big_1.clo_ A1 n c1 z.f1 false _ HQ.out).mono ?_;rintro e w9 ⟨rfl,hb9⟩;have B9:=am (below_step (by repeat (first | exact hD.out | apply pw_below_drewN)) hb9);clear hb9));(go_roundg (l.length - (i + 1)));(case measure => omega);(case rel => exact ⟨i + 1,by go_num,by omega,rfl,HP,⟨by repeat (first | exact B9.out | apply pw_below_drewN)⟩⟩)
   | true =>
    (have HP:=am (program_big_1.hit_ l i hlt (by rw [← hz];exact hp)));have HQ:=am (hpn.symm.trans hp);clear hz hp hpn hn;(go_wp2_with (go_at_call 41;refine (program_big_1.clo_ A1 n c1 z.f1 true _ HQ.out).mono ?_;rintro e w9 ⟨rfl,hb9⟩;have B9:=am (below_step (by repeat (first | exact hD.out | apply pw_below_drewN)) hb9);clear hb9));(go_ret);(exact ⟨_,rfl,HP.out,by repeat (first | exact B9.out | apply pw_below_drewN)⟩)
  ·have hltb : decide (i < l.length) = false:=decide_eq_false hlt;(have hltz : ¬ (i : Int) < (l.length : Int):=by omega);(obtain rfl : i = l.length:=by omega);(go_wp2_with fail);(go_ret);(exact ⟨_,rfl,program_big_1.miss_ l hJ.out,by repeat (first | exact hD.out | apply pw_below_drewN)⟩)
set_option maxHeartbeats 4000000 in
set_option maxRecDepth 100000 in
theorem program_big_1.calls (A0 : Option Addr) (c0 : Nat) (l0 : List S45) (r : Bool) (w : World) (hr0 : Kd.C k45 w A0 l0.length l0) (hc0 : l0.length ≤ c0) (h : program_big_1.f l0 = some r) : Calls Try.prog 40 #[.slice A0 l0.length c0,.func (.func 41) #[] #[]] w fun e w' => e = .returned (.bool r) ∧ Below w.heap.size w w':=by
 have HC:=am hr0;have HCC:=am hc0;have HH:=am (Option.some.inj h);clear hr0 hc0 h;(go_enter Try.func40,Try.ntmps40);(go_wp2_with (go_at_call 50;(with_reducible refine (program_big_1.index_ A0 c0 l0 _ HC.out HCC.out).mono ?_);rintro e w9 ⟨r,rfl,hr,hb9⟩;have HR:=am hr;have B9:=am hb9;clear hr hb9));(go_ret);(exact ⟨by rw [← HH.out,← HR.out];rfl,by repeat (first | exact B9.out | apply pw_below_drewN)⟩)
end

end Go.Proofs.Ytgfjjhfkgfnpaaa.PB

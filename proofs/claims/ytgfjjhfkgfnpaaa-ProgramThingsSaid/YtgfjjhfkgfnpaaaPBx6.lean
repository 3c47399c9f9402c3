-- Written by this session's own program wip/bin/dprint.py, over the kit's print.py, with own texts for some functions: no print of print.sh's
import Derived.Test.YtgfjjhfkgfnpaaaPBx0
import Derived.Test.YtgfjjhfkgfnpaaaUps
namespace Go.Proofs.Ytgfjjhfkgfnpaaa.PB
open Go.RowKit Go.Proofs.YtgfjjhfkgfnpaaaW.PrintWords Go.Proofs.YtgfjjhfkgfnpaaaW.PrintLast Go.Proofs.YtgfjjhfkgfnpaaaW.PrintMore
attribute [local go_sem] max2_int min2_int max_two min_two max_three min_three max_four min_four   -- for this text's walks alone
set_option linter.unusedVariables false
set_option linter.unusedSimpArgs false

/-! ### slices.ContainsFunc___dowser_program.Op_dowser_program.Op_@_dowser_program.Program_.big_2 (own text) -/
section
/-- Is one's list longer than six? -/
def program_big_2.p_ (x : S42) : Bool:=decide (6 < x.f5.length)
def program_big_2.f (l : List S42) : Option Bool:=some (l.any program_big_2.p_)
theorem program_big_2.at_ (l : List S42) (i : Nat) (hi : i < l.length) : rd_T42 l (i : Int) = l[i]:=by unfold rd_T42;rw [Int.toNat_natCast,List.getD_eq_getElem?_getD,List.getElem?_eq_getElem hi];rfl
def program_big_2.Found_ (l : List S42) (r : Int) : Prop:=decide (0 ≤ r) = l.any program_big_2.p_
theorem program_big_2.hit_ (l : List S42) (i : Nat) (hi : i < l.length) (h : program_big_2.p_ (rd_T42 l (i : Int)) = true) : program_big_2.Found_ l (i : Int):=by
 unfold program_big_2.Found_;rw [decide_eq_true (Int.natCast_nonneg _)];(symm);rw [List.any_eq_true];(exact ⟨l[i],List.getElem_mem hi,by rw [← program_big_2.at_ l i hi];exact h⟩)
theorem program_big_2.miss_ (l : List S42) (h : ∀ j,j < l.length → program_big_2.p_ (rd_T42 l (j : Int)) = false) : program_big_2.Found_ l (-1):=by
 unfold program_big_2.Found_;rw [show decide ((0 : Int) ≤ -1) = false from rfl];(symm);rw [List.any_eq_false];intro x hx;obtain ⟨j,hj,rfl⟩:=List.mem_iff_getElem.1 hx;(rw [← program_big_2.at_ l j hj,h j hj];simp)
theorem program_big_2.more_ (l : List S42) (i : Nat) (h : ∀ j,j < i → program_big_2.p_ (rd_T42 l (j : Int)) = false) (hi : program_big_2.p_ (rd_T42 l (i : Int)) = false) : ∀ j,j < i + 1 → program_big_2.p_ (rd_T42 l (j : Int)) = false:=by
 intro j hj;(by_cases e : j = i)
 ·rw [e];exact hi
 ·exact h j (by omega)
set_option maxHeartbeats 4000000 in
set_option maxRecDepth 100000 in
theorem program_big_2.clo_ (a0 a1 a2 a3 a4 : Int) (A : Option Addr) (n c a6 : Nat) (b : Bool) (w : World) (hb : decide (6 < n) = b) : Calls Try.prog 43 #[.agg #[.int .i64 a0,.int .i64 a1,.int .i64 a2,.int .i64 a3,.int .i64 a4,.slice A n c,.float .f64 a6]] w fun e w' => e = .returned (.bool b) ∧ Below w.heap.size w w':=by
 have hu42:=Try.underlying42;(have hb2 : decide ((6 : Int) < (n : Int)) = b:=by rw [← hb];exact decide_eq_decide.mpr (by omega))
 cases b with
 | true =>
  (go_enter Try.func43,Try.ntmps43);(go_wp2);(go_ret);(exact ⟨rfl,by repeat (first | exact Below.refl _ _ | apply below_alloc | apply pw_below_drewN)⟩)
 | false =>
  (go_enter Try.func43,Try.ntmps43);(go_wp2);(go_ret);(exact ⟨rfl,by repeat (first | exact Below.refl _ _ | apply below_alloc | apply pw_below_drewN)⟩)
set_option maxHeartbeats 4000000 in
set_option maxRecDepth 100000 in
theorem program_big_2.index_ (A : Option Addr) (c : Nat) (l : List S42) (w : World) (hC : Kd.C k42 w A l.length l) (hc : l.length ≤ c) : Calls Try.prog 51 #[.slice A l.length c,.func (.func 43) #[] #[]] w fun e w' => ∃ r : Int,e = .returned (.int .i64 r) ∧ program_big_2.Found_ l r ∧ Below w.heap.size w w':=by
 have HC:=am hC;have hm:=Kd.C_max hC;have HM:=am hm;have hu42:=Try.underlying42;clear hC hm;(go_enter Try.func51,Try.ntmps51);(go_wp2);(go_loopg [8] l.length (fun kq v8 w' => ∃ i : Nat,v8 = .int .i64 (i : Int) ∧ i ≤ l.length ∧ kq = l.length - i ∧ Aside0 (∀ j,j < i → program_big_2.p_ (rd_T42 l (j : Int)) = false) ∧ Aside0 (Below w.heap.size w w')));(case atStart => exact ⟨0,rfl,by omega,by omega,⟨fun j hj => absurd hj (by omega)⟩,⟨Below.refl _ _⟩⟩)
 case round =>
  obtain ⟨i,rfl,hi,hk,hJ,hD⟩:=hrel;(by_cases hlt : i < l.length)
  ·have hltb : decide (i < l.length) = true:=decide_eq_true hlt;(have hltz : (i : Int) < (l.length : Int):=by omega);(have h0z : (0 : Int) ≤ (i : Int):=by omega);(have himax : (i : Int) < 9223372036854775807:=by have:=HM.out;omega);obtain ⟨ad,A1,c1,e1,hx0,hx1,hx2,hx3,hx4,hx5,hx6,hl1,hC1⟩:=at_T42 (Kd.C_below HC.out hD.out) (i : Int) h0z hltz;subst e1;rw [Int.toNat_natCast] at hx0 hx1 hx2 hx3 hx4 hx5 hx6;obtain ⟨z,hz⟩ : ∃ z,z = rd_T42 l (i : Int):=⟨_,rfl⟩;rw [← hz] at hx0 hx1 hx2 hx3 hx4 hx5 hx6;clear hl1 hC1;obtain ⟨n,hn⟩ : ∃ n,n = z.f5.length:=⟨_,rfl⟩;rw [← hn] at hx5;(have hpn : program_big_2.p_ z = decide (6 < n):=by unfold program_big_2.p_;rw [hn])
   cases hp : program_big_2.p_ z with
   | false =>
    (have HP:=am (program_big_2.more_ l i hJ.out (by rw [← hz];exact hp)));have HQ:=am (hpn.symm.trans hp);clear hz hp hpn hn;(go_wp2_with (go_at_call 43;refine (program_big_2.clo_ z.f0 z.f1 z.f2 z.f3 z.f4 A1 n c1 z.f6 false _ HQ.out).mono ?_;rintro e w9 ⟨rfl,hb9⟩;have B9:=am (below_step (by repeat (first | exact hD.out | apply pw_below_drewN)) hb9);clear hb9));(go_roundg (l.length - (i + 1)));(case measure => omega);(case rel => exact ⟨i + 1,by go_num,by omega,rfl,HP,⟨by repeat (first | exact B9.out | apply pw_below_drewN)⟩⟩)
   | true =>
    (have HP:=am (program_big_2.hit_ l i hlt (by rw [← hz];exact hp)));have HQ:=am (hpn.symm.trans hp);clear hz hp hpn hn;(go_wp2_with (go_at_call 43;refine (program_big_2.clo_ z.f0 z.f1 z.f2 z.f3 z.f4 A1 n c1 z.f6 true _ HQ.out).mono ?_;rintro e w9 ⟨rfl,hb9⟩;have B9:=am (below_step (by repeat (first | exact hD.out | apply pw_below_drewN)) hb9);clear hb9));(go_ret);(exact ⟨_,rfl,HP.out,by repeat (first | exact B9.out | apply pw_below_drewN)⟩)
  ·have hltb : decide (i < l.length) = false:=decide_eq_false hlt;(have hltz : ¬ (i : Int) < (l.length : Int):=by omega);(obtain rfl : i = l.length:=by omega);(go_wp2_with fail);(go_ret);(exact ⟨_,rfl,program_big_2.miss_ l hJ.out,by repeat (first | exact hD.out | apply pw_below_drewN)⟩)
set_option maxHeartbeats 4000000 in
set_option maxRecDepth 100000 in
theorem program_big_2.calls (A0 : Option Addr) (c0 : Nat) (l0 : List S42) (r : Bool) (w : World) (hr0 : Kd.C k42 w A0 l0.length l0) (hc0 : l0.length ≤ c0) (h : program_big_2.f l0 = some r) : Calls Try.prog 42 #[.slice A0 l0.length c0,.func (.func 43) #[] #[]] w fun e w' => e = .returned (.bool r) ∧ Below w.heap.size w w':=by
 have HC:=am hr0;have HCC:=am hc0;have HH:=am (Option.some.inj h);clear hr0 hc0 h;(go_enter Try.func42,Try.ntmps42);(go_wp2_with (go_at_call 51;(with_reducible refine (program_big_2.index_ A0 c0 l0 _ HC.out HCC.out).mono ?_);rintro e w9 ⟨r,rfl,hr,hb9⟩;have HR:=am hr;have B9:=am hb9;clear hr hb9));(go_ret);(exact ⟨by rw [← HH.out,← HR.out];rfl,by repeat (first | exact B9.out | apply pw_below_drewN)⟩)
end

end Go.Proofs.Ytgfjjhfkgfnpaaa.PB

-- Written by this session's own program wip/bin/dprint.py, over the kit's print.py, with own texts for some functions: no print of print.sh's
import Derived.Test.YtlboglbgdjakmaaPBx0
import Derived.Test.YtlboglbgdjakmaaPBx1
import Derived.Test.YtlboglbgdjakmaaUps
namespace Go.Proofs.Ytlboglbgdjakmaa.PB
open Go.RowKit Go.Proofs.YtlboglbgdjakmaaW.PrintWords Go.Proofs.YtlboglbgdjakmaaW.PrintLast Go.Proofs.YtlboglbgdjakmaaW.PrintMore
attribute [local go_sem] max2_int min2_int max_two min_two max_three min_three max_four min_four   -- for this text's walks alone
set_option linter.unusedVariables false
set_option linter.unusedSimpArgs false

/-! ### dowser_node.all_int_@dowser_node.page (own text) -/
def node_all_page.p_ (s : Int) : Bool:=decide (0 ≤ s) && decide (s ≤ 2147483647)
def node_all_page.f (l : List Int) : Option Bool:=some (l.all node_all_page.p_)
theorem node_all_page.pred_ (s : Int) : node_page.f s = some (node_all_page.p_ s):=by
 unfold node_page.f node_all_page.p_;(by_cases h : s ≥ 0)
 ·rw [if_pos h,decide_eq_true h];rfl
 ·rw [if_neg h,decide_eq_false h];rfl
set_option maxHeartbeats 1000000 in
set_option maxRecDepth 100000 in
theorem node_all_page.clo_ (s : Int) (b : Nat) (w : World) (hb : w.cell? ⟨b,0,none⟩ = some (.func (.func 31) #[] #[])) :
  Calls Try.prog 52 #[.int .i64 s,.pointer (some ⟨b,0,none⟩)] w fun e w' => e = .returned (.bool (!node_all_page.p_ s)) ∧ Drawn0 w w':=by
 have H:=am (node_all_page.pred_ s);(go_enter Try.func52,Try.ntmps52);(go_wp2_with fail);(refine (node_page.calls s (node_all_page.p_ s) _ H.out).mono ?_);(rintro e w' ⟨rfl,⟨nd,rfl⟩⟩);(go_wp2);(go_ret);exact ⟨rfl,⟨⟨_,rfl⟩⟩⟩
def node_all_page.Found_ (l : List Int) (w : World) (e : Ending) (w' : World) : Prop:=∃ r : Int,e = .returned (.int .i64 r) ∧ decide (0 ≤ r) = l.any (fun s => !node_all_page.p_ s) ∧ Drawn0 w w'
theorem node_all_page.first_ (l : List Int) (i : Nat) (hi : i < l.length) (h : node_all_page.p_ (rd l (i : Int)) = false) : decide ((0 : Int) ≤ (i : Int)) = l.any (fun s => !node_all_page.p_ s):=by
 rw [decide_eq_true (Int.natCast_nonneg _)];(symm);rw [List.any_eq_true];(refine ⟨l[i],List.getElem_mem hi,?_⟩)
 have : (rd l (i : Int)) = l[i]:=by
  unfold rd;rw [Int.toNat_natCast,List.getD_eq_getElem?_getD,List.getElem?_eq_getElem hi];rfl
 rw [this] at h;(rw [h];rfl)
theorem node_all_page.more_ (l : List Int) (i : Nat) (h : ∀ j,j < i → node_all_page.p_ (rd l (j : Int)) = true) (hi : node_all_page.p_ (rd l (i : Int)) = true) : ∀ j,j < i + 1 → node_all_page.p_ (rd l (j : Int)) = true:=by
 intro j hj;(by_cases e : j = i)
 ·rw [e];exact hi
 ·exact h j (by omega)
theorem node_all_page.cell_ (w : World) (v : Value) (T : TypeId) : (w.alloc (.cells #[v] T)).cell? ⟨w.heap.size,0,Option.none⟩ = some v:=by rw [World.cell?_alloc_new];rfl
theorem node_all_page.never_ (l : List Int) (h : ∀ j,j < l.length → node_all_page.p_ (rd l (j : Int)) = true) : decide ((0 : Int) ≤ -1) = l.any (fun s => !node_all_page.p_ s):=by
 (symm);rw [show decide ((0 : Int) ≤ -1) = false from rfl,List.any_eq_false];intro s hs;obtain ⟨j,hj,rfl⟩:=List.mem_iff_getElem.1 hs
 have:=h j hj
 have e : (rd l (j : Int)) = l[j]:=by
  unfold rd;rw [Int.toNat_natCast,List.getD_eq_getElem?_getD,List.getElem?_eq_getElem hj];rfl
 rw [e] at this;(rw [this];simp)
set_option maxHeartbeats 2000000 in
set_option maxRecDepth 100000 in
theorem node_all_page.index_ (A0 : Option Addr) (c0 : Nat) (l0 : List Int) (b : Nat) (w : World) (hr0 : Kd.C (Kd.int .i64) w A0 l0.length l0) (hb : w.cell? ⟨b,0,none⟩ = some (.func (.func 31) #[] #[])) :
  Calls Try.prog 66 #[.slice A0 l0.length c0,.func (.func 52) #[] #[.pointer (some ⟨b,0,none⟩)]] w (node_all_page.Found_ l0 w):=by
 have HR0:=am hr0;have HB:=am hb;have hm:=Kd.C_max hr0;clear hr0 hb;(go_enter Try.func66,Try.ntmps66);(go_wp2);(go_loopw [5,8] (fun v5 v8 w' => ∃ (i : Nat),v8 = .int .i64 (i : Int) ∧ i ≤ l0.length ∧ Aside0 (∀ j,j < i → node_all_page.p_ (rd l0 (j : Int)) = true) ∧ Drawn0 w w') (fun _ v8 _ => l0.length - (intOf v8).toNat));(case atStart => exact ⟨0,rfl,Nat.zero_le _,⟨fun j hj => absurd hj (by omega)⟩,Drawn0.refl _⟩)
 case round =>
  obtain ⟨i,rfl,hi,hj,⟨n,rfl⟩⟩:=hrel;(by_cases hlt : i < l0.length)
  ·have c1 : decide (i < l0.length) = true:=decide_eq_true hlt;(obtain ⟨ad,e1,hx⟩:=Kd.at_int HR0.out (i : Int) (by omega) (by omega));cases e1;rw [Int.toNat_natCast] at hx;(have hil : (i : Int) < 9223372036854775807:=by omega)
   cases hp : node_all_page.p_ (rd l0 (i : Int)) with
   | true =>
    have HP:=am hp;clear hp;(go_wp2_with fail);(refine (node_all_page.clo_ _ b (w.drewN n) HB.out).mono ?_);rw [show node_all_page.p_ (rd l0 (i : Int)) = true from HP.out];(rintro e w' ⟨rfl,⟨nd,rfl⟩⟩);(go_wp2);(go_roundw);(case rel => exact ⟨i + 1,by go_num,by omega,⟨node_all_page.more_ l0 i hj.out HP.out⟩,by repeat (first | exact Drawn0.refl _ | apply Drawn0.step)⟩);(case measure => simp [intOf];omega)
   | false =>
    have HP:=am hp;clear hp;(go_wp2_with fail);(refine (node_all_page.clo_ _ b (w.drewN n) HB.out).mono ?_);rw [show node_all_page.p_ (rd l0 (i : Int)) = false from HP.out];(rintro e w' ⟨rfl,⟨nd,rfl⟩⟩);(go_wp2);(go_ret);(exact ⟨(i : Int),rfl,node_all_page.first_ l0 i hlt HP.out,by repeat (first | exact Drawn0.refl _ | apply Drawn0.step)⟩)
  ·have c1 : decide (i < l0.length) = false:=decide_eq_false hlt;(obtain rfl : i = l0.length:=by omega);(go_wp2);(go_ret);(exact ⟨-1,rfl,node_all_page.never_ l0 hj.out,by repeat (first | exact Drawn0.refl _ | apply Drawn0.step)⟩)
set_option maxHeartbeats 1000000 in
set_option maxRecDepth 100000 in
theorem node_all_page.contains_ (A0 : Option Addr) (c0 : Nat) (l0 : List Int) (b : Nat) (w : World) (hr0 : Kd.C (Kd.int .i64) w A0 l0.length l0) (hb : w.cell? ⟨b,0,none⟩ = some (.func (.func 31) #[] #[])) :
  Calls Try.prog 51 #[.slice A0 l0.length c0,.func (.func 52) #[] #[.pointer (some ⟨b,0,none⟩)]] w fun e w' => e = .returned (.bool (l0.any (fun s => !node_all_page.p_ s))) ∧ Drawn0 w w':=by
 have HR0:=am hr0;have HB:=am hb;clear hr0 hb;(go_enter Try.func51,Try.ntmps51);(go_wp2_with fail);(refine (node_all_page.index_ A0 c0 l0 b _ HR0.out HB.out).mono ?_);(rintro e w' ⟨r,rfl,hr,⟨nd,rfl⟩⟩);have HR:=am hr;clear hr;(go_wp2);(go_ret);(exact ⟨by rw [← HR.out];rfl,⟨⟨_,rfl⟩⟩⟩)
set_option maxHeartbeats 1000000 in
set_option maxRecDepth 100000 in
theorem node_all_page.calls (A0 : Option Addr) (c0 : Nat) (l0 : List Int) (r : Bool) (w : World) (hr0 : Kd.C (Kd.int .i64) w A0 l0.length l0) (hc0 : l0.length ≤ c0) (h : node_all_page.f l0 = some r) :
  Calls Try.prog 30 #[.slice A0 l0.length c0,.func (.func 31) #[] #[]] w fun e w' => e = .returned (.bool r) ∧ Below w.heap.size w w':=by
 have hh : r = !(l0.any (fun s => !node_all_page.p_ s)):=by
  have:=Option.some.inj h
  rw [← this,List.all_eq_not_any_not]
 have HH:=am hh;have HR0:=am hr0;(have HC:=am (node_all_page.cell_ w (.func (.func 31) #[] #[]) 54));clear hr0 hc0 h hh;(go_enter Try.func30,Try.ntmps30);(go_wp2_with fail);(refine (node_all_page.contains_ A0 c0 l0 w.heap.size _ (Kd.C_alloc HR0.out _) HC.out).mono ?_);(rintro e w' ⟨rfl,⟨nd,rfl⟩⟩);(go_wp2);(go_ret);(exact ⟨by rw [HH.out];rfl,pw_below_drewN (below_alloc (Below.refl _ _) _) _⟩)

end Go.Proofs.Ytlboglbgdjakmaa.PB

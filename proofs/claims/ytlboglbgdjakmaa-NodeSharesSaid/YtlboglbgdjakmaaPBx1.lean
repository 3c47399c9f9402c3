-- Written by this session's own program wip/bin/dprint.py, over the kit's print.py, with own texts for some functions: no print of print.sh's
import Derived.Test.YtlboglbgdjakmaaPBx0
import Derived.Test.YtlboglbgdjakmaaUps
namespace Go.Proofs.Ytlboglbgdjakmaa.PB
open Go.RowKit Go.Proofs.YtlboglbgdjakmaaW.PrintWords Go.Proofs.YtlboglbgdjakmaaW.PrintLast Go.Proofs.YtlboglbgdjakmaaW.PrintMore
attribute [local go_sem] max2_int min2_int max_two min_two max_three min_three max_four min_four   -- for this text's walks alone
set_option linter.unusedVariables false
set_option linter.unusedSimpArgs false

-- NOT PRINTED: function 65 (slices_IndexFunc_string_string)

-- NOT PRINTED: function 49 (slices_ContainsFunc_string_string)

-- NOT PRINTED: function 27 (node_all_string)

/-! ### node_key: function 28 -/
def node_key.f (a0 : ByteArray) : Option (Bool):=if a0.toList = ([] : List UInt8) then (some false) else (some (decide ((a0.size : Int) ≤ 16)))
set_option maxHeartbeats 40000000 in
set_option maxRecDepth 100000 in
theorem node_key.calls (a0 : ByteArray) (r : Bool) (w : World) (h : node_key.f a0 = some r) :
  Calls Try.prog 28 #[.string a0] w fun e w' => e = .returned (.bool r) ∧ Drawn0 w w':=by
 have H : (if a0.toList = ([] : List UInt8) then (some false) else (some (decide ((a0.size : Int) ≤ 16)))) = some r:=h;clear h;(by_cases c2 : a0.toList = ([] : List UInt8))
 ·rw [if_pos c2] at H;have c2b0 : (a0.toList == ([] : List UInt8)) = true:=beq_iff_eq.mpr c2;have c2b1 : (a0.toList != ([] : List UInt8)) = false:=bne_eq_false_iff_eq.mpr c2;clear c2;obtain rfl:=Option.some.inj H;(go_enter Try.func28,Try.ntmps28);(go_wp2);(go_ret);(exact ⟨by first | rfl | (simp;done) | (simp [*];done) | (simp;rw [Bool.eq_iff_iff];simp;done),by repeat (first | exact Drawn0.refl _ | apply Drawn0.step)⟩)
 ·rw [if_neg c2] at H;have c2b0 : (a0.toList == ([] : List UInt8)) = false:=beq_eq_false_iff_ne.mpr c2;have c2b1 : (a0.toList != ([] : List UInt8)) = true:=bne_iff_ne.mpr c2;obtain rfl:=Option.some.inj H;(go_enter Try.func28,Try.ntmps28);(go_wp2);(go_ret);(exact ⟨by first | rfl | (simp;done) | (simp [*];done) | (simp;rw [Bool.eq_iff_iff];simp;done),by repeat (first | exact Drawn0.refl _ | apply Drawn0.step)⟩)

/-! ### node_value: function 29 -/
def node_value.f (a0 : ByteArray) : Option (Bool):=some (decide ((a0.size : Int) ≤ 32))
set_option maxHeartbeats 40000000 in
set_option maxRecDepth 100000 in
theorem node_value.calls (a0 : ByteArray) (r : Bool) (w : World) (h : node_value.f a0 = some r) :
  Calls Try.prog 29 #[.string a0] w fun e w' => e = .returned (.bool r) ∧ Drawn0 w w':=by
 have H : (some (decide ((a0.size : Int) ≤ 32))) = some r:=h;clear h;obtain rfl:=Option.some.inj H;(go_enter Try.func29,Try.ntmps29);(go_wp2);(go_ret);(exact ⟨by first | rfl | (simp;done) | (simp [*];done) | (simp;rw [Bool.eq_iff_iff];simp;done),by repeat (first | exact Drawn0.refl _ | apply Drawn0.step)⟩)

-- NOT PRINTED: function 66 (slices_IndexFunc_int_int)

-- NOT PRINTED: function 51 (slices_ContainsFunc_int_int)

-- NOT PRINTED: function 30 (node_all_int)

/-! ### node_page: function 31 -/
def node_page.f (a0 : Int) : Option (Bool):=if a0 ≥ 0 then (some (decide (a0 ≤ 2147483647))) else (some false)
set_option maxHeartbeats 40000000 in
set_option maxRecDepth 100000 in
theorem node_page.calls (a0 : Int) (r : Bool) (w : World) (h : node_page.f a0 = some r) :
  Calls Try.prog 31 #[.int .i64 a0] w fun e w' => e = .returned (.bool r) ∧ Drawn0 w w':=by
 have H : (if a0 ≥ 0 then (some (decide (a0 ≤ 2147483647))) else (some false)) = some r:=h;clear h;(by_cases c2 : a0 ≥ 0)
 ·rw [if_pos c2] at H;have c2b0 : decide (0 ≤ a0) = true:=decide_eq_true c2;clear c2;obtain rfl:=Option.some.inj H;(go_enter Try.func31,Try.ntmps31);(go_wp2);(go_ret);(exact ⟨by first | rfl | (simp;done) | (simp [*];done) | (simp;rw [Bool.eq_iff_iff];simp;done),by repeat (first | exact Drawn0.refl _ | apply Drawn0.step)⟩)
 ·rw [if_neg c2] at H;have c2b0 : decide (0 ≤ a0) = false:=decide_eq_false c2;clear c2;obtain rfl:=Option.some.inj H;(go_enter Try.func31,Try.ntmps31);(go_wp2);(go_ret);(exact ⟨by first | rfl | (simp;done) | (simp [*];done) | (simp;rw [Bool.eq_iff_iff];simp;done),by repeat (first | exact Drawn0.refl _ | apply Drawn0.step)⟩)

/-! ### dowser_node.all_string_@dowser_node.key (own text) -/
def node_all_key.p_ (s : ByteArray) : Bool:=!(s.toList == []) && decide ((s.size : Int) ≤ 16)
def node_all_key.f (l : List ByteArray) : Option Bool:=some (l.all node_all_key.p_)
theorem node_all_key.pred_ (s : ByteArray) : node_key.f s = some (node_all_key.p_ s):=by
 unfold node_key.f node_all_key.p_;(by_cases h : s.toList = [])
 ·rw [if_pos h,h];rfl
 ·rw [if_neg h];have : (s.toList == []) = false:=beq_eq_false_iff_ne.mpr h;(rw [this];rfl)
set_option maxHeartbeats 1000000 in
set_option maxRecDepth 100000 in
theorem node_all_key.clo_ (s : ByteArray) (b : Nat) (w : World) (hb : w.cell? ⟨b,0,none⟩ = some (.func (.func 28) #[] #[])) :
  Calls Try.prog 50 #[.string s,.pointer (some ⟨b,0,none⟩)] w fun e w' => e = .returned (.bool (!node_all_key.p_ s)) ∧ Drawn0 w w':=by
 have H:=am (node_all_key.pred_ s);(go_enter Try.func50,Try.ntmps50);(go_wp2_with fail);(refine (node_key.calls s (node_all_key.p_ s) _ H.out).mono ?_);(rintro e w' ⟨rfl,⟨nd,rfl⟩⟩);(go_wp2);(go_ret);exact ⟨rfl,⟨⟨_,rfl⟩⟩⟩
def node_all_key.Found_ (l : List ByteArray) (w : World) (e : Ending) (w' : World) : Prop:=∃ r : Int,e = .returned (.int .i64 r) ∧ decide (0 ≤ r) = l.any (fun s => !node_all_key.p_ s) ∧ Drawn0 w w'
theorem node_all_key.first_ (l : List ByteArray) (i : Nat) (hi : i < l.length) (h : node_all_key.p_ (rdOf ByteArray.empty l (i : Int)) = false) : decide ((0 : Int) ≤ (i : Int)) = l.any (fun s => !node_all_key.p_ s):=by
 rw [decide_eq_true (Int.natCast_nonneg _)];(symm);rw [List.any_eq_true];(refine ⟨l[i],List.getElem_mem hi,?_⟩)
 have : (rdOf ByteArray.empty l (i : Int)) = l[i]:=by
  unfold rdOf;rw [Int.toNat_natCast,List.getD_eq_getElem?_getD,List.getElem?_eq_getElem hi];rfl
 rw [this] at h;(rw [h];rfl)
theorem node_all_key.more_ (l : List ByteArray) (i : Nat) (h : ∀ j,j < i → node_all_key.p_ (rdOf ByteArray.empty l (j : Int)) = true) (hi : node_all_key.p_ (rdOf ByteArray.empty l (i : Int)) = true) : ∀ j,j < i + 1 → node_all_key.p_ (rdOf ByteArray.empty l (j : Int)) = true:=by
 intro j hj;(by_cases e : j = i)
 ·rw [e];exact hi
 ·exact h j (by omega)
theorem node_all_key.cell_ (w : World) (v : Value) (T : TypeId) : (w.alloc (.cells #[v] T)).cell? ⟨w.heap.size,0,Option.none⟩ = some v:=by rw [World.cell?_alloc_new];rfl
theorem node_all_key.never_ (l : List ByteArray) (h : ∀ j,j < l.length → node_all_key.p_ (rdOf ByteArray.empty l (j : Int)) = true) : decide ((0 : Int) ≤ -1) = l.any (fun s => !node_all_key.p_ s):=by
 (symm);rw [show decide ((0 : Int) ≤ -1) = false from rfl,List.any_eq_false];intro s hs;obtain ⟨j,hj,rfl⟩:=List.mem_iff_getElem.1 hs
 have:=h j hj
 have e : (rdOf ByteArray.empty l (j : Int)) = l[j]:=by
  unfold rdOf;rw [Int.toNat_natCast,List.getD_eq_getElem?_getD,List.getElem?_eq_getElem hj];rfl
 rw [e] at this;(rw [this];simp)
set_option maxHeartbeats 2000000 in
set_option maxRecDepth 100000 in
theorem node_all_key.index_ (A0 : Option Addr) (c0 : Nat) (l0 : List ByteArray) (b : Nat) (w : World) (hr0 : Kd.C Kd.string w A0 l0.length l0) (hb : w.cell? ⟨b,0,none⟩ = some (.func (.func 28) #[] #[])) :
  Calls Try.prog 65 #[.slice A0 l0.length c0,.func (.func 50) #[] #[.pointer (some ⟨b,0,none⟩)]] w (node_all_key.Found_ l0 w):=by
 have HR0:=am hr0;have HB:=am hb;have hm:=Kd.C_max hr0;clear hr0 hb;(go_enter Try.func65,Try.ntmps65);(go_wp2);(go_loopw [5,8] (fun v5 v8 w' => ∃ (i : Nat),v8 = .int .i64 (i : Int) ∧ i ≤ l0.length ∧ Aside0 (∀ j,j < i → node_all_key.p_ (rdOf ByteArray.empty l0 (j : Int)) = true) ∧ Drawn0 w w') (fun _ v8 _ => l0.length - (intOf v8).toNat));(case atStart => exact ⟨0,rfl,Nat.zero_le _,⟨fun j hj => absurd hj (by omega)⟩,Drawn0.refl _⟩)
 case round =>
  obtain ⟨i,rfl,hi,hj,⟨n,rfl⟩⟩:=hrel;(by_cases hlt : i < l0.length)
  ·have c1 : decide (i < l0.length) = true:=decide_eq_true hlt;(obtain ⟨ad,e1,hx⟩:=Kd.at_string HR0.out (i : Int) (by omega) (by omega));cases e1;rw [Int.toNat_natCast] at hx;(have hil : (i : Int) < 9223372036854775807:=by omega)
   cases hp : node_all_key.p_ (rdOf ByteArray.empty l0 (i : Int)) with
   | true =>
    have HP:=am hp;clear hp;(go_wp2_with fail);(refine (node_all_key.clo_ _ b (w.drewN n) HB.out).mono ?_);rw [show node_all_key.p_ (rdOf ByteArray.empty l0 (i : Int)) = true from HP.out];(rintro e w' ⟨rfl,⟨nd,rfl⟩⟩);(go_wp2);(go_roundw);(case rel => exact ⟨i + 1,by go_num,by omega,⟨node_all_key.more_ l0 i hj.out HP.out⟩,by repeat (first | exact Drawn0.refl _ | apply Drawn0.step)⟩);(case measure => simp [intOf];omega)
   | false =>
    have HP:=am hp;clear hp;(go_wp2_with fail);(refine (node_all_key.clo_ _ b (w.drewN n) HB.out).mono ?_);rw [show node_all_key.p_ (rdOf ByteArray.empty l0 (i : Int)) = false from HP.out];(rintro e w' ⟨rfl,⟨nd,rfl⟩⟩);(go_wp2);(go_ret);(exact ⟨(i : Int),rfl,node_all_key.first_ l0 i hlt HP.out,by repeat (first | exact Drawn0.refl _ | apply Drawn0.step)⟩)
  ·have c1 : decide (i < l0.length) = false:=decide_eq_false hlt;(obtain rfl : i = l0.length:=by omega);(go_wp2);(go_ret);(exact ⟨-1,rfl,node_all_key.never_ l0 hj.out,by repeat (first | exact Drawn0.refl _ | apply Drawn0.step)⟩)
set_option maxHeartbeats 1000000 in
set_option maxRecDepth 100000 in
theorem node_all_key.contains_ (A0 : Option Addr) (c0 : Nat) (l0 : List ByteArray) (b : Nat) (w : World) (hr0 : Kd.C Kd.string w A0 l0.length l0) (hb : w.cell? ⟨b,0,none⟩ = some (.func (.func 28) #[] #[])) :
  Calls Try.prog 49 #[.slice A0 l0.length c0,.func (.func 50) #[] #[.pointer (some ⟨b,0,none⟩)]] w fun e w' => e = .returned (.bool (l0.any (fun s => !node_all_key.p_ s))) ∧ Drawn0 w w':=by
 have HR0:=am hr0;have HB:=am hb;clear hr0 hb;(go_enter Try.func49,Try.ntmps49);(go_wp2_with fail);(refine (node_all_key.index_ A0 c0 l0 b _ HR0.out HB.out).mono ?_);(rintro e w' ⟨r,rfl,hr,⟨nd,rfl⟩⟩);have HR:=am hr;clear hr;(go_wp2);(go_ret);(exact ⟨by rw [← HR.out];rfl,⟨⟨_,rfl⟩⟩⟩)
set_option maxHeartbeats 1000000 in
set_option maxRecDepth 100000 in
theorem node_all_key.calls (A0 : Option Addr) (c0 : Nat) (l0 : List ByteArray) (r : Bool) (w : World) (hr0 : Kd.C Kd.string w A0 l0.length l0) (hc0 : l0.length ≤ c0) (h : node_all_key.f l0 = some r) :
  Calls Try.prog 27 #[.slice A0 l0.length c0,.func (.func 28) #[] #[]] w fun e w' => e = .returned (.bool r) ∧ Below w.heap.size w w':=by
 have hh : r = !(l0.any (fun s => !node_all_key.p_ s)):=by
  have:=Option.some.inj h
  rw [← this,List.all_eq_not_any_not]
 have HH:=am hh;have HR0:=am hr0;(have HC:=am (node_all_key.cell_ w (.func (.func 28) #[] #[]) 52));clear hr0 hc0 h hh;(go_enter Try.func27,Try.ntmps27);(go_wp2_with fail);(refine (node_all_key.contains_ A0 c0 l0 w.heap.size _ (Kd.C_alloc HR0.out _) HC.out).mono ?_);(rintro e w' ⟨rfl,⟨nd,rfl⟩⟩);(go_wp2);(go_ret);(exact ⟨by rw [HH.out];rfl,pw_below_drewN (below_alloc (Below.refl _ _) _) _⟩)

/-! ### dowser_node.all_string_@dowser_node.value (own text) -/
def node_all_value.p_ (s : ByteArray) : Bool:=decide ((s.size : Int) ≤ 32)
def node_all_value.f (l : List ByteArray) : Option Bool:=some (l.all node_all_value.p_)
theorem node_all_value.pred_ (s : ByteArray) : node_value.f s = some (node_all_value.p_ s):=by
 rfl
set_option maxHeartbeats 1000000 in
set_option maxRecDepth 100000 in
theorem node_all_value.clo_ (s : ByteArray) (b : Nat) (w : World) (hb : w.cell? ⟨b,0,none⟩ = some (.func (.func 29) #[] #[])) :
  Calls Try.prog 50 #[.string s,.pointer (some ⟨b,0,none⟩)] w fun e w' => e = .returned (.bool (!node_all_value.p_ s)) ∧ Drawn0 w w':=by
 have H:=am (node_all_value.pred_ s);(go_enter Try.func50,Try.ntmps50);(go_wp2_with fail);(refine (node_value.calls s (node_all_value.p_ s) _ H.out).mono ?_);(rintro e w' ⟨rfl,⟨nd,rfl⟩⟩);(go_wp2);(go_ret);exact ⟨rfl,⟨⟨_,rfl⟩⟩⟩
def node_all_value.Found_ (l : List ByteArray) (w : World) (e : Ending) (w' : World) : Prop:=∃ r : Int,e = .returned (.int .i64 r) ∧ decide (0 ≤ r) = l.any (fun s => !node_all_value.p_ s) ∧ Drawn0 w w'
theorem node_all_value.first_ (l : List ByteArray) (i : Nat) (hi : i < l.length) (h : node_all_value.p_ (rdOf ByteArray.empty l (i : Int)) = false) : decide ((0 : Int) ≤ (i : Int)) = l.any (fun s => !node_all_value.p_ s):=by
 rw [decide_eq_true (Int.natCast_nonneg _)];(symm);rw [List.any_eq_true];(refine ⟨l[i],List.getElem_mem hi,?_⟩)
 have : (rdOf ByteArray.empty l (i : Int)) = l[i]:=by
  unfold rdOf;rw [Int.toNat_natCast,List.getD_eq_getElem?_getD,List.getElem?_eq_getElem hi];rfl
 rw [this] at h;(rw [h];rfl)
theorem node_all_value.more_ (l : List ByteArray) (i : Nat) (h : ∀ j,j < i → node_all_value.p_ (rdOf ByteArray.empty l (j : Int)) = true) (hi : node_all_value.p_ (rdOf ByteArray.empty l (i : Int)) = true) : ∀ j,j < i + 1 → node_all_value.p_ (rdOf ByteArray.empty l (j : Int)) = true:=by
 intro j hj;(by_cases e : j = i)
 ·rw [e];exact hi
 ·exact h j (by omega)
theorem node_all_value.cell_ (w : World) (v : Value) (T : TypeId) : (w.alloc (.cells #[v] T)).cell? ⟨w.heap.size,0,Option.none⟩ = some v:=by rw [World.cell?_alloc_new];rfl
theorem node_all_value.never_ (l : List ByteArray) (h : ∀ j,j < l.length → node_all_value.p_ (rdOf ByteArray.empty l (j : Int)) = true) : decide ((0 : Int) ≤ -1) = l.any (fun s => !node_all_value.p_ s):=by
 (symm);rw [show decide ((0 : Int) ≤ -1) = false from rfl,List.any_eq_false];intro s hs;obtain ⟨j,hj,rfl⟩:=List.mem_iff_getElem.1 hs
 have:=h j hj
 have e : (rdOf ByteArray.empty l (j : Int)) = l[j]:=by
  unfold rdOf;rw [Int.toNat_natCast,List.getD_eq_getElem?_getD,List.getElem?_eq_getElem hj];rfl
 rw [e] at this;(rw [this];simp)
set_option maxHeartbeats 2000000 in
set_option maxRecDepth 100000 in
theorem node_all_value.index_ (A0 : Option Addr) (c0 : Nat) (l0 : List ByteArray) (b : Nat) (w : World) (hr0 : Kd.C Kd.string w A0 l0.length l0) (hb : w.cell? ⟨b,0,none⟩ = some (.func (.func 29) #[] #[])) :
  Calls Try.prog 65 #[.slice A0 l0.length c0,.func (.func 50) #[] #[.pointer (some ⟨b,0,none⟩)]] w (node_all_value.Found_ l0 w):=by
 have HR0:=am hr0;have HB:=am hb;have hm:=Kd.C_max hr0;clear hr0 hb;(go_enter Try.func65,Try.ntmps65);(go_wp2);(go_loopw [5,8] (fun v5 v8 w' => ∃ (i : Nat),v8 = .int .i64 (i : Int) ∧ i ≤ l0.length ∧ Aside0 (∀ j,j < i → node_all_value.p_ (rdOf ByteArray.empty l0 (j : Int)) = true) ∧ Drawn0 w w') (fun _ v8 _ => l0.length - (intOf v8).toNat));(case atStart => exact ⟨0,rfl,Nat.zero_le _,⟨fun j hj => absurd hj (by omega)⟩,Drawn0.refl _⟩)
 case round =>
  obtain ⟨i,rfl,hi,hj,⟨n,rfl⟩⟩:=hrel;(by_cases hlt : i < l0.length)
  ·have c1 : decide (i < l0.length) = true:=decide_eq_true hlt;(obtain ⟨ad,e1,hx⟩:=Kd.at_string HR0.out (i : Int) (by omega) (by omega));cases e1;rw [Int.toNat_natCast] at hx;(have hil : (i : Int) < 9223372036854775807:=by omega)
   cases hp : node_all_value.p_ (rdOf ByteArray.empty l0 (i : Int)) with
   | true =>
    have HP:=am hp;clear hp;(go_wp2_with fail);(refine (node_all_value.clo_ _ b (w.drewN n) HB.out).mono ?_);rw [show node_all_value.p_ (rdOf ByteArray.empty l0 (i : Int)) = true from HP.out];(rintro e w' ⟨rfl,⟨nd,rfl⟩⟩);(go_wp2);(go_roundw);(case rel => exact ⟨i + 1,by go_num,by omega,⟨node_all_value.more_ l0 i hj.out HP.out⟩,by repeat (first | exact Drawn0.refl _ | apply Drawn0.step)⟩);(case measure => simp [intOf];omega)
   | false =>
    have HP:=am hp;clear hp;(go_wp2_with fail);(refine (node_all_value.clo_ _ b (w.drewN n) HB.out).mono ?_);rw [show node_all_value.p_ (rdOf ByteArray.empty l0 (i : Int)) = false from HP.out];(rintro e w' ⟨rfl,⟨nd,rfl⟩⟩);(go_wp2);(go_ret);(exact ⟨(i : Int),rfl,node_all_value.first_ l0 i hlt HP.out,by repeat (first | exact Drawn0.refl _ | apply Drawn0.step)⟩)
  ·have c1 : decide (i < l0.length) = false:=decide_eq_false hlt;(obtain rfl : i = l0.length:=by omega);(go_wp2);(go_ret);(exact ⟨-1,rfl,node_all_value.never_ l0 hj.out,by repeat (first | exact Drawn0.refl _ | apply Drawn0.step)⟩)
set_option maxHeartbeats 1000000 in
set_option maxRecDepth 100000 in
theorem node_all_value.contains_ (A0 : Option Addr) (c0 : Nat) (l0 : List ByteArray) (b : Nat) (w : World) (hr0 : Kd.C Kd.string w A0 l0.length l0) (hb : w.cell? ⟨b,0,none⟩ = some (.func (.func 29) #[] #[])) :
  Calls Try.prog 49 #[.slice A0 l0.length c0,.func (.func 50) #[] #[.pointer (some ⟨b,0,none⟩)]] w fun e w' => e = .returned (.bool (l0.any (fun s => !node_all_value.p_ s))) ∧ Drawn0 w w':=by
 have HR0:=am hr0;have HB:=am hb;clear hr0 hb;(go_enter Try.func49,Try.ntmps49);(go_wp2_with fail);(refine (node_all_value.index_ A0 c0 l0 b _ HR0.out HB.out).mono ?_);(rintro e w' ⟨r,rfl,hr,⟨nd,rfl⟩⟩);have HR:=am hr;clear hr;(go_wp2);(go_ret);(exact ⟨by rw [← HR.out];rfl,⟨⟨_,rfl⟩⟩⟩)
set_option maxHeartbeats 1000000 in
set_option maxRecDepth 100000 in
theorem node_all_value.calls (A0 : Option Addr) (c0 : Nat) (l0 : List ByteArray) (r : Bool) (w : World) (hr0 : Kd.C Kd.string w A0 l0.length l0) (hc0 : l0.length ≤ c0) (h : node_all_value.f l0 = some r) :
  Calls Try.prog 27 #[.slice A0 l0.length c0,.func (.func 29) #[] #[]] w fun e w' => e = .returned (.bool r) ∧ Below w.heap.size w w':=by
 have hh : r = !(l0.any (fun s => !node_all_value.p_ s)):=by
  have:=Option.some.inj h
  rw [← this,List.all_eq_not_any_not]
 have HH:=am hh;have HR0:=am hr0;(have HC:=am (node_all_value.cell_ w (.func (.func 29) #[] #[]) 52));clear hr0 hc0 h hh;(go_enter Try.func27,Try.ntmps27);(go_wp2_with fail);(refine (node_all_value.contains_ A0 c0 l0 w.heap.size _ (Kd.C_alloc HR0.out _) HC.out).mono ?_);(rintro e w' ⟨rfl,⟨nd,rfl⟩⟩);(go_wp2);(go_ret);(exact ⟨by rw [HH.out];rfl,pw_below_drewN (below_alloc (Below.refl _ _) _) _⟩)

end Go.Proofs.Ytlboglbgdjakmaa.PB

-- Written by this session's own program wip/bin/dprint.py, over the kit's print.py, with own texts for some functions: no print of print.sh's
import Derived.Test.YtlboglbgdjakmaaPBx0
import Derived.Test.YtlboglbgdjakmaaUps
namespace Go.Proofs.Ytlboglbgdjakmaa.PB
open Go.RowKit Go.Proofs.YtlboglbgdjakmaaW.PrintWords Go.Proofs.YtlboglbgdjakmaaW.PrintLast Go.Proofs.YtlboglbgdjakmaaW.PrintMore
attribute [local go_sem] max2_int min2_int max_two min_two max_three min_three max_four min_four   -- for this text's walks alone
set_option linter.unusedVariables false
set_option linter.unusedSimpArgs false

-- NOT PRINTED: function 63 (slices_Grow_string_string)

/-! ### slices.Grow___string_string_@nil (own text) -/
def slices_Grow_string.f (a1 : Int) : Option (List ByteArray):=if 0 ≤ a1 then if a1 ≤ 8796093022208 then some [] else none else none
set_option maxHeartbeats 1000000 in
set_option maxRecDepth 100000 in
theorem slices_Grow_string.calls (a1 : Int) (r : List ByteArray) (w : World) (h : slices_Grow_string.f a1 = some r) :
  Calls Try.prog 63 #[.slice none 0 0,.int .i64 a1] w fun e w' => ∃ v0_ : Value,e = .returned (v0_) ∧ Kd.R Kd.string 9 w' w.heap.size (fun _ => True) v0_ r ∧ Below w.heap.size w w':=by
 (have HI:=am (show (Try.prog.info? 9).map (fun i => (i.zero,i.size,i.bytes)) = some (some (.string ⟨#[]⟩),1,16) by kernel_rfl));unfold slices_Grow_string.f at h;(by_cases h0 : 0 ≤ a1)
 ·rw [if_pos h0] at h;(by_cases h1 : a1 ≤ 8796093022208)
  ·rw [if_pos h1] at h;obtain rfl:=Option.some.inj h;clear h;(by_cases hz : a1 = 0)
   ·subst hz;clear h0 h1;(go_enter Try.func63,Try.ntmps63);(go_wp2);(go_ret);exact ⟨_,rfl,Kd.R_nil _ _ _ _ _,Below.refl _ _⟩
   ·(have hp : 0 < a1:=by omega);have hp2 : decide (0 < a1) = true:=decide_eq_true hp;(have hc0 : decide (a1 < 0) = false:=decide_eq_false (by omega));clear hz;(go_enter Try.func63,Try.ntmps63);(go_wp2_with (at_builtin;refine Kd.R_append_zeros Kd.string (w0:=w) w.heap.size rfl (.tmp 20) (.tmp 21) 22 3 9 (.string ⟨#[]⟩) 16 rfl Try.underlying22 Try.underlying3 HI.out rfl (by decide) (by omega) (.slice none 0 0) [] (⟨#[]⟩ : ByteArray) (a1 : Int) (fun _ => True) rfl rfl rfl (fun _ _ => trivial) (Kd.R_nil _ _ _ _ _) (by omega) (Below.refl _ _) (Nat.le_refl _) (by rw [List.length_nil];omega) ?_;intro v1 w1 ho hb hg hat;rw [List.nil_append] at ho;obtain ⟨A1,c1,e1⟩:=Kd.R_slice ho;subst e1;obtain ⟨n1,hn1⟩ : ∃ n1,(List.replicate a1.toNat (⟨#[]⟩ : ByteArray)).length = n1:=⟨_,rfl⟩;have hcap:=(Kd.R_reads' ho).2.1;rw [hn1] at ho hcap;rw [hn1];obtain ⟨i0,hi0,_,hsz,_⟩:=info_parts HI.out;have hcut:=cut_to (P:=Try.prog) 22 9 .i64 Try.underlying22 hi0 A1 n1 c1 0 (by omega) (by omega) hcap;have ht:=am (Kd.R_take (m:=0) ho (Nat.zero_le _));have HB:=am hb;clear ho hcap hi0 hsz hb hg hat hn1));(go_ret);have h5:=ht.out;rw [List.take_zero] at h5;exact ⟨_,rfl,h5,HB.out⟩
  ·rw [if_neg h1] at h;cases h
 ·rw [if_neg h0] at h;cases h

/-! ### slices_Concat_string_string: function 47 -/
mutual
def slices_Concat_string_string.l0 : Nat → List (List ByteArray) → Int → List (List ByteArray) → Int → Int → Option (List ByteArray)
 | 0,_,_,_,_,_ => none
 | k + 1,x0,x3,x9,x10,x11 => if x11 < x10 then (if 0 ≤ x11 then (if x11 < (x9.length : Int) then (if (wrap64 (x3 + ((rd_L3 x9 x11).length : Int))) < 0 then (none) else (slices_Concat_string_string.l0 k x0 (wrap64 (x3 + ((rd_L3 x9 x11).length : Int))) x9 x10 (wrap64 (x11 + 1)))) else (none)) else (none)) else ((slices_Grow_string.f x3).bind fun t318 => (slices_Concat_string_string.l1 k t318 x0 (x0.length : Int) 0))
def slices_Concat_string_string.l1 : Nat → List ByteArray → List (List ByteArray) → Int → Int → Option (List ByteArray)
 | 0,_,_,_,_ => none
 | k + 1,x6,x25,x26,x27 => if x27 < x26 then (if 0 ≤ x27 then (if x27 < (x25.length : Int) then (if x6.length + (rd_L3 x25 x27).length < 8796093022208 then (slices_Concat_string_string.l1 k (x6 ++ (rd_L3 x25 x27)) x25 x26 (wrap64 (x27 + 1))) else (none)) else (none)) else (none)) else (some x6)
end
def slices_Concat_string_string.f (k : Nat) (l0 : List (List ByteArray)) : Option (List ByteArray):=slices_Concat_string_string.l0 k l0 0 l0 (l0.length : Int) 0
theorem slices_Concat_string_string.mono_l : ∀ k,(∀ y0 y1 y2 y3 y4,LeO (slices_Concat_string_string.l0 k y0 y1 y2 y3 y4) (slices_Concat_string_string.l0 (k + 1) y0 y1 y2 y3 y4)) ∧ (∀ y0 y1 y2 y3,LeO (slices_Concat_string_string.l1 k y0 y1 y2 y3) (slices_Concat_string_string.l1 (k + 1) y0 y1 y2 y3))
 | 0 => ⟨fun _ _ _ _ _ r h => by simp [slices_Concat_string_string.l0] at h,fun _ _ _ _ r h => by simp [slices_Concat_string_string.l1] at h⟩
 | k + 1 => by
  obtain ⟨ih0,ih1⟩:=slices_Concat_string_string.mono_l k;(refine ⟨?_,?_⟩)
  ·intro y0 y1 y2 y3 y4;unfold slices_Concat_string_string.l0
   repeat' first
   | (with_reducible exact ih0 _ _ _ _ _)
   | (with_reducible exact ih1 _ _ _ _)
   | (with_reducible exact LeO.refl _)
   | (with_reducible exact LeO.none _)
   | (with_reducible refine LeO.ite ?_ ?_)
   | (with_reducible refine LeO.bind ?_ (fun _ => ?_))
   | exact ih0 _ _ _ _ _
   | exact ih1 _ _ _ _
   | exact LeO.none _
   | refine LeO.ite ?_ ?_
   | refine LeO.bind ?_ (fun _ => ?_)
  ·intro y0 y1 y2 y3;unfold slices_Concat_string_string.l1
   repeat' first
   | (with_reducible exact ih0 _ _ _ _ _)
   | (with_reducible exact ih1 _ _ _ _)
   | (with_reducible exact LeO.refl _)
   | (with_reducible exact LeO.none _)
   | (with_reducible refine LeO.ite ?_ ?_)
   | (with_reducible refine LeO.bind ?_ (fun _ => ?_))
   | exact ih0 _ _ _ _ _
   | exact ih1 _ _ _ _
   | exact LeO.none _
   | refine LeO.ite ?_ ?_
   | refine LeO.bind ?_ (fun _ => ?_)
theorem slices_Concat_string_string.mono : ∀ a0 k,LeO (slices_Concat_string_string.f k a0) (slices_Concat_string_string.f (k + 1) a0):=by
 intro a0 k;obtain ⟨ih0,ih1⟩:=slices_Concat_string_string.mono_l k;unfold slices_Concat_string_string.f
 repeat' first
   | (with_reducible exact ih0 _ _ _ _ _)
   | (with_reducible exact ih1 _ _ _ _)
   | (with_reducible exact LeO.refl _)
   | (with_reducible exact LeO.none _)
   | (with_reducible refine LeO.ite ?_ ?_)
   | (with_reducible refine LeO.bind ?_ (fun _ => ?_))
   | exact ih0 _ _ _ _ _
   | exact ih1 _ _ _ _
   | exact LeO.none _
   | refine LeO.ite ?_ ?_
   | refine LeO.bind ?_ (fun _ => ?_)
set_option maxHeartbeats 40000000 in
set_option maxRecDepth 100000 in
theorem slices_Concat_string_string.calls (k : Nat) (A0 : Option Addr) (c0 : Nat) (l0 : List (List ByteArray)) (r : List ByteArray) (w : World) (hr0 : Kd.C (Kd.slice 9 Kd.string) w A0 l0.length l0) (hc0 : l0.length ≤ c0) (h : slices_Concat_string_string.f k l0 = some r) :
  Calls Try.prog 47 #[.slice A0 l0.length c0] w fun e w' => ∃ v0_ : Value,e = .returned (v0_) ∧ Kd.R Kd.string 9 w' w.heap.size (fun _ => True) v0_ r ∧ Below w.heap.size w w':=by
 have HR0:=am hr0;have HC0:=am hc0;clear hr0 hc0;have HB:=am (Below.refl w.heap.size w);have H : (slices_Concat_string_string.l0 k l0 0 l0 (l0.length : Int) 0) = some r:=h;clear h;have H':=am H;clear H;(go_enter Try.func47,Try.ntmps47);(go_wp2);(go_loopg [3,11] k (fun kq v3 v11 w' => ∃ (x3_1 : Int) (x11_1 : Int),v3 = .int .i64 x3_1 ∧ v11 = .int .i64 x11_1 ∧ Aside0 (slices_Concat_string_string.l0 kq l0 x3_1 l0 (l0.length : Int) x11_1 = some r) ∧ Aside0 (kq ≤ k) ∧ Aside0 (Below w.heap.size w w')));(case atStart => exact ⟨(0),(0),(by first | rfl | (simp;done) | (simp [*];done) | (simp;rw [Bool.eq_iff_iff];simp;done)),(by first | rfl | (simp;done) | (simp [*];done) | (simp;rw [Bool.eq_iff_iff];simp;done)),H',⟨Nat.le_refl _⟩,⟨lo HB.out⟩⟩)
 case round =>
  clear H';obtain ⟨x3_1,x11_1,rfl,rfl,HA,HK1,HB⟩:=hrel
  cases gk with
  | zero => exact absurd HA.out (by simp [slices_Concat_string_string.l0])
  | succ k1 =>
   have H:=HA.out;clear HA;simp only [slices_Concat_string_string.l0] at H;(by_cases c2 : x11_1 < (l0.length : Int))
   ·rw [if_pos c2] at H;have c2b0 : decide (x11_1 < (l0.length : Int)) = true:=decide_eq_true c2;clear c2;(by_cases c3 : 0 ≤ x11_1)
    ·rw [if_pos c3] at H;have c3b0 : decide (0 ≤ x11_1) = true:=decide_eq_true c3;clear c3;(by_cases c4 : x11_1 < (l0.length : Int))
     ·rw [if_pos c4] at H;have c4b0 : decide (x11_1 < (l0.length : Int)) = true:=decide_eq_true c4;clear c4;(by_cases c5 : (wrap64 (x3_1 + ((rd_L3 l0 x11_1).length : Int))) < 0)
      ·rw [if_pos c5] at H;(exact absurd H (by simp))
      ·rw [if_neg c5] at H;have c5b0 : decide ((wrap64 (x3_1 + ((rd_L3 l0 x11_1).length : Int))) < 0) = false:=decide_eq_false c5;clear c5;have H':=am H;clear H;(have p317 : 0 ≤ (x11_1 : Int):=of_decide_eq_true (by first | (with_reducible assumption) | assumption));(have q317 : x11_1 < (l0.length : Int):=of_decide_eq_true (by first | (with_reducible assumption) | assumption));obtain ⟨ad317,A317_0,c317_0,e317,hx317_0,hl317_0,hi317_0⟩:=at_L3 HR0.out x11_1 p317 q317;cases e317;replace hx317_0:=(HB.out.cell (World.block_lt_of_cell? w _ hx317_0)).trans hx317_0;have HR317_0:=am hi317_0;have HC317_0:=am hl317_0;clear hi317_0 hl317_0;replace p317:=eq_true p317;replace q317:=eq_true q317;(go_wp2);(go_roundg k1);(case measure => have:=HK1.out;omega);(case rel => exact ⟨(wrap64 (x3_1 + ((rd_L3 l0 x11_1).length : Int))),(wrap64 (x11_1 + 1)),(by first | rfl | (simp;done) | (simp [*];done) | (simp;rw [Bool.eq_iff_iff];simp;done)),(by first | rfl | (simp;done) | (simp [*];done) | (simp;rw [Bool.eq_iff_iff];simp;done)),H',⟨by have:=HK1.out;omega⟩,⟨lo HB.out⟩⟩)
     ·rw [if_neg c4] at H;(exact absurd H (by simp))
    ·rw [if_neg c3] at H;(exact absurd H (by simp))
   ·rw [if_neg c2] at H;have c2b0 : decide (x11_1 < (l0.length : Int)) = false:=decide_eq_false c2;clear c2;replace H:=Option.bind_eq_some_iff.mp H;obtain ⟨t318,A60,H⟩:=H;replace H : (slices_Concat_string_string.l1 k1 t318 l0 (l0.length : Int) 0) = some r:=H;have A6:=am A60;clear A60;have H':=am H;clear H;(go_wp2_with (first | (go_at_call 63;(with_reducible refine (slices_Grow_string.calls x3_1 t318 _ A6.out).mono ?_);rintro e w7 ⟨v319,rfl,ho0,hb⟩;have HO320:=am (Kd.R_lower ho0 (below_size (lo HB.out)));replace HB:=am (below_step (lo HB.out) hb);(try clear hb);(try clear hb2);(try clear hk);(try clear hi);(try clear ho0))));(go_loopg [6,27] k1 (fun kq v6 v27 w' => ∃ (x6_2 : List ByteArray) (x27_2 : Int),v27 = .int .i64 x27_2 ∧ Aside0 (slices_Concat_string_string.l1 kq x6_2 l0 (l0.length : Int) x27_2 = some r) ∧ Aside0 (kq ≤ k1) ∧ Aside0 (Kd.R Kd.string 9 w' w.heap.size (fun _ => True) v6 x6_2) ∧ Aside0 (Below w.heap.size w w')));(case atStart => exact ⟨(t318),(0),(by first | rfl | (simp;done) | (simp [*];done) | (simp;rw [Bool.eq_iff_iff];simp;done)),H',⟨Nat.le_refl _⟩,⟨by exact ru HO320.out⟩,⟨lo HB.out⟩⟩)
    case round =>
     clear H';(try clear c2);(try clear c2b0);(try clear p2);(try clear c3);(try clear c3b0);(try clear p3);(try clear q3);(try clear hx3);(try clear c4);(try clear c4b0);(try clear c5);(try clear c5b0);(try clear p6);(try clear hx317_0);(try clear p317);(try clear q317);obtain ⟨x6_2,x27_2,rfl,HA,HK2,HO_6,HB⟩:=hrel
     cases gk with
     | zero => exact absurd HA.out (by simp [slices_Concat_string_string.l1])
     | succ k2 =>
      have H:=HA.out;clear HA;simp only [slices_Concat_string_string.l1] at H;(by_cases c8 : x27_2 < (l0.length : Int))
      ·rw [if_pos c8] at H;have c8b0 : decide (x27_2 < (l0.length : Int)) = true:=decide_eq_true c8;clear c8;(by_cases c9 : 0 ≤ x27_2)
       ·rw [if_pos c9] at H;have c9b0 : decide (0 ≤ x27_2) = true:=decide_eq_true c9;clear c9;(by_cases c10 : x27_2 < (l0.length : Int))
        ·rw [if_pos c10] at H;have c10b0 : decide (x27_2 < (l0.length : Int)) = true:=decide_eq_true c10;clear c10;(by_cases c11 : x6_2.length + (rd_L3 l0 x27_2).length < 8796093022208)
         ·rw [if_pos c11] at H;have LMc11:=am c11;clear c11;obtain ⟨y322,hy322⟩ : ∃ y_ : List ByteArray,y_ = (x6_2 ++ (rd_L3 l0 x27_2)):=⟨_,rfl⟩;(replace H : (slices_Concat_string_string.l1 k2 y322 l0 (l0.length : Int) (wrap64 (x27_2 + 1))) = some r:=by first | (rw [hy322];with_reducible exact H) | (have H2_:=(Option.bind_some _ _).symm.trans H;rw [hy322];with_reducible exact H2_) | (have H2_:=(Option.bind_some _ _).symm.trans H;with_reducible exact H2_) | with_reducible exact H | (rw [hy322];exact H) | exact H);have Ny322:=am hy322;clear hy322;have H':=am H;clear H;(have p321 : 0 ≤ (x27_2 : Int):=of_decide_eq_true (by first | (with_reducible assumption) | assumption));(have q321 : x27_2 < (l0.length : Int):=of_decide_eq_true (by first | (with_reducible assumption) | assumption));obtain ⟨ad321,A321_0,c321_0,e321,hx321_0,hl321_0,hi321_0⟩:=at_L3 HR0.out x27_2 p321 q321;cases e321;replace hx321_0:=(HB.out.cell (World.block_lt_of_cell? w _ hx321_0)).trans hx321_0;have HR321_0:=am hi321_0;have HC321_0:=am hl321_0;clear hi321_0 hl321_0;replace p321:=eq_true p321;replace q321:=eq_true q321;(go_wp2_with (first | ((with_reducible refine gate_builtin (b:=.append) (xs:=#[.tmp 31,.tmp 32]) rfl ?_);at_builtin;refine Kd.R_append_rows Kd.string (w0:=w) w.heap.size rfl (.tmp 31) (.tmp 32) 22 9 (.string ⟨#[]⟩) 16 rfl Try.underlying22 info9 rfl (by decide) (by omega) u6 x6_2 (rd_L3 l0 x27_2) _ _ _ (fun _ => True) (fun _ => False) rfl rfl ?aO ?aR (fun _ _ h => h) (fun _ h => h.elim) ?aF ?aB ?aS ?aL ?_;(case aR => exact cu (Kd.C_below HR321_0.out HB.out));(case aB => exact lo HB.out);(case aF => exact (fun _ _ => trivial));(case aO => exact ru HO_6.out);(case aS => exact (below_size (lo HB.out)));(case aL => have:=LMc11.out;omega);intro v323 w12 ho hb hg hat;rw [← Ny322.out] at ho;replace HB:=am (hb);have HO324:=am (ho);clear HO_6;clear ho hb hg hat)));(go_roundg k2);(case measure => have:=HK1.out;have:=HK2.out;omega);(case rel => exact ⟨(y322),(wrap64 (x27_2 + 1)),(by first | rfl | (simp;done) | (simp [*];done) | (simp;rw [Bool.eq_iff_iff];simp;done)),H',⟨by have:=HK1.out;have:=HK2.out;omega⟩,⟨by exact ru HO324.out⟩,⟨lo HB.out⟩⟩)
         ·rw [if_neg c11] at H;(exact absurd H (by simp))
        ·rw [if_neg c10] at H;(exact absurd H (by simp))
       ·rw [if_neg c9] at H;(exact absurd H (by simp))
      ·rw [if_neg c8] at H;have c8b0 : decide (x27_2 < (l0.length : Int)) = false:=decide_eq_false c8;clear c8;obtain rfl:=Option.some.inj H;(go_wp2);(go_ret);(exact ⟨_,by first | rfl | (simp [errW_none,errW_some] <;> rfl) | (simp [*,errW_none,errW_some] <;> rfl),by exact ru HO_6.out,lo HB.out⟩)

-- NOT PRINTED: function 64 (slices_Grow_int_int)

/-! ### slices.Grow___int_int_@nil (own text) -/
def slices_Grow_int.f (a1 : Int) : Option (List Int):=if 0 ≤ a1 then if a1 ≤ 17592186044416 then some [] else none else none
set_option maxHeartbeats 1000000 in
set_option maxRecDepth 100000 in
theorem slices_Grow_int.calls (a1 : Int) (r : List Int) (w : World) (h : slices_Grow_int.f a1 = some r) :
  Calls Try.prog 64 #[.slice none 0 0,.int .i64 a1] w fun e w' => ∃ v0_ : Value,e = .returned (v0_) ∧ Kd.R (Kd.int .i64) 3 w' w.heap.size (fun _ => True) v0_ r ∧ Below w.heap.size w w':=by
 (have HI:=am (show (Try.prog.info? 3).map (fun i => (i.zero,i.size,i.bytes)) = some (some (.int .i64 0),1,8) by kernel_rfl));unfold slices_Grow_int.f at h;(by_cases h0 : 0 ≤ a1)
 ·rw [if_pos h0] at h;(by_cases h1 : a1 ≤ 17592186044416)
  ·rw [if_pos h1] at h;obtain rfl:=Option.some.inj h;clear h;(by_cases hz : a1 = 0)
   ·subst hz;clear h0 h1;(go_enter Try.func64,Try.ntmps64);(go_wp2);(go_ret);exact ⟨_,rfl,Kd.R_nil _ _ _ _ _,Below.refl _ _⟩
   ·(have hp : 0 < a1:=by omega);have hp2 : decide (0 < a1) = true:=decide_eq_true hp;(have hc0 : decide (a1 < 0) = false:=decide_eq_false (by omega));clear hz;(go_enter Try.func64,Try.ntmps64);(go_wp2_with (at_builtin;refine Kd.R_append_zeros (Kd.int .i64) (w0:=w) w.heap.size rfl (.tmp 20) (.tmp 21) 23 3 3 (.int .i64 0) 8 rfl Try.underlying23 Try.underlying3 HI.out rfl (by decide) (by omega) (.slice none 0 0) [] (0 : Int) (a1 : Int) (fun _ => True) rfl rfl rfl (fun _ _ => trivial) (Kd.R_nil _ _ _ _ _) (by omega) (Below.refl _ _) (Nat.le_refl _) (by rw [List.length_nil];omega) ?_;intro v1 w1 ho hb hg hat;rw [List.nil_append] at ho;obtain ⟨A1,c1,e1⟩:=Kd.R_slice ho;subst e1;obtain ⟨n1,hn1⟩ : ∃ n1,(List.replicate a1.toNat (0 : Int)).length = n1:=⟨_,rfl⟩;have hcap:=(Kd.R_reads' ho).2.1;rw [hn1] at ho hcap;rw [hn1];obtain ⟨i0,hi0,_,hsz,_⟩:=info_parts HI.out;have hcut:=cut_to (P:=Try.prog) 23 3 .i64 Try.underlying23 hi0 A1 n1 c1 0 (by omega) (by omega) hcap;have ht:=am (Kd.R_take (m:=0) ho (Nat.zero_le _));have HB:=am hb;clear ho hcap hi0 hsz hb hg hat hn1));(go_ret);have h5:=ht.out;rw [List.take_zero] at h5;exact ⟨_,rfl,h5,HB.out⟩
  ·rw [if_neg h1] at h;cases h
 ·rw [if_neg h0] at h;cases h

end Go.Proofs.Ytlboglbgdjakmaa.PB

-- Written by this session's own program wip/bin/dprint.py, over the kit's print.py, with own texts for some functions: no print of print.sh's
import Derived.Test.YtkpjkgfaepidaaaDoorPCx0
import Derived.Test.YtkpjkgfaepidaaaDoorUps
namespace Go.Proofs.YtkpjkgfaepidaaaDoor.PC
open Go.RowKit Go.Proofs.YtkpjkgfaepidaaaDoorW.PrintWords Go.Proofs.YtkpjkgfaepidaaaDoorW.PrintLast Go.Proofs.YtkpjkgfaepidaaaDoorW.PrintMore
attribute [local go_sem] max2_int min2_int max_two min_two max_three min_three max_four min_four   -- for this text's walks alone
set_option linter.unusedVariables false
set_option linter.unusedSimpArgs false

/-! ### dowserref28_Count: function 43 -/
mutual
def dowserref28_Count.j0 : Nat → Int → Bool → Option (Int)
 | 0,_,_ => none
 | k + 1,x3,x4 => if x4 = true then (some 0) else (if x3 = 2 then (dowserref28_Count.j1 k x3 (x3 == 2)) else (if x3 = 13 then (dowserref28_Count.j1 k x3 (x3 == 13)) else (if x3 = 14 then (dowserref28_Count.j1 k x3 (x3 == 14)) else (dowserref28_Count.j1 k x3 (x3 == 16)))))
def dowserref28_Count.j1 : Nat → Int → Bool → Option (Int)
 | 0,_,_ => none
 | k + 1,x3,x8 => if x8 = true then (some 1) else (if x3 = 5 then (dowserref28_Count.j2 k x3 (x3 == 5)) else (if x3 = 8 then (dowserref28_Count.j2 k x3 (x3 == 8)) else (if x3 = 9 then (dowserref28_Count.j2 k x3 (x3 == 9)) else (if x3 = 10 then (dowserref28_Count.j2 k x3 (x3 == 10)) else (if x3 = 11 then (dowserref28_Count.j2 k x3 (x3 == 11)) else (if x3 = 12 then (dowserref28_Count.j2 k x3 (x3 == 12)) else (dowserref28_Count.j2 k x3 (x3 == 15))))))))
def dowserref28_Count.j2 : Nat → Int → Bool → Option (Int)
 | 0,_,_ => none
 | k + 1,x3,x13 => if x13 = true then (some 2) else (if x3 = 6 then (some 3) else (if x3 = 7 then (some 3) else (some (-1))))
end
def dowserref28_Count.f (k : Nat) (a0 : Int) : Option (Int):=if a0 = 1 then (dowserref28_Count.j0 k a0 (a0 == 1)) else (if a0 = 3 then (dowserref28_Count.j0 k a0 (a0 == 3)) else (dowserref28_Count.j0 k a0 (a0 == 4)))
theorem dowserref28_Count.mono_l : ∀ k,(∀ y0 y1,LeO (dowserref28_Count.j0 k y0 y1) (dowserref28_Count.j0 (k + 1) y0 y1)) ∧ (∀ y0 y1,LeO (dowserref28_Count.j1 k y0 y1) (dowserref28_Count.j1 (k + 1) y0 y1)) ∧ (∀ y0 y1,LeO (dowserref28_Count.j2 k y0 y1) (dowserref28_Count.j2 (k + 1) y0 y1))
 | 0 => ⟨fun _ _ r h => by simp [dowserref28_Count.j0] at h,fun _ _ r h => by simp [dowserref28_Count.j1] at h,fun _ _ r h => by simp [dowserref28_Count.j2] at h⟩
 | k + 1 => by
  obtain ⟨ih0,ih1,ih2⟩:=dowserref28_Count.mono_l k;(refine ⟨?_,?_,?_⟩)
  ·intro y0 y1;unfold dowserref28_Count.j0
   repeat' first
   | (with_reducible exact ih0 _ _)
   | (with_reducible exact ih1 _ _)
   | (with_reducible exact ih2 _ _)
   | (with_reducible exact LeO.refl _)
   | (with_reducible exact LeO.none _)
   | (with_reducible refine LeO.ite ?_ ?_)
   | (with_reducible refine LeO.bind ?_ (fun _ => ?_))
   | exact ih0 _ _
   | exact ih1 _ _
   | exact ih2 _ _
   | exact LeO.none _
   | refine LeO.ite ?_ ?_
   | refine LeO.bind ?_ (fun _ => ?_)
  ·intro y0 y1;unfold dowserref28_Count.j1
   repeat' first
   | (with_reducible exact ih0 _ _)
   | (with_reducible exact ih1 _ _)
   | (with_reducible exact ih2 _ _)
   | (with_reducible exact LeO.refl _)
   | (with_reducible exact LeO.none _)
   | (with_reducible refine LeO.ite ?_ ?_)
   | (with_reducible refine LeO.bind ?_ (fun _ => ?_))
   | exact ih0 _ _
   | exact ih1 _ _
   | exact ih2 _ _
   | exact LeO.none _
   | refine LeO.ite ?_ ?_
   | refine LeO.bind ?_ (fun _ => ?_)
  ·intro y0 y1;unfold dowserref28_Count.j2
   repeat' first
   | (with_reducible exact ih0 _ _)
   | (with_reducible exact ih1 _ _)
   | (with_reducible exact ih2 _ _)
   | (with_reducible exact LeO.refl _)
   | (with_reducible exact LeO.none _)
   | (with_reducible refine LeO.ite ?_ ?_)
   | (with_reducible refine LeO.bind ?_ (fun _ => ?_))
   | exact ih0 _ _
   | exact ih1 _ _
   | exact ih2 _ _
   | exact LeO.none _
   | refine LeO.ite ?_ ?_
   | refine LeO.bind ?_ (fun _ => ?_)
theorem dowserref28_Count.mono : ∀ a0 k,LeO (dowserref28_Count.f k a0) (dowserref28_Count.f (k + 1) a0):=by
 intro a0 k;obtain ⟨ih0,ih1,ih2⟩:=dowserref28_Count.mono_l k;unfold dowserref28_Count.f
 repeat' first
   | (with_reducible exact ih0 _ _)
   | (with_reducible exact ih1 _ _)
   | (with_reducible exact ih2 _ _)
   | (with_reducible exact LeO.refl _)
   | (with_reducible exact LeO.none _)
   | (with_reducible refine LeO.ite ?_ ?_)
   | (with_reducible refine LeO.bind ?_ (fun _ => ?_))
   | exact ih0 _ _
   | exact ih1 _ _
   | exact ih2 _ _
   | exact LeO.none _
   | refine LeO.ite ?_ ?_
   | refine LeO.bind ?_ (fun _ => ?_)
set_option maxHeartbeats 40000000 in
set_option maxRecDepth 100000 in
theorem dowserref28_Count.calls (k : Nat) (a0 : Int) (r : Int) (w : World) (h : dowserref28_Count.f k a0 = some r) :
  Calls Tryd.prog 43 #[.int .i64 a0] w fun e w' => e = .returned (.int .i64 r) ∧ Drawn0 w w':=by
 have H : (if a0 = 1 then (dowserref28_Count.j0 k a0 (a0 == 1)) else (if a0 = 3 then (dowserref28_Count.j0 k a0 (a0 == 3)) else (dowserref28_Count.j0 k a0 (a0 == 4)))) = some r:=h;clear h;have HC2:=am H;clear H;(go_enter Tryd.func43,Tryd.ntmps43);(go_upto_if 4 with (fail));(go_cut [4] (fun v4 wc => ∃ (kq : Nat) (x4_1 : Bool),v4 = .bool x4_1 ∧ Aside0 (dowserref28_Count.j0 kq a0 x4_1 = some r) ∧ Aside0 (kq ≤ k) ∧ Drawn0 w wc))
 case first =>
  have H:=HC2.out;clear HC2;(by_cases c3 : a0 = 1)
  ·rw [if_pos c3] at H;have c3b0 : (a0 == 1) = true:=beq_iff_eq.mpr c3;have c3b1 : (a0 != 1) = false:=bne_eq_false_iff_eq.mpr c3;clear c3;(first | rw [c3b0] | (simp only [i64_w,i32_w];rw [c3b0]) | skip);have H':=am H;clear H;(go_wp2);(go_meet);(case rel => exact ⟨_,((a0 == 1)),(by first | rfl | (simp;done) | (simp [*];done) | (simp;rw [Bool.eq_iff_iff];simp;done)),H',⟨by first | omega | exact Nat.le_refl _⟩,by repeat (first | exact Drawn0.refl _ | apply Drawn0.step)⟩)
  ·rw [if_neg c3] at H;have c3b0 : (a0 == 1) = false:=beq_eq_false_iff_ne.mpr c3;have c3b1 : (a0 != 1) = true:=bne_iff_ne.mpr c3;(first | rw [c3b0] | (simp only [i64_w,i32_w];rw [c3b0]) | skip);(by_cases c4 : a0 = 3)
   ·rw [if_pos c4] at H;have c4b0 : (a0 == 3) = true:=beq_iff_eq.mpr c4;have c4b1 : (a0 != 3) = false:=bne_eq_false_iff_eq.mpr c4;clear c4;have H':=am H;clear H;(go_wp2);(go_meet);(case rel => exact ⟨_,((a0 == 3)),(by first | rfl | (simp;done) | (simp [*];done) | (simp;rw [Bool.eq_iff_iff];simp;done)),H',⟨by first | omega | exact Nat.le_refl _⟩,by repeat (first | exact Drawn0.refl _ | apply Drawn0.step)⟩)
   ·rw [if_neg c4] at H;have c4b0 : (a0 == 3) = false:=beq_eq_false_iff_ne.mpr c4;have c4b1 : (a0 != 3) = true:=bne_iff_ne.mpr c4;have H':=am H;clear H;(go_wp2);(go_meet);(case rel => exact ⟨_,((a0 == 4)),(by first | rfl | (simp;done) | (simp [*];done) | (simp;rw [Bool.eq_iff_iff];simp;done)),H',⟨by first | omega | exact Nat.le_refl _⟩,by repeat (first | exact Drawn0.refl _ | apply Drawn0.step)⟩)
 case rest =>
  clear HC2;(try clear p2);(try clear c3);(try clear c3b0);(try clear c3b1);(try clear c4);(try clear c4b0);(try clear c4b1);obtain ⟨kq,x4_1,rfl,HA,HJ1,⟨mc1,rfl⟩⟩:=hcut
  cases kq with
  | zero => exact absurd HA.out (by simp [dowserref28_Count.j0])
  | succ kj1 =>
   have H:=HA.out;clear HA;simp only [dowserref28_Count.j0] at H;(by_cases c5 : x4_1 = true)
   ·subst c5;(have H1 : (some 0) = some r:=by rw [if_pos rfl] at H;exact H);clear H;have H:=H1;clear H1;obtain rfl:=Option.some.inj H;(go_wp2);(go_ret);(exact ⟨by first | rfl | (simp;done) | (simp [*];done) | (simp;rw [Bool.eq_iff_iff];simp;done),by repeat (first | exact Drawn0.refl _ | apply Drawn0.step)⟩)
   ·replace c5:=Bool.eq_false_iff.mpr c5;subst c5;(have H1 : (if a0 = 2 then (dowserref28_Count.j1 kj1 a0 (a0 == 2)) else (if a0 = 13 then (dowserref28_Count.j1 kj1 a0 (a0 == 13)) else (if a0 = 14 then (dowserref28_Count.j1 kj1 a0 (a0 == 14)) else (dowserref28_Count.j1 kj1 a0 (a0 == 16))))) = some r:=by rw [if_neg (show ¬ (false = true) by decide)] at H;exact H);clear H;have H:=H1;clear H1;have HC6:=am H;clear H;(go_upto_if 8 with (fail));(go_cut [8] (fun v8 wc => ∃ (kq : Nat) (x8_5 : Bool),v8 = .bool x8_5 ∧ Aside0 (dowserref28_Count.j1 kq a0 x8_5 = some r) ∧ Aside0 (kq ≤ kj1) ∧ Drawn0 w wc))
    case first =>
     have H:=HC6.out;clear HC6;(by_cases c7 : a0 = 2)
     ·rw [if_pos c7] at H;have c7b0 : (a0 == 2) = true:=beq_iff_eq.mpr c7;have c7b1 : (a0 != 2) = false:=bne_eq_false_iff_eq.mpr c7;clear c7;(first | rw [c7b0] | (simp only [i64_w,i32_w];rw [c7b0]) | skip);have H':=am H;clear H;(go_wp2);(go_meet);(case rel => exact ⟨_,((a0 == 2)),(by first | rfl | (simp;done) | (simp [*];done) | (simp;rw [Bool.eq_iff_iff];simp;done)),H',⟨by have:=HJ1.out;first | omega | exact Nat.le_refl _⟩,by repeat (first | exact Drawn0.refl _ | apply Drawn0.step)⟩)
     ·rw [if_neg c7] at H;have c7b0 : (a0 == 2) = false:=beq_eq_false_iff_ne.mpr c7;have c7b1 : (a0 != 2) = true:=bne_iff_ne.mpr c7;(first | rw [c7b0] | (simp only [i64_w,i32_w];rw [c7b0]) | skip);(by_cases c8 : a0 = 13)
      ·rw [if_pos c8] at H;have c8b0 : (a0 == 13) = true:=beq_iff_eq.mpr c8;have c8b1 : (a0 != 13) = false:=bne_eq_false_iff_eq.mpr c8;clear c8;have H':=am H;clear H;(go_wp2);(go_meet);(case rel => exact ⟨_,((a0 == 13)),(by first | rfl | (simp;done) | (simp [*];done) | (simp;rw [Bool.eq_iff_iff];simp;done)),H',⟨by have:=HJ1.out;first | omega | exact Nat.le_refl _⟩,by repeat (first | exact Drawn0.refl _ | apply Drawn0.step)⟩)
      ·rw [if_neg c8] at H;have c8b0 : (a0 == 13) = false:=beq_eq_false_iff_ne.mpr c8;have c8b1 : (a0 != 13) = true:=bne_iff_ne.mpr c8;(by_cases c9 : a0 = 14)
       ·rw [if_pos c9] at H;have c9b0 : (a0 == 14) = true:=beq_iff_eq.mpr c9;have c9b1 : (a0 != 14) = false:=bne_eq_false_iff_eq.mpr c9;clear c9;have H':=am H;clear H;(go_wp2);(go_meet);(case rel => exact ⟨_,((a0 == 14)),(by first | rfl | (simp;done) | (simp [*];done) | (simp;rw [Bool.eq_iff_iff];simp;done)),H',⟨by have:=HJ1.out;first | omega | exact Nat.le_refl _⟩,by repeat (first | exact Drawn0.refl _ | apply Drawn0.step)⟩)
       ·rw [if_neg c9] at H;have c9b0 : (a0 == 14) = false:=beq_eq_false_iff_ne.mpr c9;have c9b1 : (a0 != 14) = true:=bne_iff_ne.mpr c9;have H':=am H;clear H;(go_wp2);(go_meet);(case rel => exact ⟨_,((a0 == 16)),(by first | rfl | (simp;done) | (simp [*];done) | (simp;rw [Bool.eq_iff_iff];simp;done)),H',⟨by have:=HJ1.out;first | omega | exact Nat.le_refl _⟩,by repeat (first | exact Drawn0.refl _ | apply Drawn0.step)⟩)
    case rest =>
     clear HC6;(try clear c1);(try clear p2);(try clear c3);(try clear c3b0);(try clear c3b1);(try clear c4);(try clear c4b0);(try clear c4b1);(try clear c5);(try clear c7);(try clear c7b0);(try clear c7b1);(try clear c8);(try clear c8b0);(try clear c8b1);(try clear c9);(try clear c9b0);(try clear c9b1);(try clear p2);obtain ⟨kq,x8_5,rfl,HA,HJ5,⟨mc5,rfl⟩⟩:=hcut
     cases kq with
     | zero => exact absurd HA.out (by simp [dowserref28_Count.j1])
     | succ kj5 =>
      have H:=HA.out;clear HA;simp only [dowserref28_Count.j1] at H;(by_cases c10 : x8_5 = true)
      ·subst c10;(have H1 : (some 1) = some r:=by rw [if_pos rfl] at H;exact H);clear H;have H:=H1;clear H1;obtain rfl:=Option.some.inj H;(go_wp2);(go_ret);(exact ⟨by first | rfl | (simp;done) | (simp [*];done) | (simp;rw [Bool.eq_iff_iff];simp;done),by repeat (first | exact Drawn0.refl _ | apply Drawn0.step)⟩)
      ·replace c10:=Bool.eq_false_iff.mpr c10;subst c10;(have H1 : (if a0 = 5 then (dowserref28_Count.j2 kj5 a0 (a0 == 5)) else (if a0 = 8 then (dowserref28_Count.j2 kj5 a0 (a0 == 8)) else (if a0 = 9 then (dowserref28_Count.j2 kj5 a0 (a0 == 9)) else (if a0 = 10 then (dowserref28_Count.j2 kj5 a0 (a0 == 10)) else (if a0 = 11 then (dowserref28_Count.j2 kj5 a0 (a0 == 11)) else (if a0 = 12 then (dowserref28_Count.j2 kj5 a0 (a0 == 12)) else (dowserref28_Count.j2 kj5 a0 (a0 == 15)))))))) = some r:=by rw [if_neg (show ¬ (false = true) by decide)] at H;exact H);clear H;have H:=H1;clear H1;have HC11:=am H;clear H;(go_upto_if 13 with (fail));(go_cut [13] (fun v13 wc => ∃ (kq : Nat) (x13_10 : Bool),v13 = .bool x13_10 ∧ Aside0 (dowserref28_Count.j2 kq a0 x13_10 = some r) ∧ Aside0 (kq ≤ kj5) ∧ Drawn0 w wc))
       case first =>
        have H:=HC11.out;clear HC11;(by_cases c12 : a0 = 5)
        ·rw [if_pos c12] at H;have c12b0 : (a0 == 5) = true:=beq_iff_eq.mpr c12;have c12b1 : (a0 != 5) = false:=bne_eq_false_iff_eq.mpr c12;clear c12;(first | rw [c12b0] | (simp only [i64_w,i32_w];rw [c12b0]) | skip);have H':=am H;clear H;(go_wp2);(go_meet);(case rel => exact ⟨_,((a0 == 5)),(by first | rfl | (simp;done) | (simp [*];done) | (simp;rw [Bool.eq_iff_iff];simp;done)),H',⟨by have:=HJ1.out;have:=HJ5.out;first | omega | exact Nat.le_refl _⟩,by repeat (first | exact Drawn0.refl _ | apply Drawn0.step)⟩)
        ·rw [if_neg c12] at H;have c12b0 : (a0 == 5) = false:=beq_eq_false_iff_ne.mpr c12;have c12b1 : (a0 != 5) = true:=bne_iff_ne.mpr c12;(first | rw [c12b0] | (simp only [i64_w,i32_w];rw [c12b0]) | skip);(by_cases c13 : a0 = 8)
         ·rw [if_pos c13] at H;have c13b0 : (a0 == 8) = true:=beq_iff_eq.mpr c13;have c13b1 : (a0 != 8) = false:=bne_eq_false_iff_eq.mpr c13;clear c13;have H':=am H;clear H;(go_wp2);(go_meet);(case rel => exact ⟨_,((a0 == 8)),(by first | rfl | (simp;done) | (simp [*];done) | (simp;rw [Bool.eq_iff_iff];simp;done)),H',⟨by have:=HJ1.out;have:=HJ5.out;first | omega | exact Nat.le_refl _⟩,by repeat (first | exact Drawn0.refl _ | apply Drawn0.step)⟩)
         ·rw [if_neg c13] at H;have c13b0 : (a0 == 8) = false:=beq_eq_false_iff_ne.mpr c13;have c13b1 : (a0 != 8) = true:=bne_iff_ne.mpr c13;(by_cases c14 : a0 = 9)
          ·rw [if_pos c14] at H;have c14b0 : (a0 == 9) = true:=beq_iff_eq.mpr c14;have c14b1 : (a0 != 9) = false:=bne_eq_false_iff_eq.mpr c14;clear c14;have H':=am H;clear H;(go_wp2);(go_meet);(case rel => exact ⟨_,((a0 == 9)),(by first | rfl | (simp;done) | (simp [*];done) | (simp;rw [Bool.eq_iff_iff];simp;done)),H',⟨by have:=HJ1.out;have:=HJ5.out;first | omega | exact Nat.le_refl _⟩,by repeat (first | exact Drawn0.refl _ | apply Drawn0.step)⟩)
          ·rw [if_neg c14] at H;have c14b0 : (a0 == 9) = false:=beq_eq_false_iff_ne.mpr c14;have c14b1 : (a0 != 9) = true:=bne_iff_ne.mpr c14;(by_cases c15 : a0 = 10)
           ·rw [if_pos c15] at H;have c15b0 : (a0 == 10) = true:=beq_iff_eq.mpr c15;have c15b1 : (a0 != 10) = false:=bne_eq_false_iff_eq.mpr c15;clear c15;have H':=am H;clear H;(go_wp2);(go_meet);(case rel => exact ⟨_,((a0 == 10)),(by first | rfl | (simp;done) | (simp [*];done) | (simp;rw [Bool.eq_iff_iff];simp;done)),H',⟨by have:=HJ1.out;have:=HJ5.out;first | omega | exact Nat.le_refl _⟩,by repeat (first | exact Drawn0.refl _ | apply Drawn0.step)⟩)
           ·rw [if_neg c15] at H;have c15b0 : (a0 == 10) = false:=beq_eq_false_iff_ne.mpr c15;have c15b1 : (a0 != 10) = true:=bne_iff_ne.mpr c15;(by_cases c16 : a0 = 11)
            ·rw [if_pos c16] at H;have c16b0 : (a0 == 11) = true:=beq_iff_eq.mpr c16;have c16b1 : (a0 != 11) = false:=bne_eq_false_iff_eq.mpr c16;clear c16;have H':=am H;clear H;(go_wp2);(go_meet);(case rel => exact ⟨_,((a0 == 11)),(by first | rfl | (simp;done) | (simp [*];done) | (simp;rw [Bool.eq_iff_iff];simp;done)),H',⟨by have:=HJ1.out;have:=HJ5.out;first | omega | exact Nat.le_refl _⟩,by repeat (first | exact Drawn0.refl _ | apply Drawn0.step)⟩)
            ·rw [if_neg c16] at H;have c16b0 : (a0 == 11) = false:=beq_eq_false_iff_ne.mpr c16;have c16b1 : (a0 != 11) = true:=bne_iff_ne.mpr c16;(by_cases c17 : a0 = 12)
             ·rw [if_pos c17] at H;have c17b0 : (a0 == 12) = true:=beq_iff_eq.mpr c17;have c17b1 : (a0 != 12) = false:=bne_eq_false_iff_eq.mpr c17;clear c17;have H':=am H;clear H;(go_wp2);(go_meet);(case rel => exact ⟨_,((a0 == 12)),(by first | rfl | (simp;done) | (simp [*];done) | (simp;rw [Bool.eq_iff_iff];simp;done)),H',⟨by have:=HJ1.out;have:=HJ5.out;first | omega | exact Nat.le_refl _⟩,by repeat (first | exact Drawn0.refl _ | apply Drawn0.step)⟩)
             ·rw [if_neg c17] at H;have c17b0 : (a0 == 12) = false:=beq_eq_false_iff_ne.mpr c17;have c17b1 : (a0 != 12) = true:=bne_iff_ne.mpr c17;have H':=am H;clear H;(go_wp2);(go_meet);(case rel => exact ⟨_,((a0 == 15)),(by first | rfl | (simp;done) | (simp [*];done) | (simp;rw [Bool.eq_iff_iff];simp;done)),H',⟨by have:=HJ1.out;have:=HJ5.out;first | omega | exact Nat.le_refl _⟩,by repeat (first | exact Drawn0.refl _ | apply Drawn0.step)⟩)
       case rest =>
        clear HC11;(try clear c1);(try clear p2);(try clear c3);(try clear c3b0);(try clear c3b1);(try clear c4);(try clear c4b0);(try clear c4b1);(try clear c5);(try clear c7);(try clear c7b0);(try clear c7b1);(try clear c8);(try clear c8b0);(try clear c8b1);(try clear c9);(try clear c9b0);(try clear c9b1);(try clear c10);(try clear c12);(try clear c12b0);(try clear c12b1);(try clear c13);(try clear c13b0);(try clear c13b1);(try clear c14);(try clear c14b0);(try clear c14b1);(try clear c15);(try clear c15b0);(try clear c15b1);(try clear c16);(try clear c16b0);(try clear c16b1);(try clear c17);(try clear c17b0);(try clear c17b1);(try clear p2);obtain ⟨kq,x13_10,rfl,HA,HJ10,⟨mc10,rfl⟩⟩:=hcut
        cases kq with
        | zero => exact absurd HA.out (by simp [dowserref28_Count.j2])
        | succ kj10 =>
         have H:=HA.out;clear HA;simp only [dowserref28_Count.j2] at H;(by_cases c18 : x13_10 = true)
         ·subst c18;(have H1 : (some 2) = some r:=by rw [if_pos rfl] at H;exact H);clear H;have H:=H1;clear H1;obtain rfl:=Option.some.inj H;(go_wp2);(go_ret);(exact ⟨by first | rfl | (simp;done) | (simp [*];done) | (simp;rw [Bool.eq_iff_iff];simp;done),by repeat (first | exact Drawn0.refl _ | apply Drawn0.step)⟩)
         ·replace c18:=Bool.eq_false_iff.mpr c18;subst c18;(have H1 : (if a0 = 6 then (some 3) else (if a0 = 7 then (some 3) else (some (-1)))) = some r:=by rw [if_neg (show ¬ (false = true) by decide)] at H;exact H);clear H;have H:=H1;clear H1;(by_cases c19 : a0 = 6)
          ·rw [if_pos c19] at H;have c19b0 : (a0 == 6) = true:=beq_iff_eq.mpr c19;have c19b1 : (a0 != 6) = false:=bne_eq_false_iff_eq.mpr c19;clear c19;obtain rfl:=Option.some.inj H;(go_wp2);(go_ret);(exact ⟨by first | rfl | (simp;done) | (simp [*];done) | (simp;rw [Bool.eq_iff_iff];simp;done),by repeat (first | exact Drawn0.refl _ | apply Drawn0.step)⟩)
          ·rw [if_neg c19] at H;have c19b0 : (a0 == 6) = false:=beq_eq_false_iff_ne.mpr c19;have c19b1 : (a0 != 6) = true:=bne_iff_ne.mpr c19;(by_cases c20 : a0 = 7)
           ·rw [if_pos c20] at H;have c20b0 : (a0 == 7) = true:=beq_iff_eq.mpr c20;have c20b1 : (a0 != 7) = false:=bne_eq_false_iff_eq.mpr c20;clear c20;obtain rfl:=Option.some.inj H;(go_wp2);(go_ret);(exact ⟨by first | rfl | (simp;done) | (simp [*];done) | (simp;rw [Bool.eq_iff_iff];simp;done),by repeat (first | exact Drawn0.refl _ | apply Drawn0.step)⟩)
           ·rw [if_neg c20] at H;have c20b0 : (a0 == 7) = false:=beq_eq_false_iff_ne.mpr c20;have c20b1 : (a0 != 7) = true:=bne_iff_ne.mpr c20;obtain rfl:=Option.some.inj H;(go_wp2);(go_ret);(exact ⟨by first | rfl | (simp;done) | (simp [*];done) | (simp;rw [Bool.eq_iff_iff];simp;done),by repeat (first | exact Drawn0.refl _ | apply Drawn0.step)⟩)

end Go.Proofs.YtkpjkgfaepidaaaDoor.PC

-- Written by this session's own program wip/bin/dprint.py, over the kit's print.py, with own texts for some functions: no print of print.sh's
import Derived.Test.YtkpjkgfaepidaaaDoorPCx0
import Derived.Test.YtkpjkgfaepidaaaDoorUps
namespace Go.Proofs.YtkpjkgfaepidaaaDoor.PC
open Go.RowKit Go.Proofs.YtkpjkgfaepidaaaDoorW.PrintWords Go.Proofs.YtkpjkgfaepidaaaDoorW.PrintLast Go.Proofs.YtkpjkgfaepidaaaDoorW.PrintMore
attribute [local go_sem] max2_int min2_int max_two min_two max_three min_three max_four min_four   -- for this text's walks alone
set_option linter.unusedVariables false
set_option linter.unusedSimpArgs false

/-! ### dowserref01_Head: function 50 -/
mutual
def dowserref01_Head.l0 : Nat → ByteArray → Int → Option (Int × Int × Int)
 | 0,_,_ => none
 | k + 1,x0,x5 => if x5 < (x0.size : Int) then (if x5 = 9 then (if 0 ≤ x5 then (dowserref01_Head.j1 k x0 x5 (decide ((bt x0 x5) > 1))) else (none)) else (dowserref01_Head.j1 k x0 x5 false)) else (some (0,0,2))
def dowserref01_Head.j1 : Nat → ByteArray → Int → Bool → Option (Int × Int × Int)
 | 0,_,_,_ => none
 | k + 1,x0,x5,x21 => if x21 = true then (some (0,0,3)) else (if 0 ≤ x5 then (if x5 < (x0.size : Int) then (if (bt x0 x5) ≥ 128 then (dowserref01_Head.l0 k x0 (wrap64 (x5 + 1))) else (if x5 > 0 then (dowserref01_Head.j2 k x0 x5 ((bt x0 x5) == 0)) else (dowserref01_Head.j2 k x0 x5 false))) else (none)) else (none))
def dowserref01_Head.j2 : Nat → ByteArray → Int → Bool → Option (Int × Int × Int)
 | 0,_,_,_ => none
 | k + 1,x0,x5,x33 => if x33 = true then (some (0,0,3)) else (dowserref01_Head.l1 k x0 x5 0 x5)
def dowserref01_Head.l1 : Nat → ByteArray → Int → Int → Int → Option (Int × Int × Int)
 | 0,_,_,_,_ => none
 | k + 1,x0,x5,x6,x7 => if x7 ≥ 0 then (if 0 ≤ x7 then (if x7 < (x0.size : Int) then (dowserref01_Head.l1 k x0 x5 (IntKind.u64.wrap ((IntKind.u64.wrap (x6 * 128)) + (IntKind.u64.wrap (Int.tmod (bt x0 x7) 128)))) (wrap64 (x7 - 1))) else (none)) else (none)) else (some (x6,wrap64 (x5 + 1),0))
end
def dowserref01_Head.f (k : Nat) (a0 : ByteArray) : Option (Int × Int × Int):=dowserref01_Head.l0 k a0 0
theorem dowserref01_Head.mono_l : ∀ k,(∀ y0 y1,LeO (dowserref01_Head.l0 k y0 y1) (dowserref01_Head.l0 (k + 1) y0 y1)) ∧ (∀ y0 y1 y2,LeO (dowserref01_Head.j1 k y0 y1 y2) (dowserref01_Head.j1 (k + 1) y0 y1 y2)) ∧ (∀ y0 y1 y2,LeO (dowserref01_Head.j2 k y0 y1 y2) (dowserref01_Head.j2 (k + 1) y0 y1 y2)) ∧ (∀ y0 y1 y2 y3,LeO (dowserref01_Head.l1 k y0 y1 y2 y3) (dowserref01_Head.l1 (k + 1) y0 y1 y2 y3))
 | 0 => ⟨fun _ _ r h => by simp [dowserref01_Head.l0] at h,fun _ _ _ r h => by simp [dowserref01_Head.j1] at h,fun _ _ _ r h => by simp [dowserref01_Head.j2] at h,fun _ _ _ _ r h => by simp [dowserref01_Head.l1] at h⟩
 | k + 1 => by
  obtain ⟨ih0,ih1,ih2,ih3⟩:=dowserref01_Head.mono_l k;(refine ⟨?_,?_,?_,?_⟩)
  ·intro y0 y1;unfold dowserref01_Head.l0
   repeat' first
   | (with_reducible exact ih0 _ _)
   | (with_reducible exact ih1 _ _ _)
   | (with_reducible exact ih2 _ _ _)
   | (with_reducible exact ih3 _ _ _ _)
   | (with_reducible exact LeO.refl _)
   | (with_reducible exact LeO.none _)
   | (with_reducible refine LeO.ite ?_ ?_)
   | (with_reducible refine LeO.bind ?_ (fun _ => ?_))
   | exact ih0 _ _
   | exact ih1 _ _ _
   | exact ih2 _ _ _
   | exact ih3 _ _ _ _
   | exact LeO.none _
   | refine LeO.ite ?_ ?_
   | refine LeO.bind ?_ (fun _ => ?_)
  ·intro y0 y1 y2;unfold dowserref01_Head.j1
   repeat' first
   | (with_reducible exact ih0 _ _)
   | (with_reducible exact ih1 _ _ _)
   | (with_reducible exact ih2 _ _ _)
   | (with_reducible exact ih3 _ _ _ _)
   | (with_reducible exact LeO.refl _)
   | (with_reducible exact LeO.none _)
   | (with_reducible refine LeO.ite ?_ ?_)
   | (with_reducible refine LeO.bind ?_ (fun _ => ?_))
   | exact ih0 _ _
   | exact ih1 _ _ _
   | exact ih2 _ _ _
   | exact ih3 _ _ _ _
   | exact LeO.none _
   | refine LeO.ite ?_ ?_
   | refine LeO.bind ?_ (fun _ => ?_)
  ·intro y0 y1 y2;unfold dowserref01_Head.j2
   repeat' first
   | (with_reducible exact ih0 _ _)
   | (with_reducible exact ih1 _ _ _)
   | (with_reducible exact ih2 _ _ _)
   | (with_reducible exact ih3 _ _ _ _)
   | (with_reducible exact LeO.refl _)
   | (with_reducible exact LeO.none _)
   | (with_reducible refine LeO.ite ?_ ?_)
   | (with_reducible refine LeO.bind ?_ (fun _ => ?_))
   | exact ih0 _ _
   | exact ih1 _ _ _
   | exact ih2 _ _ _
   | exact ih3 _ _ _ _
   | exact LeO.none _
   | refine LeO.ite ?_ ?_
   | refine LeO.bind ?_ (fun _ => ?_)
  ·intro y0 y1 y2 y3;unfold dowserref01_Head.l1
   repeat' first
   | (with_reducible exact ih0 _ _)
   | (with_reducible exact ih1 _ _ _)
   | (with_reducible exact ih2 _ _ _)
   | (with_reducible exact ih3 _ _ _ _)
   | (with_reducible exact LeO.refl _)
   | (with_reducible exact LeO.none _)
   | (with_reducible refine LeO.ite ?_ ?_)
   | (with_reducible refine LeO.bind ?_ (fun _ => ?_))
   | exact ih0 _ _
   | exact ih1 _ _ _
   | exact ih2 _ _ _
   | exact ih3 _ _ _ _
   | exact LeO.none _
   | refine LeO.ite ?_ ?_
   | refine LeO.bind ?_ (fun _ => ?_)
theorem dowserref01_Head.mono : ∀ a0 k,LeO (dowserref01_Head.f k a0) (dowserref01_Head.f (k + 1) a0):=by
 intro a0 k;obtain ⟨ih0,ih1,ih2,ih3⟩:=dowserref01_Head.mono_l k;unfold dowserref01_Head.f
 repeat' first
   | (with_reducible exact ih0 _ _)
   | (with_reducible exact ih1 _ _ _)
   | (with_reducible exact ih2 _ _ _)
   | (with_reducible exact ih3 _ _ _ _)
   | (with_reducible exact LeO.refl _)
   | (with_reducible exact LeO.none _)
   | (with_reducible refine LeO.ite ?_ ?_)
   | (with_reducible refine LeO.bind ?_ (fun _ => ?_))
   | exact ih0 _ _
   | exact ih1 _ _ _
   | exact ih2 _ _ _
   | exact ih3 _ _ _ _
   | exact LeO.none _
   | refine LeO.ite ?_ ?_
   | refine LeO.bind ?_ (fun _ => ?_)
set_option maxHeartbeats 40000000 in
set_option maxRecDepth 100000 in
theorem dowserref01_Head.calls (k : Nat) (a0 : ByteArray) (r1 : Int) (r2 : Int) (r3 : Int) (w : World) (h : dowserref01_Head.f k a0 = some (r1,r2,r3)) :
  Calls Tryd.prog 50 #[.string a0] w fun e w' => e = .returned (.tuple #[.int .u64 r1,.int .i64 r2,.int .i64 r3]) ∧ Drawn0 w w':=by
 have H : (dowserref01_Head.l0 k a0 0) = some (r1,r2,r3):=h;clear h;have H':=am H;clear H;(go_enter Tryd.func50,Tryd.ntmps50);(go_wp2);(go_loopg [5] k (fun kq v5 w' => ∃ (x5_1 : Int),v5 = .int .i64 x5_1 ∧ Aside0 (dowserref01_Head.l0 kq a0 x5_1 = some (r1,r2,r3)) ∧ Aside0 (kq ≤ k) ∧ Drawn0 w w'));(case atStart => exact ⟨(0),(by first | rfl | (simp;done) | (simp [*];done) | (simp;rw [Bool.eq_iff_iff];simp;done)),H',⟨Nat.le_refl _⟩,by repeat (first | exact Drawn0.refl _ | apply Drawn0.step)⟩)
 case round =>
  clear H';obtain ⟨x5_1,rfl,HA,HK1,⟨m1,rfl⟩⟩:=hrel
  cases gk with
  | zero => exact absurd HA.out (by simp [dowserref01_Head.l0])
  | succ k1 =>
   have H:=HA.out;clear HA;simp only [dowserref01_Head.l0] at H;(by_cases c2 : x5_1 < (a0.size : Int))
   ·rw [if_pos c2] at H;have c2b0 : decide (x5_1 < (a0.size : Int)) = true:=decide_eq_true c2;clear c2;have HC3:=am H;clear H;(go_upto_region 4 with (fail));(go_cut [21] (fun v21 wc => ∃ (kq : Nat) (x21_2 : Bool),v21 = .bool x21_2 ∧ Aside0 (dowserref01_Head.j1 kq a0 x5_1 x21_2 = some (r1,r2,r3)) ∧ Aside0 (kq ≤ k1) ∧ Drawn0 w wc))
    case first =>
     have H:=HC3.out;clear HC3;(by_cases c4 : x5_1 = 9)
     ·rw [if_pos c4] at H;have c4b0 : (x5_1 == 9) = true:=beq_iff_eq.mpr c4;have c4b1 : (x5_1 != 9) = false:=bne_eq_false_iff_eq.mpr c4;clear c4;(first | rw [c4b0] | (simp only [i64_w,i32_w];rw [c4b0]) | skip);(by_cases c5 : 0 ≤ x5_1)
      ·rw [if_pos c5] at H;have c5b0 : decide (0 ≤ x5_1) = true:=decide_eq_true c5;clear c5;have H':=am H;clear H;(have p6 : 0 ≤ (x5_1 : Int):=of_decide_eq_true (by first | (with_reducible assumption) | assumption));(have q6 : x5_1 < (a0.size : Int):=of_decide_eq_true (by first | (with_reducible assumption) | assumption));have hx6:=bt_at a0 x5_1;replace p6:=eq_true p6;replace q6:=eq_true q6;(go_wp2);(go_meet);(case rel => exact ⟨_,(decide ((bt a0 x5_1) > 1)),(by first | rfl | (simp;done) | (simp [*];done) | (simp;rw [Bool.eq_iff_iff];simp;done)),H',⟨by have:=HK1.out;first | omega | exact Nat.le_refl _⟩,by repeat (first | exact Drawn0.refl _ | apply Drawn0.step)⟩)
      ·rw [if_neg c5] at H;(exact absurd H (by simp))
     ·rw [if_neg c4] at H;have c4b0 : (x5_1 == 9) = false:=beq_eq_false_iff_ne.mpr c4;have c4b1 : (x5_1 != 9) = true:=bne_iff_ne.mpr c4;(first | rw [c4b0] | (simp only [i64_w,i32_w];rw [c4b0]) | skip);have H':=am H;clear H;(go_wp2);(go_meet);(case rel => exact ⟨_,(false),(by first | rfl | (simp;done) | (simp [*];done) | (simp;rw [Bool.eq_iff_iff];simp;done)),H',⟨by have:=HK1.out;first | omega | exact Nat.le_refl _⟩,by repeat (first | exact Drawn0.refl _ | apply Drawn0.step)⟩)
    case rest =>
     clear HC3;(try clear c2);(try clear c2b0);(try clear p2);(try clear c4);(try clear c4b0);(try clear c4b1);(try clear c5);(try clear c5b0);(try clear p6);(try clear q6);(try clear hx6);(try clear p6);(try clear q6);obtain ⟨kq,x21_2,rfl,HA,HJ2,⟨mc2,rfl⟩⟩:=hcut
     cases kq with
     | zero => exact absurd HA.out (by simp [dowserref01_Head.j1])
     | succ kj2 =>
      have H:=HA.out;clear HA;simp only [dowserref01_Head.j1] at H;(by_cases c7 : x21_2 = true)
      ·subst c7;(have H1 : (some (0,0,3)) = some (r1,r2,r3):=by rw [if_pos rfl] at H;exact H);clear H;have H:=H1;clear H1;simp only [Option.some.injEq,Prod.mk.injEq] at H;obtain ⟨rfl,rfl,rfl⟩:=H;(go_wp2);(go_ret3);(exact ⟨by first | rfl | (simp;done) | (simp [*];done) | (simp;rw [Bool.eq_iff_iff];simp;done),by repeat (first | exact Drawn0.refl _ | apply Drawn0.step)⟩)
      ·replace c7:=Bool.eq_false_iff.mpr c7;subst c7;(have H1 : (if 0 ≤ x5_1 then (if x5_1 < (a0.size : Int) then (if (bt a0 x5_1) ≥ 128 then (dowserref01_Head.l0 kj2 a0 (wrap64 (x5_1 + 1))) else (if x5_1 > 0 then (dowserref01_Head.j2 kj2 a0 x5_1 ((bt a0 x5_1) == 0)) else (dowserref01_Head.j2 kj2 a0 x5_1 false))) else (none)) else (none)) = some (r1,r2,r3):=by rw [if_neg (show ¬ (false = true) by decide)] at H;exact H);clear H;have H:=H1;clear H1;(by_cases c8 : 0 ≤ x5_1)
       ·rw [if_pos c8] at H;have c8b0 : decide (0 ≤ x5_1) = true:=decide_eq_true c8;clear c8;(by_cases c9 : x5_1 < (a0.size : Int))
        ·rw [if_pos c9] at H;have c9b0 : decide (x5_1 < (a0.size : Int)) = true:=decide_eq_true c9;clear c9;(by_cases c11 : (bt a0 x5_1) ≥ 128)
         ·rw [if_pos c11] at H;have c11b0 : decide (128 ≤ (bt a0 x5_1)) = true:=decide_eq_true c11;clear c11;have H':=am H;clear H;(have p10 : 0 ≤ (x5_1 : Int):=of_decide_eq_true (by first | (with_reducible assumption) | assumption));(have q10 : x5_1 < (a0.size : Int):=of_decide_eq_true (by first | (with_reducible assumption) | assumption));have hx10:=bt_at a0 x5_1;replace p10:=eq_true p10;replace q10:=eq_true q10;(go_wp2);(go_roundg kj2);(case measure => have:=HK1.out;have:=HJ2.out;omega);(case rel => exact ⟨(wrap64 (x5_1 + 1)),(by first | rfl | (simp;done) | (simp [*];done) | (simp;rw [Bool.eq_iff_iff];simp;done)),H',⟨by have:=HK1.out;have:=HJ2.out;omega⟩,by repeat (first | exact Drawn0.refl _ | apply Drawn0.step)⟩)
         ·rw [if_neg c11] at H;have c11b0 : decide (128 ≤ (bt a0 x5_1)) = false:=decide_eq_false c11;clear c11;have HC12:=am H;clear H;(have p10 : 0 ≤ (x5_1 : Int):=of_decide_eq_true (by first | (with_reducible assumption) | assumption));(have q10 : x5_1 < (a0.size : Int):=of_decide_eq_true (by first | (with_reducible assumption) | assumption));have hx10:=bt_at a0 x5_1;replace p10:=eq_true p10;replace q10:=eq_true q10;(go_upto_region 7 with (fail));(go_cut [33] (fun v33 wc => ∃ (kq : Nat) (x33_11 : Bool),v33 = .bool x33_11 ∧ Aside0 (dowserref01_Head.j2 kq a0 x5_1 x33_11 = some (r1,r2,r3)) ∧ Aside0 (kq ≤ kj2) ∧ Drawn0 w wc))
          case first =>
           have H:=HC12.out;clear HC12;(by_cases c13 : x5_1 > 0)
           ·rw [if_pos c13] at H;have c13b0 : decide (0 < x5_1) = true:=decide_eq_true c13;clear c13;(first | rw [c13b0] | (simp only [i64_w,i32_w];rw [c13b0]) | skip);have H':=am H;clear H;(have p14 : 0 ≤ (x5_1 : Int):=of_decide_eq_true (by first | (with_reducible assumption) | assumption));(have q14 : x5_1 < (a0.size : Int):=of_decide_eq_true (by first | (with_reducible assumption) | assumption));have hx14:=bt_at a0 x5_1;replace p14:=eq_true p14;replace q14:=eq_true q14;(go_wp2);(go_meet);(case rel => exact ⟨_,(((bt a0 x5_1) == 0)),(by first | rfl | (simp;done) | (simp [*];done) | (simp;rw [Bool.eq_iff_iff];simp;done)),H',⟨by have:=HK1.out;have:=HJ2.out;first | omega | exact Nat.le_refl _⟩,by repeat (first | exact Drawn0.refl _ | apply Drawn0.step)⟩)
           ·rw [if_neg c13] at H;have c13b0 : decide (0 < x5_1) = false:=decide_eq_false c13;clear c13;(first | rw [c13b0] | (simp only [i64_w,i32_w];rw [c13b0]) | skip);have H':=am H;clear H;(go_wp2);(go_meet);(case rel => exact ⟨_,(false),(by first | rfl | (simp;done) | (simp [*];done) | (simp;rw [Bool.eq_iff_iff];simp;done)),H',⟨by have:=HK1.out;have:=HJ2.out;first | omega | exact Nat.le_refl _⟩,by repeat (first | exact Drawn0.refl _ | apply Drawn0.step)⟩)
          case rest =>
           clear HC12;(try clear c1);(try clear p1);(try clear q1);(try clear hx1);(try clear c2);(try clear c2b0);(try clear p2);(try clear c4);(try clear c4b0);(try clear c4b1);(try clear c5);(try clear c5b0);(try clear p6);(try clear q6);(try clear hx6);(try clear c7);(try clear c8);(try clear c8b0);(try clear c9);(try clear c9b0);(try clear p10);(try clear q10);(try clear hx10);(try clear c11);(try clear c11b0);(try clear c13);(try clear c13b0);(try clear p14);(try clear q14);(try clear hx14);(try clear p10);(try clear p14);(try clear p2);(try clear p6);(try clear q10);(try clear q14);(try clear q6);obtain ⟨kq,x33_11,rfl,HA,HJ11,⟨mc11,rfl⟩⟩:=hcut
           cases kq with
           | zero => exact absurd HA.out (by simp [dowserref01_Head.j2])
           | succ kj11 =>
            have H:=HA.out;clear HA;simp only [dowserref01_Head.j2] at H;(by_cases c15 : x33_11 = true)
            ·subst c15;(have H1 : (some (0,0,3)) = some (r1,r2,r3):=by rw [if_pos rfl] at H;exact H);clear H;have H:=H1;clear H1;simp only [Option.some.injEq,Prod.mk.injEq] at H;obtain ⟨rfl,rfl,rfl⟩:=H;(go_wp2);(go_ret3);(exact ⟨by first | rfl | (simp;done) | (simp [*];done) | (simp;rw [Bool.eq_iff_iff];simp;done),by repeat (first | exact Drawn0.refl _ | apply Drawn0.step)⟩)
            ·replace c15:=Bool.eq_false_iff.mpr c15;subst c15;(have H1 : (dowserref01_Head.l1 kj11 a0 x5_1 0 x5_1) = some (r1,r2,r3):=by rw [if_neg (show ¬ (false = true) by decide)] at H;exact H);clear H;have H:=H1;clear H1;have H':=am H;clear H;(go_wp2);(go_loopg [6,7] kj11 (fun kq v6 v7 w' => ∃ (x6_4 : Int) (x7_4 : Int),v6 = .int .u64 x6_4 ∧ v7 = .int .i64 x7_4 ∧ Aside0 (dowserref01_Head.l1 kq a0 x5_1 x6_4 x7_4 = some (r1,r2,r3)) ∧ Aside0 (kq ≤ kj11) ∧ Drawn0 w w'));(case atStart => exact ⟨(0),(x5_1),(by first | rfl | (simp;done) | (simp [*];done) | (simp;rw [Bool.eq_iff_iff];simp;done)),(by first | rfl | (simp;done) | (simp [*];done) | (simp;rw [Bool.eq_iff_iff];simp;done)),H',⟨Nat.le_refl _⟩,by repeat (first | exact Drawn0.refl _ | apply Drawn0.step)⟩)
             case round =>
              clear H';(try clear c1);(try clear p1);(try clear q1);(try clear hx1);(try clear c2);(try clear c2b0);(try clear p2);(try clear c4);(try clear c4b0);(try clear c4b1);(try clear c5);(try clear c5b0);(try clear p6);(try clear q6);(try clear hx6);(try clear c7);(try clear c8);(try clear c8b0);(try clear c9);(try clear c9b0);(try clear p10);(try clear q10);(try clear hx10);(try clear c11);(try clear c11b0);(try clear c13);(try clear c13b0);(try clear p14);(try clear q14);(try clear hx14);(try clear c15);(try clear p1);(try clear p10);(try clear p14);(try clear p2);(try clear p6);(try clear q1);(try clear q10);(try clear q14);(try clear q6);obtain ⟨x6_4,x7_4,rfl,rfl,HA,HK4,⟨m4,rfl⟩⟩:=hrel
              cases gk with
              | zero => exact absurd HA.out (by simp [dowserref01_Head.l1])
              | succ k4 =>
               have H:=HA.out;clear HA;simp only [dowserref01_Head.l1] at H;(by_cases c16 : x7_4 ≥ 0)
               ·rw [if_pos c16] at H;have c16b0 : decide (0 ≤ x7_4) = true:=decide_eq_true c16;clear c16;(by_cases c17 : 0 ≤ x7_4)
                ·rw [if_pos c17] at H;have c17b0 : decide (0 ≤ x7_4) = true:=decide_eq_true c17;clear c17;(by_cases c18 : x7_4 < (a0.size : Int))
                 ·rw [if_pos c18] at H;have c18b0 : decide (x7_4 < (a0.size : Int)) = true:=decide_eq_true c18;clear c18;have H':=am H;clear H;(have p19 : 0 ≤ (x7_4 : Int):=of_decide_eq_true (by first | (with_reducible assumption) | assumption));(have q19 : x7_4 < (a0.size : Int):=of_decide_eq_true (by first | (with_reducible assumption) | assumption));have hx19:=bt_at a0 x7_4;replace p19:=eq_true p19;replace q19:=eq_true q19;(go_wp2);(go_roundg k4);(case measure => have:=HK1.out;have:=HJ2.out;have:=HJ11.out;have:=HK4.out;omega);(case rel => exact ⟨(IntKind.u64.wrap ((IntKind.u64.wrap (x6_4 * 128)) + (IntKind.u64.wrap (Int.tmod (bt a0 x7_4) 128)))),(wrap64 (x7_4 - 1)),(by first | rfl | (simp;done) | (simp [*];done) | (simp;rw [Bool.eq_iff_iff];simp;done)),(by first | rfl | (simp;done) | (simp [*];done) | (simp;rw [Bool.eq_iff_iff];simp;done)),H',⟨by have:=HK1.out;have:=HJ2.out;have:=HJ11.out;have:=HK4.out;omega⟩,by repeat (first | exact Drawn0.refl _ | apply Drawn0.step)⟩)
                 ·rw [if_neg c18] at H;(exact absurd H (by simp))
                ·rw [if_neg c17] at H;(exact absurd H (by simp))
               ·rw [if_neg c16] at H;have c16b0 : decide (0 ≤ x7_4) = false:=decide_eq_false c16;clear c16;simp only [Option.some.injEq,Prod.mk.injEq] at H;obtain ⟨rfl,rfl,rfl⟩:=H;(go_wp2);(go_ret3);(exact ⟨by first | rfl | (simp;done) | (simp [*];done) | (simp;rw [Bool.eq_iff_iff];simp;done),by repeat (first | exact Drawn0.refl _ | apply Drawn0.step)⟩)
        ·rw [if_neg c9] at H;(exact absurd H (by simp))
       ·rw [if_neg c8] at H;(exact absurd H (by simp))
   ·rw [if_neg c2] at H;have c2b0 : decide (x5_1 < (a0.size : Int)) = false:=decide_eq_false c2;clear c2;simp only [Option.some.injEq,Prod.mk.injEq] at H;obtain ⟨rfl,rfl,rfl⟩:=H;(go_wp2);(go_ret3);(exact ⟨by first | rfl | (simp;done) | (simp [*];done) | (simp;rw [Bool.eq_iff_iff];simp;done),by repeat (first | exact Drawn0.refl _ | apply Drawn0.step)⟩)

end Go.Proofs.YtkpjkgfaepidaaaDoor.PC

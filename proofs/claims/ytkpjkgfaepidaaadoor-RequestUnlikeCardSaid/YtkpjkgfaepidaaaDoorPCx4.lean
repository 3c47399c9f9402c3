-- Written by this session's own program wip/bin/dprint.py, over the kit's print.py, with own texts for some functions: no print of print.sh's
import Derived.Test.YtkpjkgfaepidaaaDoorPCx0
import Derived.Test.YtkpjkgfaepidaaaDoorUps
namespace Go.Proofs.YtkpjkgfaepidaaaDoor.PC
open Go.RowKit Go.Proofs.YtkpjkgfaepidaaaDoorW.PrintWords Go.Proofs.YtkpjkgfaepidaaaDoorW.PrintLast Go.Proofs.YtkpjkgfaepidaaaDoorW.PrintMore
attribute [local go_sem] max2_int min2_int max_two min_two max_three min_three max_four min_four   -- for this text's walks alone
set_option linter.unusedVariables false
set_option linter.unusedSimpArgs false

/-! ### varint_scan: function 48 -/
mutual
def varint_scan.l0 : Nat → ByteArray → Int → Int → Int → Option (Int × Int × Int)
 | 0,_,_,_,_ => none
 | k + 1,x0,x5,x9,x10 => if x10 < x9 then (if 0 ≤ x10 then (if x10 < (x0.size : Int) then (if x10 = 9 then (varint_scan.j1 k x0 x5 x10 (bt x0 x10) x9 x10 (decide ((bt x0 x10) > 1))) else (varint_scan.j1 k x0 x5 x10 (bt x0 x10) x9 x10 false)) else (none)) else (none)) else (some (0,0,2))
def varint_scan.j1 : Nat → ByteArray → Int → Int → Int → Int → Int → Bool → Option (Int × Int × Int)
 | 0,_,_,_,_,_,_,_ => none
 | k + 1,x0,x5,x6,x7,x9,x10,x16 => if x16 = true then (varint_scan.j2 k x0 x5 x6 x7 x9 x10 x16) else (if x6 > 0 then (varint_scan.j2 k x0 x5 x6 x7 x9 x10 (x7 == 0)) else (varint_scan.j2 k x0 x5 x6 x7 x9 x10 false))
def varint_scan.j2 : Nat → ByteArray → Int → Int → Int → Int → Int → Bool → Option (Int × Int × Int)
 | 0,_,_,_,_,_,_,_ => none
 | k + 1,x0,x5,x6,x7,x9,x10,x16 => if x16 = true then (some (0,0,3)) else (if 0 ≤ (wrap64 (7 * x6)) then (if x7 < 128 then (some (Go.bits .or .u64 x5 (shl .u64 (IntKind.u64.wrap (Go.bits .and .u8 x7 127)) (wrap64 (7 * x6))),wrap64 (x6 + 1),0)) else (varint_scan.l0 k x0 (Go.bits .or .u64 x5 (shl .u64 (IntKind.u64.wrap (Go.bits .and .u8 x7 127)) (wrap64 (7 * x6)))) x9 (wrap64 (x10 + 1)))) else (none))
end
def varint_scan.f (k : Nat) (a0 : ByteArray) : Option (Int × Int × Int):=varint_scan.l0 k a0 0 (a0.size : Int) 0
theorem varint_scan.mono_l : ∀ k,(∀ y0 y1 y2 y3,LeO (varint_scan.l0 k y0 y1 y2 y3) (varint_scan.l0 (k + 1) y0 y1 y2 y3)) ∧ (∀ y0 y1 y2 y3 y4 y5 y6,LeO (varint_scan.j1 k y0 y1 y2 y3 y4 y5 y6) (varint_scan.j1 (k + 1) y0 y1 y2 y3 y4 y5 y6)) ∧ (∀ y0 y1 y2 y3 y4 y5 y6,LeO (varint_scan.j2 k y0 y1 y2 y3 y4 y5 y6) (varint_scan.j2 (k + 1) y0 y1 y2 y3 y4 y5 y6))
 | 0 => ⟨fun _ _ _ _ r h => by simp [varint_scan.l0] at h,fun _ _ _ _ _ _ _ r h => by simp [varint_scan.j1] at h,fun _ _ _ _ _ _ _ r h => by simp [varint_scan.j2] at h⟩
 | k + 1 => by
  obtain ⟨ih0,ih1,ih2⟩:=varint_scan.mono_l k;(refine ⟨?_,?_,?_⟩)
  ·intro y0 y1 y2 y3;unfold varint_scan.l0
   repeat' first
   | (with_reducible exact ih0 _ _ _ _)
   | (with_reducible exact ih1 _ _ _ _ _ _ _)
   | (with_reducible exact ih2 _ _ _ _ _ _ _)
   | (with_reducible exact LeO.refl _)
   | (with_reducible exact LeO.none _)
   | (with_reducible refine LeO.ite ?_ ?_)
   | (with_reducible refine LeO.bind ?_ (fun _ => ?_))
   | exact ih0 _ _ _ _
   | exact ih1 _ _ _ _ _ _ _
   | exact ih2 _ _ _ _ _ _ _
   | exact LeO.none _
   | refine LeO.ite ?_ ?_
   | refine LeO.bind ?_ (fun _ => ?_)
  ·intro y0 y1 y2 y3 y4 y5 y6;unfold varint_scan.j1
   repeat' first
   | (with_reducible exact ih0 _ _ _ _)
   | (with_reducible exact ih1 _ _ _ _ _ _ _)
   | (with_reducible exact ih2 _ _ _ _ _ _ _)
   | (with_reducible exact LeO.refl _)
   | (with_reducible exact LeO.none _)
   | (with_reducible refine LeO.ite ?_ ?_)
   | (with_reducible refine LeO.bind ?_ (fun _ => ?_))
   | exact ih0 _ _ _ _
   | exact ih1 _ _ _ _ _ _ _
   | exact ih2 _ _ _ _ _ _ _
   | exact LeO.none _
   | refine LeO.ite ?_ ?_
   | refine LeO.bind ?_ (fun _ => ?_)
  ·intro y0 y1 y2 y3 y4 y5 y6;unfold varint_scan.j2
   repeat' first
   | (with_reducible exact ih0 _ _ _ _)
   | (with_reducible exact ih1 _ _ _ _ _ _ _)
   | (with_reducible exact ih2 _ _ _ _ _ _ _)
   | (with_reducible exact LeO.refl _)
   | (with_reducible exact LeO.none _)
   | (with_reducible refine LeO.ite ?_ ?_)
   | (with_reducible refine LeO.bind ?_ (fun _ => ?_))
   | exact ih0 _ _ _ _
   | exact ih1 _ _ _ _ _ _ _
   | exact ih2 _ _ _ _ _ _ _
   | exact LeO.none _
   | refine LeO.ite ?_ ?_
   | refine LeO.bind ?_ (fun _ => ?_)
theorem varint_scan.mono : ∀ a0 k,LeO (varint_scan.f k a0) (varint_scan.f (k + 1) a0):=by
 intro a0 k;obtain ⟨ih0,ih1,ih2⟩:=varint_scan.mono_l k;unfold varint_scan.f
 repeat' first
   | (with_reducible exact ih0 _ _ _ _)
   | (with_reducible exact ih1 _ _ _ _ _ _ _)
   | (with_reducible exact ih2 _ _ _ _ _ _ _)
   | (with_reducible exact LeO.refl _)
   | (with_reducible exact LeO.none _)
   | (with_reducible refine LeO.ite ?_ ?_)
   | (with_reducible refine LeO.bind ?_ (fun _ => ?_))
   | exact ih0 _ _ _ _
   | exact ih1 _ _ _ _ _ _ _
   | exact ih2 _ _ _ _ _ _ _
   | exact LeO.none _
   | refine LeO.ite ?_ ?_
   | refine LeO.bind ?_ (fun _ => ?_)
set_option maxHeartbeats 40000000 in
set_option maxRecDepth 100000 in
theorem varint_scan.calls (k : Nat) (a0 : ByteArray) (r1 : Int) (r2 : Int) (r3 : Int) (w : World) (h : varint_scan.f k a0 = some (r1,r2,r3)) :
  Calls Tryd.prog 48 #[.string a0] w fun e w' => e = .returned (.tuple #[.int .u64 r1,.int .i64 r2,.int .i64 r3]) ∧ Drawn0 w w':=by
 have H : (varint_scan.l0 k a0 0 (a0.size : Int) 0) = some (r1,r2,r3):=h;clear h;have H':=am H;clear H;(go_enter Tryd.func48,Tryd.ntmps48);(go_wp2);(go_loopg [5,10] k (fun kq v5 v10 w' => ∃ (x5_1 : Int) (x10_1 : Int),v5 = .int .u64 x5_1 ∧ v10 = .int .i64 x10_1 ∧ Aside0 (varint_scan.l0 kq a0 x5_1 (a0.size : Int) x10_1 = some (r1,r2,r3)) ∧ Aside0 (kq ≤ k) ∧ Drawn0 w w'));(case atStart => exact ⟨(0),(0),(by first | rfl | (simp;done) | (simp [*];done) | (simp;rw [Bool.eq_iff_iff];simp;done)),(by first | rfl | (simp;done) | (simp [*];done) | (simp;rw [Bool.eq_iff_iff];simp;done)),H',⟨Nat.le_refl _⟩,by repeat (first | exact Drawn0.refl _ | apply Drawn0.step)⟩)
 case round =>
  clear H';obtain ⟨x5_1,x10_1,rfl,rfl,HA,HK1,⟨m1,rfl⟩⟩:=hrel
  cases gk with
  | zero => exact absurd HA.out (by simp [varint_scan.l0])
  | succ k1 =>
   have H:=HA.out;clear HA;simp only [varint_scan.l0] at H;(by_cases c2 : x10_1 < (a0.size : Int))
   ·rw [if_pos c2] at H;have c2b0 : decide (x10_1 < (a0.size : Int)) = true:=decide_eq_true c2;clear c2;(by_cases c3 : 0 ≤ x10_1)
    ·rw [if_pos c3] at H;have c3b0 : decide (0 ≤ x10_1) = true:=decide_eq_true c3;clear c3;(by_cases c4 : x10_1 < (a0.size : Int))
     ·rw [if_pos c4] at H;have c4b0 : decide (x10_1 < (a0.size : Int)) = true:=decide_eq_true c4;clear c4;have HC6:=am H;clear H;(have p5 : 0 ≤ (x10_1 : Int):=of_decide_eq_true (by first | (with_reducible assumption) | assumption));(have q5 : x10_1 < (a0.size : Int):=of_decide_eq_true (by first | (with_reducible assumption) | assumption));have hx5:=bt_at a0 x10_1;replace p5:=eq_true p5;replace q5:=eq_true q5;(go_upto_region 6 with (fail));(go_cut [16] (fun v16 wc => ∃ (kq : Nat) (x16_5 : Bool),v16 = .bool x16_5 ∧ Aside0 (varint_scan.j1 kq a0 x5_1 x10_1 (bt a0 x10_1) (a0.size : Int) x10_1 x16_5 = some (r1,r2,r3)) ∧ Aside0 (kq ≤ k1) ∧ Drawn0 w wc))
      case first =>
       have H:=HC6.out;clear HC6;(by_cases c7 : x10_1 = 9)
       ·rw [if_pos c7] at H;have c7b0 : (x10_1 == 9) = true:=beq_iff_eq.mpr c7;have c7b1 : (x10_1 != 9) = false:=bne_eq_false_iff_eq.mpr c7;clear c7;(first | rw [c7b0] | (simp only [i64_w,i32_w];rw [c7b0]) | skip);have H':=am H;clear H;(go_wp2);(go_meet);(case rel => exact ⟨_,(decide ((bt a0 x10_1) > 1)),(by first | rfl | (simp;done) | (simp [*];done) | (simp;rw [Bool.eq_iff_iff];simp;done)),H',⟨by have:=HK1.out;first | omega | exact Nat.le_refl _⟩,by repeat (first | exact Drawn0.refl _ | apply Drawn0.step)⟩)
       ·rw [if_neg c7] at H;have c7b0 : (x10_1 == 9) = false:=beq_eq_false_iff_ne.mpr c7;have c7b1 : (x10_1 != 9) = true:=bne_iff_ne.mpr c7;(first | rw [c7b0] | (simp only [i64_w,i32_w];rw [c7b0]) | skip);have H':=am H;clear H;(go_wp2);(go_meet);(case rel => exact ⟨_,(false),(by first | rfl | (simp;done) | (simp [*];done) | (simp;rw [Bool.eq_iff_iff];simp;done)),H',⟨by have:=HK1.out;first | omega | exact Nat.le_refl _⟩,by repeat (first | exact Drawn0.refl _ | apply Drawn0.step)⟩)
      case rest =>
       clear HC6;(try clear c2);(try clear c2b0);(try clear p2);(try clear c3);(try clear c3b0);(try clear c4);(try clear c4b0);(try clear p5);(try clear q5);(try clear hx5);(try clear c7);(try clear c7b0);(try clear c7b1);(try clear p5);(try clear q5);obtain ⟨kq,x16_5,rfl,HA,HJ5,⟨mc5,rfl⟩⟩:=hcut
       cases kq with
       | zero => exact absurd HA.out (by simp [varint_scan.j1])
       | succ kj5 =>
        have H:=HA.out;clear HA;simp only [varint_scan.j1] at H;have HC8:=am H;clear H;(go_upto_if 16 with (fail));(go_cut [16] (fun v16 wc => ∃ (kq : Nat) (x16_7 : Bool),v16 = .bool x16_7 ∧ Aside0 (varint_scan.j2 kq a0 x5_1 x10_1 (bt a0 x10_1) (a0.size : Int) x10_1 x16_7 = some (r1,r2,r3)) ∧ Aside0 (kq ≤ kj5) ∧ Drawn0 w wc))
        case first =>
         have H:=HC8.out;clear HC8;(by_cases c9 : x16_5 = true)
         ·subst c9;(have H1 : (varint_scan.j2 kj5 a0 x5_1 x10_1 (bt a0 x10_1) (a0.size : Int) x10_1 true) = some (r1,r2,r3):=by rw [if_pos rfl] at H;exact H);clear H;have H:=H1;clear H1;have H':=am H;clear H;(go_wp2);(go_meet);(case rel => exact ⟨_,(true),(by first | rfl | (simp;done) | (simp [*];done) | (simp;rw [Bool.eq_iff_iff];simp;done)),H',⟨by have:=HK1.out;have:=HJ5.out;first | omega | exact Nat.le_refl _⟩,by repeat (first | exact Drawn0.refl _ | apply Drawn0.step)⟩)
         ·replace c9:=Bool.eq_false_iff.mpr c9;subst c9;(have H1 : (if x10_1 > 0 then (varint_scan.j2 kj5 a0 x5_1 x10_1 (bt a0 x10_1) (a0.size : Int) x10_1 ((bt a0 x10_1) == 0)) else (varint_scan.j2 kj5 a0 x5_1 x10_1 (bt a0 x10_1) (a0.size : Int) x10_1 false)) = some (r1,r2,r3):=by rw [if_neg (show ¬ (false = true) by decide)] at H;exact H);clear H;have H:=H1;clear H1;(by_cases c10 : x10_1 > 0)
          ·rw [if_pos c10] at H;have c10b0 : decide (0 < x10_1) = true:=decide_eq_true c10;clear c10;(first | rw [c10b0] | (simp only [i64_w,i32_w];rw [c10b0]) | skip);have H':=am H;clear H;(go_wp2);(go_meet);(case rel => exact ⟨_,(((bt a0 x10_1) == 0)),(by first | rfl | (simp;done) | (simp [*];done) | (simp;rw [Bool.eq_iff_iff];simp;done)),H',⟨by have:=HK1.out;have:=HJ5.out;first | omega | exact Nat.le_refl _⟩,by repeat (first | exact Drawn0.refl _ | apply Drawn0.step)⟩)
          ·rw [if_neg c10] at H;have c10b0 : decide (0 < x10_1) = false:=decide_eq_false c10;clear c10;(first | rw [c10b0] | (simp only [i64_w,i32_w];rw [c10b0]) | skip);have H':=am H;clear H;(go_wp2);(go_meet);(case rel => exact ⟨_,(false),(by first | rfl | (simp;done) | (simp [*];done) | (simp;rw [Bool.eq_iff_iff];simp;done)),H',⟨by have:=HK1.out;have:=HJ5.out;first | omega | exact Nat.le_refl _⟩,by repeat (first | exact Drawn0.refl _ | apply Drawn0.step)⟩)
        case rest =>
         clear HC8;(try clear c1);(try clear c2);(try clear c2b0);(try clear p2);(try clear c3);(try clear c3b0);(try clear c4);(try clear c4b0);(try clear c5);(try clear p5);(try clear q5);(try clear hx5);(try clear c7);(try clear c7b0);(try clear c7b1);(try clear c9);(try clear c10);(try clear c10b0);(try clear p2);(try clear p5);(try clear q5);obtain ⟨kq,x16_7,rfl,HA,HJ7,⟨mc7,rfl⟩⟩:=hcut
         cases kq with
         | zero => exact absurd HA.out (by simp [varint_scan.j2])
         | succ kj7 =>
          have H:=HA.out;clear HA;simp only [varint_scan.j2] at H;(by_cases c11 : x16_7 = true)
          ·subst c11;(have H1 : (some (0,0,3)) = some (r1,r2,r3):=by rw [if_pos rfl] at H;exact H);clear H;have H:=H1;clear H1;simp only [Option.some.injEq,Prod.mk.injEq] at H;obtain ⟨rfl,rfl,rfl⟩:=H;(go_wp2);(go_ret3);(exact ⟨by first | rfl | (simp;done) | (simp [*];done) | (simp;rw [Bool.eq_iff_iff];simp;done),by repeat (first | exact Drawn0.refl _ | apply Drawn0.step)⟩)
          ·replace c11:=Bool.eq_false_iff.mpr c11;subst c11;(have H1 : (if 0 ≤ (wrap64 (7 * x10_1)) then (if (bt a0 x10_1) < 128 then (some (Go.bits .or .u64 x5_1 (shl .u64 (IntKind.u64.wrap (Go.bits .and .u8 (bt a0 x10_1) 127)) (wrap64 (7 * x10_1))),wrap64 (x10_1 + 1),0)) else (varint_scan.l0 kj7 a0 (Go.bits .or .u64 x5_1 (shl .u64 (IntKind.u64.wrap (Go.bits .and .u8 (bt a0 x10_1) 127)) (wrap64 (7 * x10_1)))) (a0.size : Int) (wrap64 (x10_1 + 1)))) else (none)) = some (r1,r2,r3):=by rw [if_neg (show ¬ (false = true) by decide)] at H;exact H);clear H;have H:=H1;clear H1;obtain ⟨ji12,hji12⟩ : ∃ j_ : Int,(wrap64 (7 * x10_1)) = j_:=⟨_,rfl⟩;(replace H : (if 0 ≤ (ji12) then (if (bt a0 x10_1) < 128 then (some (Go.bits .or .u64 x5_1 (shl .u64 (IntKind.u64.wrap (Go.bits .and .u8 (bt a0 x10_1) 127)) (ji12)),wrap64 (x10_1 + 1),0)) else (varint_scan.l0 kj7 a0 (Go.bits .or .u64 x5_1 (shl .u64 (IntKind.u64.wrap (Go.bits .and .u8 (bt a0 x10_1) 127)) (ji12))) (a0.size : Int) (wrap64 (x10_1 + 1)))) else (none)) = some (r1,r2,r3):=by first | (rw [hji12] at H;exact H) | (simp only [hji12] at H ⊢;exact H));have hji12w : (IntKind.i64.wrap (7 * x10_1)) = ji12:=(i64_w _).trans hji12;(by_cases c13 : 0 ≤ (ji12))
           ·rw [if_pos c13] at H;have c13b0:=eq_true c13;have c13b1 : decide (0 ≤ (ji12)) = true:=decide_eq_true c13;clear c13;obtain ⟨ji14,hji14⟩ : ∃ j_ : Int,(shl .u64 (IntKind.u64.wrap (Go.bits .and .u8 (bt a0 x10_1) 127)) (ji12)) = j_:=⟨_,rfl⟩;(replace H : (if (bt a0 x10_1) < 128 then (some (Go.bits .or .u64 x5_1 (ji14),wrap64 (x10_1 + 1),0)) else (varint_scan.l0 kj7 a0 (Go.bits .or .u64 x5_1 (ji14)) (a0.size : Int) (wrap64 (x10_1 + 1)))) = some (r1,r2,r3):=by first | (rw [hji14] at H;exact H) | (simp only [hji14] at H ⊢;exact H));have hji14_ : (IntKind.u64.wrap ((IntKind.u64.wrap (Go.bits .and .u8 (bt a0 x10_1) 127)) * 2 ^ min (ji12).toNat 64)) = ji14:=hji14;have hji14z : (ji12) ≤ 64 → (IntKind.u64.wrap ((IntKind.u64.wrap (Go.bits .and .u8 (bt a0 x10_1) 127)) * 2 ^ (ji12).toNat)) = ji14:=shl_small hji14;(by_cases c15 : (bt a0 x10_1) < 128)
            ·rw [if_pos c15] at H;have c15b0 : decide ((bt a0 x10_1) < 128) = true:=decide_eq_true c15;clear c15;simp only [Option.some.injEq,Prod.mk.injEq] at H;obtain ⟨rfl,rfl,rfl⟩:=H;(go_wp2);(go_ret3);(exact ⟨by first | rfl | (simp;done) | (simp only [← hji12,← hji14] <;> (first | rfl | simp)) | (simp [*];done),by repeat (first | exact Drawn0.refl _ | apply Drawn0.step)⟩)
            ·rw [if_neg c15] at H;have c15b0 : decide ((bt a0 x10_1) < 128) = false:=decide_eq_false c15;clear c15;have H':=am H;clear H;(go_wp2);(go_roundg kj7);(case measure => have:=HK1.out;have:=HJ5.out;have:=HJ7.out;omega);(case rel => exact ⟨(Go.bits .or .u64 x5_1 (ji14)),(wrap64 (x10_1 + 1)),(by first | rfl | (simp;done) | (simp only [← hji14] <;> (first | rfl | simp)) | (simp [*];done)),(by first | rfl | (simp;done) | (simp [*];done) | (simp;rw [Bool.eq_iff_iff];simp;done)),H',⟨by have:=HK1.out;have:=HJ5.out;have:=HJ7.out;omega⟩,by repeat (first | exact Drawn0.refl _ | apply Drawn0.step)⟩)
           ·rw [if_neg c13] at H;(exact absurd H (by simp))
     ·rw [if_neg c4] at H;(exact absurd H (by simp))
    ·rw [if_neg c3] at H;(exact absurd H (by simp))
   ·rw [if_neg c2] at H;have c2b0 : decide (x10_1 < (a0.size : Int)) = false:=decide_eq_false c2;clear c2;simp only [Option.some.injEq,Prod.mk.injEq] at H;obtain ⟨rfl,rfl,rfl⟩:=H;(go_wp2);(go_ret3);(exact ⟨by first | rfl | (simp;done) | (simp [*];done) | (simp;rw [Bool.eq_iff_iff];simp;done),by repeat (first | exact Drawn0.refl _ | apply Drawn0.step)⟩)

end Go.Proofs.YtkpjkgfaepidaaaDoor.PC

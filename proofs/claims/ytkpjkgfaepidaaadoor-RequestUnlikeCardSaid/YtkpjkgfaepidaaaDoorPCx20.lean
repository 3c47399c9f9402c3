-- Written by this session's own program wip/bin/dprint.py, over the kit's print.py, with own texts for some functions: no print of print.sh's
import Derived.Test.YtkpjkgfaepidaaaDoorPCx0
import Derived.Test.YtkpjkgfaepidaaaDoorPCx19
import Derived.Test.YtkpjkgfaepidaaaDoorUps
namespace Go.Proofs.YtkpjkgfaepidaaaDoor.PC
open Go.RowKit Go.Proofs.YtkpjkgfaepidaaaDoorW.PrintWords Go.Proofs.YtkpjkgfaepidaaaDoorW.PrintLast Go.Proofs.YtkpjkgfaepidaaaDoorW.PrintMore
attribute [local go_sem] max2_int min2_int max_two min_two max_three min_three max_four min_four   -- for this text's walks alone
set_option linter.unusedVariables false
set_option linter.unusedSimpArgs false

/-! ### dowserref28_num: function 36 -/
def dowserref28_num.j0 : Nat → ByteArray → Int → Int → Int → Bool → Option (Int × ByteArray × Int)
 | 0,_,_,_,_,_ => none
 | k + 1,x0,x7,x8,x9,x22 => if x22 = true then (some (0,(⟨#[]⟩ : ByteArray),4)) else (if x9 = 0 then (if 0 ≤ x8 then (if x8 ≤ (x0.size : Int) then (some (wrap64 (x7),x0.extract (x8 : Int).toNat x0.size,0)) else (none)) else (none)) else (some (0,(⟨#[]⟩ : ByteArray),x9)))
def dowserref28_num.f (k : Nat) (a0 : ByteArray) (a1 : Int) : Option (Int × ByteArray × Int):=(dowserref01_Head.f k a0).bind fun bt233 => (if bt233.2.2 = 0 then (dowserref28_num.j0 k a0 bt233.1 bt233.2.1 bt233.2.2 (decide (bt233.1 > a1))) else (dowserref28_num.j0 k a0 bt233.1 bt233.2.1 bt233.2.2 false))
theorem dowserref28_num.mono_l : ∀ k,(∀ y0 y1 y2 y3 y4,LeO (dowserref28_num.j0 k y0 y1 y2 y3 y4) (dowserref28_num.j0 (k + 1) y0 y1 y2 y3 y4))
 | 0 => fun _ _ _ _ _ r h => by simp [dowserref28_num.j0] at h
 | k + 1 => by
  have ih0:=dowserref28_num.mono_l k
  ·intro y0 y1 y2 y3 y4;unfold dowserref28_num.j0
   repeat' first
   | (with_reducible exact ih0 _ _ _ _ _)
   | (with_reducible exact dowserref01_Head.mono _ _)
   | (with_reducible exact LeO.refl _)
   | (with_reducible exact LeO.none _)
   | (with_reducible refine LeO.ite ?_ ?_)
   | (with_reducible refine LeO.bind ?_ (fun _ => ?_))
   | exact ih0 _ _ _ _ _
   | exact dowserref01_Head.mono _ _
   | exact LeO.none _
   | refine LeO.ite ?_ ?_
   | refine LeO.bind ?_ (fun _ => ?_)
theorem dowserref28_num.mono : ∀ a0 a1 k,LeO (dowserref28_num.f k a0 a1) (dowserref28_num.f (k + 1) a0 a1):=by
 intro a0 a1 k;have ih0:=dowserref28_num.mono_l k;unfold dowserref28_num.f
 repeat' first
   | (with_reducible exact ih0 _ _ _ _ _)
   | (with_reducible exact dowserref01_Head.mono _ _)
   | (with_reducible exact LeO.refl _)
   | (with_reducible exact LeO.none _)
   | (with_reducible refine LeO.ite ?_ ?_)
   | (with_reducible refine LeO.bind ?_ (fun _ => ?_))
   | exact ih0 _ _ _ _ _
   | exact dowserref01_Head.mono _ _
   | exact LeO.none _
   | refine LeO.ite ?_ ?_
   | refine LeO.bind ?_ (fun _ => ?_)
set_option maxHeartbeats 40000000 in
set_option maxRecDepth 100000 in
theorem dowserref28_num.calls (k : Nat) (a0 : ByteArray) (a1 : Int) (r1 : Int) (r2 : ByteArray) (r3 : Int) (w : World) (h : dowserref28_num.f k a0 a1 = some (r1,r2,r3)) :
  Calls Tryd.prog 36 #[.string a0,.int .u64 a1] w fun e w' => e = .returned (.tuple #[.int .i64 r1,.string r2,.int .i64 r3]) ∧ Drawn0 w w':=by
 (have H : ((dowserref01_Head.f k a0).bind fun bt233 => (if bt233.2.2 = 0 then (dowserref28_num.j0 k a0 bt233.1 bt233.2.1 bt233.2.2 (decide (bt233.1 > a1))) else (dowserref28_num.j0 k a0 bt233.1 bt233.2.1 bt233.2.2 false))) = some (r1,r2,r3):=h);clear h;replace H:=Option.bind_eq_some_iff.mp H;obtain ⟨⟨t233,t234,t235⟩,A30,H⟩:=H;replace H : (if t235 = 0 then (dowserref28_num.j0 k a0 t233 t234 t235 (decide (t233 > a1))) else (dowserref28_num.j0 k a0 t233 t234 t235 false)) = some (r1,r2,r3):=H;have A3:=am A30;clear A30;have HC4:=am H;clear H;(go_enter Tryd.func36,Tryd.ntmps36);(go_upto_region 2 with (first | (go_at_call 50;(with_reducible refine (dowserref01_Head.calls k a0 t233 t234 t235 _ A3.out).mono ?_);rintro e w' ⟨rfl,⟨nd,rfl⟩⟩;(try first | exact ⟨rfl,_,World.drewN_drewN _ _ _⟩ | exact ⟨rfl,_,Eq.trans (World.drewN_drewN _ _ _) (congrArg (World.drewN _) (Nat.add_assoc _ _ _))⟩))));(repeat (go_quiet (first | (go_at_call 50;(with_reducible refine (dowserref01_Head.calls k a0 t233 t234 t235 _ A3.out).mono ?_);rintro e w' ⟨rfl,⟨nd,rfl⟩⟩;(try first | exact ⟨rfl,_,World.drewN_drewN _ _ _⟩ | exact ⟨rfl,_,Eq.trans (World.drewN_drewN _ _ _) (congrArg (World.drewN _) (Nat.add_assoc _ _ _))⟩)));go_upto_region 2 with (first | (go_at_call 50;(with_reducible refine (dowserref01_Head.calls k a0 t233 t234 t235 _ A3.out).mono ?_);rintro e w' ⟨rfl,⟨nd,rfl⟩⟩;(try first | exact ⟨rfl,_,World.drewN_drewN _ _ _⟩ | exact ⟨rfl,_,Eq.trans (World.drewN_drewN _ _ _) (congrArg (World.drewN _) (Nat.add_assoc _ _ _))⟩)))));(try simp only [Act.put,sA,sZ,sS]);(go_cut [22] (fun v22 wc => ∃ (kq : Nat) (x22_3 : Bool),v22 = .bool x22_3 ∧ Aside0 (dowserref28_num.j0 kq a0 t233 t234 t235 x22_3 = some (r1,r2,r3)) ∧ Aside0 (kq ≤ k) ∧ Drawn0 w wc))
 case first =>
  have H:=HC4.out;clear HC4;(by_cases c5 : t235 = 0)
  ·rw [if_pos c5] at H;have c5b0 : (t235 == 0) = true:=beq_iff_eq.mpr c5;have c5b1 : (t235 != 0) = false:=bne_eq_false_iff_eq.mpr c5;clear c5;(first | rw [c5b0] | (simp only [i64_w,i32_w];rw [c5b0]) | skip);have H':=am H;clear H;(go_wp2);(repeat (go_quiet (fail);try go_wp2));(go_meet);(case rel => exact ⟨_,(decide (t233 > a1)),(by first | rfl | (simp;done) | (simp [*];done) | (simp;rw [Bool.eq_iff_iff];simp;done)),H',⟨by first | omega | exact Nat.le_refl _⟩,by repeat (first | exact Drawn0.refl _ | apply Drawn0.step)⟩)
  ·rw [if_neg c5] at H;have c5b0 : (t235 == 0) = false:=beq_eq_false_iff_ne.mpr c5;have c5b1 : (t235 != 0) = true:=bne_iff_ne.mpr c5;(first | rw [c5b0] | (simp only [i64_w,i32_w];rw [c5b0]) | skip);have H':=am H;clear H;(go_wp2);(repeat (go_quiet (fail);try go_wp2));(go_meet);(case rel => exact ⟨_,(false),(by first | rfl | (simp;done) | (simp [*];done) | (simp;rw [Bool.eq_iff_iff];simp;done)),H',⟨by first | omega | exact Nat.le_refl _⟩,by repeat (first | exact Drawn0.refl _ | apply Drawn0.step)⟩)
 case rest =>
  clear HC4;(try clear p2);(try clear c3);(try clear c5);(try clear c5b0);(try clear c5b1);obtain ⟨kq,x22_3,rfl,HA,HJ3,⟨mc3,rfl⟩⟩:=hcut
  cases kq with
  | zero => exact absurd HA.out (by simp [dowserref28_num.j0])
  | succ kj3 =>
   have H:=HA.out;clear HA;simp only [dowserref28_num.j0] at H;(by_cases c6 : x22_3 = true)
   ·subst c6;(have H1 : (some (0,(⟨#[]⟩ : ByteArray),4)) = some (r1,r2,r3):=by rw [if_pos rfl] at H;exact H);clear H;have H:=H1;clear H1;simp only [Option.some.injEq,Prod.mk.injEq] at H;obtain ⟨rfl,rfl,rfl⟩:=H;(go_wp2);(repeat (go_quiet (fail);try go_wp2));(go_ret3);(exact ⟨by first | rfl | (simp;done) | (simp [*];done) | (simp;rw [Bool.eq_iff_iff];simp;done),by repeat (first | exact Drawn0.refl _ | apply Drawn0.step)⟩)
   ·replace c6:=Bool.eq_false_iff.mpr c6;subst c6;(have H1 : (if t235 = 0 then (if 0 ≤ t234 then (if t234 ≤ (a0.size : Int) then (some (wrap64 (t233),a0.extract (t234 : Int).toNat a0.size,0)) else (none)) else (none)) else (some (0,(⟨#[]⟩ : ByteArray),t235))) = some (r1,r2,r3):=by rw [if_neg (show ¬ (false = true) by decide)] at H;exact H);clear H;have H:=H1;clear H1;(by_cases c7 : t235 = 0)
    ·rw [if_pos c7] at H;have c7b0 : (t235 == 0) = true:=beq_iff_eq.mpr c7;have c7b1 : (t235 != 0) = false:=bne_eq_false_iff_eq.mpr c7;clear c7;(by_cases c8 : 0 ≤ t234)
     ·rw [if_pos c8] at H;have c8b0:=eq_true c8;have c8b1 : decide (0 ≤ t234) = true:=decide_eq_true c8;clear c8;(by_cases c9 : t234 ≤ (a0.size : Int))
      ·rw [if_pos c9] at H;have c9b0:=eq_true c9;have c9b1 : decide (t234 ≤ (a0.size : Int)) = true:=decide_eq_true c9;clear c9;simp only [Option.some.injEq,Prod.mk.injEq] at H;obtain ⟨rfl,rfl,rfl⟩:=H;(go_wp2);(repeat (go_quiet (fail);try go_wp2));(go_ret3);(exact ⟨by first | rfl | (simp;done) | (simp [*];done) | (simp;rw [Bool.eq_iff_iff];simp;done),by repeat (first | exact Drawn0.refl _ | apply Drawn0.step)⟩)
      ·rw [if_neg c9] at H;(exact absurd H (by simp))
     ·rw [if_neg c8] at H;(exact absurd H (by simp))
    ·rw [if_neg c7] at H;have c7b0 : (t235 == 0) = false:=beq_eq_false_iff_ne.mpr c7;have c7b1 : (t235 != 0) = true:=bne_iff_ne.mpr c7;simp only [Option.some.injEq,Prod.mk.injEq] at H;obtain ⟨rfl,rfl,rfl⟩:=H;(go_wp2);(repeat (go_quiet (fail);try go_wp2));(go_ret3);(exact ⟨by first | rfl | (simp;done) | (simp [*];done) | (simp;rw [Bool.eq_iff_iff];simp;done),by repeat (first | exact Drawn0.refl _ | apply Drawn0.step)⟩)

end Go.Proofs.YtkpjkgfaepidaaaDoor.PC

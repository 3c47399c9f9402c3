-- Written by this session's own program wip/bin/dprint.py, over the kit's print.py, with own texts for some functions: no print of print.sh's
import Derived.Test.YtkpjkgfaepidaaaDoorPCx0
import Derived.Test.YtkpjkgfaepidaaaDoorUps
namespace Go.Proofs.YtkpjkgfaepidaaaDoor.PC
open Go.RowKit Go.Proofs.YtkpjkgfaepidaaaDoorW.PrintWords Go.Proofs.YtkpjkgfaepidaaaDoorW.PrintLast Go.Proofs.YtkpjkgfaepidaaaDoorW.PrintMore
attribute [local go_sem] max2_int min2_int max_two min_two max_three min_three max_four min_four   -- for this text's walks alone
set_option linter.unusedVariables false
set_option linter.unusedSimpArgs false

/-! ### dowserref01_Num: function 40 -/
def dowserref01_Num.l0 : Nat → Int → ByteArray → Int → Option (ByteArray)
 | 0,_,_,_ => none
 | k + 1,x0,x3,x4 => if x4 < 10 then (if x0 < 128 then ((some (([(x0) % 256] : List Int) : List Int)).bind fun y216 => (if x3.size + (strOfNums y216).size ≤ 9223372036854775807 then (some (x3 ++ (strOfNums y216))) else (none))) else ((some (([(IntKind.u64.wrap (128 + (Int.tmod x0 128))) % 256] : List Int) : List Int)).bind fun y219 => (if x3.size + (strOfNums y219).size ≤ 9223372036854775807 then (dowserref01_Num.l0 k (IntKind.u64.wrap (Int.tdiv x0 128)) (x3 ++ (strOfNums y219)) (wrap64 (x4 + 1))) else (none)))) else (some x3)
def dowserref01_Num.f (k : Nat) (a0 : Int) : Option (ByteArray):=dowserref01_Num.l0 k a0 (⟨#[]⟩ : ByteArray) 0
theorem dowserref01_Num.mono_l : ∀ k,(∀ y0 y1 y2,LeO (dowserref01_Num.l0 k y0 y1 y2) (dowserref01_Num.l0 (k + 1) y0 y1 y2))
 | 0 => fun _ _ _ r h => by simp [dowserref01_Num.l0] at h
 | k + 1 => by
  have ih0:=dowserref01_Num.mono_l k
  ·intro y0 y1 y2;unfold dowserref01_Num.l0
   repeat' first
   | (with_reducible exact ih0 _ _ _)
   | (with_reducible exact LeO.refl _)
   | (with_reducible exact LeO.none _)
   | (with_reducible refine LeO.ite ?_ ?_)
   | (with_reducible refine LeO.bind ?_ (fun _ => ?_))
   | exact ih0 _ _ _
   | exact LeO.none _
   | refine LeO.ite ?_ ?_
   | refine LeO.bind ?_ (fun _ => ?_)
theorem dowserref01_Num.mono : ∀ a0 k,LeO (dowserref01_Num.f k a0) (dowserref01_Num.f (k + 1) a0):=by
 intro a0 k;have ih0:=dowserref01_Num.mono_l k;unfold dowserref01_Num.f
 repeat' first
   | (with_reducible exact ih0 _ _ _)
   | (with_reducible exact LeO.refl _)
   | (with_reducible exact LeO.none _)
   | (with_reducible refine LeO.ite ?_ ?_)
   | (with_reducible refine LeO.bind ?_ (fun _ => ?_))
   | exact ih0 _ _ _
   | exact LeO.none _
   | refine LeO.ite ?_ ?_
   | refine LeO.bind ?_ (fun _ => ?_)
set_option maxHeartbeats 40000000 in
set_option maxRecDepth 100000 in
theorem dowserref01_Num.calls (k : Nat) (a0 : Int) (r : ByteArray) (w : World) (h : dowserref01_Num.f k a0 = some r) :
  Calls Tryd.prog 40 #[.int .u64 a0] w fun e w' => e = .returned (.string r) ∧ Below w.heap.size w w':=by
 have HB:=am (Below.refl w.heap.size w);have H : (dowserref01_Num.l0 k a0 (⟨#[]⟩ : ByteArray) 0) = some r:=h;clear h;have H':=am H;clear H;(go_enter Tryd.func40,Tryd.ntmps40);(go_wp2);(go_loopg [0,3,4] k (fun kq v0 v3 v4 w' => ∃ (x0_1 : Int) (x3_1 : ByteArray) (x4_1 : Int),v0 = .int .u64 x0_1 ∧ v3 = .string x3_1 ∧ v4 = .int .i64 x4_1 ∧ Aside0 (dowserref01_Num.l0 kq x0_1 x3_1 x4_1 = some r) ∧ Aside0 (kq ≤ k) ∧ Aside0 (Below w.heap.size w w')));(case atStart => exact ⟨(a0),((⟨#[]⟩ : ByteArray)),(0),(by first | rfl | (simp;done) | (simp [*];done) | (simp;rw [Bool.eq_iff_iff];simp;done)),(by first | rfl | (simp;done) | (simp [*];done) | (simp;rw [Bool.eq_iff_iff];simp;done)),(by first | rfl | (simp;done) | (simp [*];done) | (simp;rw [Bool.eq_iff_iff];simp;done)),H',⟨Nat.le_refl _⟩,⟨lo HB.out⟩⟩)
 case round =>
  clear H';obtain ⟨x0_1,x3_1,x4_1,rfl,rfl,rfl,HA,HK1,HB⟩:=hrel
  cases gk with
  | zero => exact absurd HA.out (by simp [dowserref01_Num.l0])
  | succ k1 =>
   have H:=HA.out;clear HA;simp only [dowserref01_Num.l0] at H;(by_cases c2 : x4_1 < 10)
   ·rw [if_pos c2] at H;have c2b0 : decide (x4_1 < 10) = true:=decide_eq_true c2;clear c2;(by_cases c3 : x0_1 < 128)
    ·rw [if_pos c3] at H;have c3b0 : decide (x0_1 < 128) = true:=decide_eq_true c3;clear c3;obtain ⟨y216,hy216⟩ : ∃ y_ : List Int,y_ = (([(x0_1) % 256] : List Int)):=⟨_,rfl⟩;(replace H : (if x3_1.size + (strOfNums y216).size ≤ 9223372036854775807 then (some (x3_1 ++ (strOfNums y216))) else (none)) = some r:=by first | (rw [hy216];with_reducible exact H) | (have H2_:=(Option.bind_some _ _).symm.trans H;rw [hy216];with_reducible exact H2_) | (have H2_:=(Option.bind_some _ _).symm.trans H;with_reducible exact H2_) | with_reducible exact H | (rw [hy216];exact H) | exact H);have Ny216:=am hy216;clear hy216;(by_cases c4 : x3_1.size + (strOfNums y216).size ≤ 9223372036854775807)
     ·rw [if_pos c4] at H;have c4b0:=eq_true c4;have c4b1 : decide (x3_1.size + (strOfNums y216).size ≤ 9223372036854775807) = true:=decide_eq_true c4;(try have c4b2 : (9223372036854775807 < x3_1.size + (strOfNums y216).size) = False:=eq_false (Nat.not_lt.2 c4));obtain rfl:=Option.some.inj H;(go_wp2_with (first | ((with_reducible refine gate_dst (N:=14) rfl ?_);refine Kd.R_lit (Kd.int .u8) _ 5 ?hg (N:=14) ?hd (xs:=([(x0_1) % 256] : List Int)) (inner:=[.int .u8 ((x0_1) % 256)]) (ok:=fun _ => True) (okp:=fun _ => True) ?hr ?hp (fun _ hk => hk) trivial (Below.refl _ _) (Nat.le_refl _) (by simp) ?_;(case hd => rfl);(case hg => rfl);(case hr => first | (go_simp;done) | (go_simp;rfl));(case hp => exact (Reps.one (show Kd.M (Kd.int .u8) _ _ _ ((x0_1) % 256) [.int .u8 ((x0_1) % 256)] from rfl) (Reps.none _ _)));intro v217 w5 ho6 hb hg_ hnew_;clear hg_ hnew_;(first | rw [← Ny216.out] at ho6 | (simp only [Int.reduceToNat] at ho6;rw [← Ny216.out] at ho6));have HO218:=am (Kd.R_lower ho6 (below_size (lo HB.out)));replace HB:=am (below_step (lo HB.out) hb);clear hb ho6;have hcv7:=own_string (P:=Tryd.prog) Tryd.underlying73 Tryd.underlying5 Tryd.underlying9 (Kd.own_of_R HO218.out))));(go_ret);(exact ⟨by first | rfl | (simp [errW_none,errW_some] <;> rfl) | (simp [*,errW_none,errW_some] <;> rfl),lo HB.out⟩)
     ·rw [if_neg c4] at H;(exact absurd H (by simp))
    ·rw [if_neg c3] at H;have c3b0 : decide (x0_1 < 128) = false:=decide_eq_false c3;clear c3;obtain ⟨y219,hy219⟩ : ∃ y_ : List Int,y_ = (([(IntKind.u64.wrap (128 + (Int.tmod x0_1 128))) % 256] : List Int)):=⟨_,rfl⟩;(replace H : (if x3_1.size + (strOfNums y219).size ≤ 9223372036854775807 then (dowserref01_Num.l0 k1 (IntKind.u64.wrap (Int.tdiv x0_1 128)) (x3_1 ++ (strOfNums y219)) (wrap64 (x4_1 + 1))) else (none)) = some r:=by first | (rw [hy219];with_reducible exact H) | (have H2_:=(Option.bind_some _ _).symm.trans H;rw [hy219];with_reducible exact H2_) | (have H2_:=(Option.bind_some _ _).symm.trans H;with_reducible exact H2_) | with_reducible exact H | (rw [hy219];exact H) | exact H);have Ny219:=am hy219;clear hy219;(by_cases c8 : x3_1.size + (strOfNums y219).size ≤ 9223372036854775807)
     ·rw [if_pos c8] at H;have c8b0:=eq_true c8;have c8b1 : decide (x3_1.size + (strOfNums y219).size ≤ 9223372036854775807) = true:=decide_eq_true c8;(try have c8b2 : (9223372036854775807 < x3_1.size + (strOfNums y219).size) = False:=eq_false (Nat.not_lt.2 c8));have H':=am H;clear H;(go_wp2_with (first | ((with_reducible refine gate_dst (N:=22) rfl ?_);refine Kd.R_lit (Kd.int .u8) _ 5 ?hg (N:=22) ?hd (xs:=([(IntKind.u64.wrap (128 + (Int.tmod x0_1 128))) % 256] : List Int)) (inner:=[.int .u8 ((IntKind.u64.wrap (128 + (Int.tmod x0_1 128))) % 256)]) (ok:=fun _ => True) (okp:=fun _ => True) ?hr ?hp (fun _ hk => hk) trivial (Below.refl _ _) (Nat.le_refl _) (by simp) ?_;(case hd => rfl);(case hg => rfl);(case hr => first | (go_simp;done) | (go_simp;rfl));(case hp => exact (Reps.one (show Kd.M (Kd.int .u8) _ _ _ ((IntKind.u64.wrap (128 + (Int.tmod x0_1 128))) % 256) [.int .u8 ((IntKind.u64.wrap (128 + (Int.tmod x0_1 128))) % 256)] from rfl) (Reps.none _ _)));intro v220 w9 ho10 hb hg_ hnew_;clear hg_ hnew_;(first | rw [← Ny219.out] at ho10 | (simp only [Int.reduceToNat] at ho10;rw [← Ny219.out] at ho10));have HO221:=am (Kd.R_lower ho10 (below_size (lo HB.out)));replace HB:=am (below_step (lo HB.out) hb);clear hb ho10;have hcv11:=own_string (P:=Tryd.prog) Tryd.underlying73 Tryd.underlying5 Tryd.underlying9 (Kd.own_of_R HO221.out))));(go_roundg k1);(case measure => have:=HK1.out;omega);(case rel => exact ⟨(IntKind.u64.wrap (Int.tdiv x0_1 128)),(x3_1 ++ (strOfNums y219)),(wrap64 (x4_1 + 1)),(by first | rfl | (simp;done) | (simp [*];done) | (simp;rw [Bool.eq_iff_iff];simp;done)),(by first | rfl | (simp;done) | (simp [*];done) | (simp;rw [Bool.eq_iff_iff];simp;done)),(by first | rfl | (simp;done) | (simp [*];done) | (simp;rw [Bool.eq_iff_iff];simp;done)),H',⟨by have:=HK1.out;omega⟩,⟨lo HB.out⟩⟩)
     ·rw [if_neg c8] at H;(exact absurd H (by simp))
   ·rw [if_neg c2] at H;have c2b0 : decide (x4_1 < 10) = false:=decide_eq_false c2;clear c2;obtain rfl:=Option.some.inj H;(go_wp2);(go_ret);(exact ⟨by first | rfl | (simp [errW_none,errW_some] <;> rfl) | (simp [*,errW_none,errW_some] <;> rfl),lo HB.out⟩)

/-! ### dowserref01_Text: function 41 -/
def dowserref01_Text.f (k : Nat) (a0 : ByteArray) : Option (ByteArray):=if a0.size + 0 ≤ 9223372036854775807 then ((dowserref01_Num.f k (a0.size : Int)).bind fun t222 => (if t222.size + a0.size ≤ 9223372036854775807 then (some (t222 ++ a0)) else (none))) else (none)
theorem dowserref01_Text.mono : ∀ a0 k,LeO (dowserref01_Text.f k a0) (dowserref01_Text.f (k + 1) a0):=by
 intro a0 k;unfold dowserref01_Text.f
 repeat' first
   | (with_reducible exact dowserref01_Num.mono _ _)
   | (with_reducible exact LeO.refl _)
   | (with_reducible exact LeO.none _)
   | (with_reducible refine LeO.ite ?_ ?_)
   | (with_reducible refine LeO.bind ?_ (fun _ => ?_))
   | exact dowserref01_Num.mono _ _
   | exact LeO.none _
   | refine LeO.ite ?_ ?_
   | refine LeO.bind ?_ (fun _ => ?_)
set_option maxHeartbeats 40000000 in
set_option maxRecDepth 100000 in
theorem dowserref01_Text.calls (k : Nat) (a0 : ByteArray) (r : ByteArray) (w : World) (h : dowserref01_Text.f k a0 = some r) :
  Calls Tryd.prog 41 #[.string a0] w fun e w' => e = .returned (.string r) ∧ Below w.heap.size w w':=by
 have HB:=am (Below.refl w.heap.size w);(have H : (if a0.size + 0 ≤ 9223372036854775807 then ((dowserref01_Num.f k (a0.size : Int)).bind fun t222 => (if t222.size + a0.size ≤ 9223372036854775807 then (some (t222 ++ a0)) else (none))) else (none)) = some r:=h);clear h;(by_cases c2 : a0.size + 0 ≤ 9223372036854775807)
 ·rw [if_pos c2] at H;have c2b0:=eq_true c2;have c2b1 : decide (a0.size + 0 ≤ 9223372036854775807) = true:=decide_eq_true c2;(try have c2b2 : (9223372036854775807 < a0.size + 0) = False:=eq_false (Nat.not_lt.2 c2));replace H:=Option.bind_eq_some_iff.mp H;obtain ⟨t222,A30,H⟩:=H;replace H : (if t222.size + a0.size ≤ 9223372036854775807 then (some (t222 ++ a0)) else (none)) = some r:=H;have A3:=am A30;clear A30;(by_cases c4 : t222.size + a0.size ≤ 9223372036854775807)
  ·rw [if_pos c4] at H;have c4b0:=eq_true c4;have c4b1 : decide (t222.size + a0.size ≤ 9223372036854775807) = true:=decide_eq_true c4;(try have c4b2 : (9223372036854775807 < t222.size + a0.size) = False:=eq_false (Nat.not_lt.2 c4));obtain rfl:=Option.some.inj H;(go_enter Tryd.func41,Tryd.ntmps41);(go_wp2_with (first | ((with_reducible refine gate_callee (f:=40) rfl ?_);refine goesL_ (some 6) rfl rfl Tryd.func40 (by kernel_rfl) rfl #[.int .u64 (a0.size : Int)] rfl (by (try simp only [List.map_toArray,List.map_cons,List.map_nil]);first | done | rfl | (simp only [List.length_drop,List.length_take];rfl)) ?_;(with_reducible refine (dowserref01_Num.calls k (a0.size : Int) t222 _ A3.out).mono ?_);rintro e w5 ⟨rfl,hb⟩;refine ⟨_,rfl,?_⟩;replace HB:=am (below_step (lo HB.out) hb);(try clear hb);(try clear hb2);(try clear hk);(try clear hi))));(go_ret);(exact ⟨by first | rfl | (simp [errW_none,errW_some] <;> rfl) | (simp [*,errW_none,errW_some] <;> rfl),lo HB.out⟩)
  ·rw [if_neg c4] at H;(exact absurd H (by simp))
 ·rw [if_neg c2] at H;(exact absurd H (by simp))

end Go.Proofs.YtkpjkgfaepidaaaDoor.PC

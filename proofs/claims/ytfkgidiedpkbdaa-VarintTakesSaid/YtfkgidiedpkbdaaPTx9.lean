-- Written by this session's own program wip/bin/dprint.py, over the kit's print.py, with own texts for some functions: no print of print.sh's
import Derived.Test.YtfkgidiedpkbdaaPTx0
import Derived.Test.YtfkgidiedpkbdaaPTx5
import Derived.Test.YtfkgidiedpkbdaaPTx8
namespace Go.Proofs.Ytfkgidiedpkbdaa.PT
open Go.RowKit Go.Proofs.YtfkgidiedpkbdaaW.PrintWords Go.Proofs.YtfkgidiedpkbdaaW.PrintLast Go.Proofs.YtfkgidiedpkbdaaW.PrintMore
attribute [local go_sem] max2_int min2_int max_two min_two max_three min_three max_four min_four   -- for this text's walks alone
set_option linter.unusedVariables false
set_option linter.unusedSimpArgs false

/-! ### dowserref01_Take: function 47 -/
mutual
def dowserref01_Take.l0 : Nat → ByteArray → List ByteArray → Int → List (S67) → Int → Int → Option (List ByteArray × ByteArray × Int)
  | 0, _, _, _, _, _, _ => none
  | k + 1, x0, x7, x8, x17, x18, x19 => if x19 < x18 then (if 0 ≤ x19 then (if x19 < (x17.length : Int) then (if ((rd_T67 x17 x19).f0) = 3 then (dowserref01_Take.j1 k x0 x7 x8 (⟨#[]⟩ : ByteArray) (mx ((rd_T67 x17 x19).f2) 0) x17 x18 x19 (x8 == 0) ((rd_T67 x17 x19).f0) ((rd_T67 x17 x19).f1) ((rd_T67 x17 x19).f2)) else (dowserref01_Take.j1 k x0 x7 x8 (⟨#[]⟩ : ByteArray) (mx ((rd_T67 x17 x19).f2) 0) x17 x18 x19 false ((rd_T67 x17 x19).f0) ((rd_T67 x17 x19).f1) ((rd_T67 x17 x19).f2))) else (none)) else (none)) else (some (x7, x0, x8))
def dowserref01_Take.j1 : Nat → ByteArray → List ByteArray → Int → ByteArray → Int → List (S67) → Int → Int → Bool → Int → Int → Int → Option (List ByteArray × ByteArray × Int)
  | 0, _, _, _, _, _, _, _, _, _, _, _, _ => none
  | k + 1, x0, x7, x8, x11, x12, x17, x18, x19, x32, x137000, x137001, x137002 => if x32 = true then (dowserref01_Take.j2 k (⟨#[]⟩ : ByteArray) x7 13 x11 x12 x17 x18 x19 x137000 x137001 x137002) else (dowserref01_Take.j2 k x0 x7 x8 x11 x12 x17 x18 x19 x137000 x137001 x137002)
def dowserref01_Take.j2 : Nat → ByteArray → List ByteArray → Int → ByteArray → Int → List (S67) → Int → Int → Int → Int → Int → Option (List ByteArray × ByteArray × Int)
  | 0, _, _, _, _, _, _, _, _, _, _, _ => none
  | k + 1, x0, x7, x8, x11, x12, x17, x18, x19, x137000, x137001, x137002 => if x8 = 0 then (dowserref01_Take.j3 k x0 x7 x8 x11 x12 x17 x18 x19 (decide (x137000 < 2)) x137000 x137001 x137002) else (dowserref01_Take.j3 k x0 x7 x8 x11 x12 x17 x18 x19 false x137000 x137001 x137002)
def dowserref01_Take.j3 : Nat → ByteArray → List ByteArray → Int → ByteArray → Int → List (S67) → Int → Int → Bool → Int → Int → Int → Option (List ByteArray × ByteArray × Int)
  | 0, _, _, _, _, _, _, _, _, _, _, _, _ => none
  | k + 1, x0, x7, x8, x11, x12, x17, x18, x19, x39, x137000, x137001, x137002 => if x39 = true then ((dowserref01_Head.f k x0).bind fun bt137 => (if bt137.2.2 = 0 then (dowserref01_Take.j4 k x0 x7 x11 bt137.1 bt137.2.1 bt137.2.2 x17 x18 x19 (decide (bt137.1 > x137001)) x137000 x137001 x137002) else (dowserref01_Take.j4 k x0 x7 x11 bt137.1 bt137.2.1 bt137.2.2 x17 x18 x19 false x137000 x137001 x137002))) else (dowserref01_Take.j6 k x0 x7 x8 x11 x12 x17 x18 x19 x137000 x137001 x137002)
def dowserref01_Take.j6 : Nat → ByteArray → List ByteArray → Int → ByteArray → Int → List (S67) → Int → Int → Int → Int → Int → Option (List ByteArray × ByteArray × Int)
  | 0, _, _, _, _, _, _, _, _, _, _, _ => none
  | k + 1, x0, x7, x8, x11, x12, x17, x18, x19, x137000, x137001, x137002 => if x8 = 0 then (if x137000 = 0 then (dowserref01_Take.j7 k x0 x7 x8 x11 x12 x17 x18 x19 false x137000 x137001 x137002) else (dowserref01_Take.j7 k x0 x7 x8 x11 x12 x17 x18 x19 (x137000 != 3) x137000 x137001 x137002)) else (dowserref01_Take.j7 k x0 x7 x8 x11 x12 x17 x18 x19 false x137000 x137001 x137002)
def dowserref01_Take.j7 : Nat → ByteArray → List ByteArray → Int → ByteArray → Int → List (S67) → Int → Int → Bool → Int → Int → Int → Option (List ByteArray × ByteArray × Int)
  | 0, _, _, _, _, _, _, _, _, _, _, _, _ => none
  | k + 1, x0, x7, x8, x11, x12, x17, x18, x19, x82, x137000, x137001, x137002 => if x82 = true then (if x12 > (x0.size : Int) then (dowserref01_Take.j8 k x0 x7 2 x11 x17 x18 x19 x137000 x137001 x137002) else (if 0 ≤ x12 then (if x12 ≤ (x0.size : Int) then (dowserref01_Take.j8 k (x0.extract (x12 : Int).toNat x0.size) x7 x8 (x0.extract 0 (x12 : Int).toNat) x17 x18 x19 x137000 x137001 x137002) else (none)) else (none))) else (dowserref01_Take.j8 k x0 x7 x8 x11 x17 x18 x19 x137000 x137001 x137002)
def dowserref01_Take.j8 : Nat → ByteArray → List ByteArray → Int → ByteArray → List (S67) → Int → Int → Int → Int → Int → Option (List ByteArray × ByteArray × Int)
  | 0, _, _, _, _, _, _, _, _, _, _ => none
  | k + 1, x0, x7, x8, x11, x17, x18, x19, x137000, x137001, x137002 => if x8 = 0 then (if x7.length < 8796093022208 then (dowserref01_Take.l0 k x0 (x7 ++ [x11]) x8 x17 x18 (wrap64 (x19 + 1))) else (none)) else (if x137000 = 0 then ((dowserref01_Num.f k 0).bind fun t144 => (if x7.length < 8796093022208 then (dowserref01_Take.l0 k (⟨#[]⟩ : ByteArray) (x7 ++ [t144]) x8 x17 x18 (wrap64 (x19 + 1))) else (none))) else (if x7.length < 8796093022208 then (dowserref01_Take.l0 k (⟨#[]⟩ : ByteArray) (x7 ++ [(⟨#[]⟩ : ByteArray)]) x8 x17 x18 (wrap64 (x19 + 1))) else (none)))
def dowserref01_Take.j4 : Nat → ByteArray → List ByteArray → ByteArray → Int → Int → Int → List (S67) → Int → Int → Bool → Int → Int → Int → Option (List ByteArray × ByteArray × Int)
  | 0, _, _, _, _, _, _, _, _, _, _, _, _, _ => none
  | k + 1, x0, x7, x11, x13, x14, x15, x17, x18, x19, x53, x137000, x137001, x137002 => if x53 = true then (dowserref01_Take.j5 k x0 x7 x11 x13 x14 4 x17 x18 x19 x137000 x137001 x137002) else (dowserref01_Take.j5 k x0 x7 x11 x13 x14 x15 x17 x18 x19 x137000 x137001 x137002)
def dowserref01_Take.j5 : Nat → ByteArray → List ByteArray → ByteArray → Int → Int → Int → List (S67) → Int → Int → Int → Int → Int → Option (List ByteArray × ByteArray × Int)
  | 0, _, _, _, _, _, _, _, _, _, _, _, _ => none
  | k + 1, x0, x7, x11, x13, x14, x15, x17, x18, x19, x137000, x137001, x137002 => if x15 = 0 then (if 0 ≤ x14 then (if x14 ≤ (x0.size : Int) then ((dowserref01_Num.f k x13).bind fun t140 => (if x137000 = 1 then (dowserref01_Take.j6 k (x0.extract (x14 : Int).toNat x0.size) x7 x15 t140 (wrap64 (x13)) x17 x18 x19 x137000 x137001 x137002) else (dowserref01_Take.j6 k (x0.extract (x14 : Int).toNat x0.size) x7 x15 t140 0 x17 x18 x19 x137000 x137001 x137002))) else (none)) else (none)) else (if x137000 = 1 then (dowserref01_Take.j6 k x0 x7 x15 x11 0 x17 x18 x19 x137000 x137001 x137002) else (dowserref01_Take.j6 k x0 x7 x15 x11 0 x17 x18 x19 x137000 x137001 x137002))
end
def dowserref01_Take.f (k : Nat) (a0 : ByteArray) (l1 : List (S67)) : Option (List ByteArray × ByteArray × Int) := dowserref01_Take.l0 k a0 (([] : List ByteArray)) 0 l1 (l1.length : Int) 0
theorem dowserref01_Take.mono_l : ∀ k, (∀ y0 y1 y2 y3 y4 y5, LeO (dowserref01_Take.l0 k y0 y1 y2 y3 y4 y5) (dowserref01_Take.l0 (k + 1) y0 y1 y2 y3 y4 y5)) ∧ (∀ y0 y1 y2 y3 y4 y5 y6 y7 y8 y9 y10 y11, LeO (dowserref01_Take.j1 k y0 y1 y2 y3 y4 y5 y6 y7 y8 y9 y10 y11) (dowserref01_Take.j1 (k + 1) y0 y1 y2 y3 y4 y5 y6 y7 y8 y9 y10 y11)) ∧ (∀ y0 y1 y2 y3 y4 y5 y6 y7 y8 y9 y10, LeO (dowserref01_Take.j2 k y0 y1 y2 y3 y4 y5 y6 y7 y8 y9 y10) (dowserref01_Take.j2 (k + 1) y0 y1 y2 y3 y4 y5 y6 y7 y8 y9 y10)) ∧ (∀ y0 y1 y2 y3 y4 y5 y6 y7 y8 y9 y10 y11, LeO (dowserref01_Take.j3 k y0 y1 y2 y3 y4 y5 y6 y7 y8 y9 y10 y11) (dowserref01_Take.j3 (k + 1) y0 y1 y2 y3 y4 y5 y6 y7 y8 y9 y10 y11)) ∧ (∀ y0 y1 y2 y3 y4 y5 y6 y7 y8 y9 y10, LeO (dowserref01_Take.j6 k y0 y1 y2 y3 y4 y5 y6 y7 y8 y9 y10) (dowserref01_Take.j6 (k + 1) y0 y1 y2 y3 y4 y5 y6 y7 y8 y9 y10)) ∧ (∀ y0 y1 y2 y3 y4 y5 y6 y7 y8 y9 y10 y11, LeO (dowserref01_Take.j7 k y0 y1 y2 y3 y4 y5 y6 y7 y8 y9 y10 y11) (dowserref01_Take.j7 (k + 1) y0 y1 y2 y3 y4 y5 y6 y7 y8 y9 y10 y11)) ∧ (∀ y0 y1 y2 y3 y4 y5 y6 y7 y8 y9, LeO (dowserref01_Take.j8 k y0 y1 y2 y3 y4 y5 y6 y7 y8 y9) (dowserref01_Take.j8 (k + 1) y0 y1 y2 y3 y4 y5 y6 y7 y8 y9)) ∧ (∀ y0 y1 y2 y3 y4 y5 y6 y7 y8 y9 y10 y11 y12, LeO (dowserref01_Take.j4 k y0 y1 y2 y3 y4 y5 y6 y7 y8 y9 y10 y11 y12) (dowserref01_Take.j4 (k + 1) y0 y1 y2 y3 y4 y5 y6 y7 y8 y9 y10 y11 y12)) ∧ (∀ y0 y1 y2 y3 y4 y5 y6 y7 y8 y9 y10 y11, LeO (dowserref01_Take.j5 k y0 y1 y2 y3 y4 y5 y6 y7 y8 y9 y10 y11) (dowserref01_Take.j5 (k + 1) y0 y1 y2 y3 y4 y5 y6 y7 y8 y9 y10 y11))
  | 0 => ⟨fun _ _ _ _ _ _ r h => by simp [dowserref01_Take.l0] at h, fun _ _ _ _ _ _ _ _ _ _ _ _ r h => by simp [dowserref01_Take.j1] at h, fun _ _ _ _ _ _ _ _ _ _ _ r h => by simp [dowserref01_Take.j2] at h, fun _ _ _ _ _ _ _ _ _ _ _ _ r h => by simp [dowserref01_Take.j3] at h, fun _ _ _ _ _ _ _ _ _ _ _ r h => by simp [dowserref01_Take.j6] at h, fun _ _ _ _ _ _ _ _ _ _ _ _ r h => by simp [dowserref01_Take.j7] at h, fun _ _ _ _ _ _ _ _ _ _ r h => by simp [dowserref01_Take.j8] at h, fun _ _ _ _ _ _ _ _ _ _ _ _ _ r h => by simp [dowserref01_Take.j4] at h, fun _ _ _ _ _ _ _ _ _ _ _ _ r h => by simp [dowserref01_Take.j5] at h⟩
  | k + 1 => by
    obtain ⟨ih0, ih1, ih2, ih3, ih4, ih5, ih6, ih7, ih8⟩ := dowserref01_Take.mono_l k
    refine ⟨?_, ?_, ?_, ?_, ?_, ?_, ?_, ?_, ?_⟩
    · intro y0 y1 y2 y3 y4 y5
      unfold dowserref01_Take.l0
      repeat' first
      | (with_reducible exact ih0 _ _ _ _ _ _)
      | (with_reducible exact ih1 _ _ _ _ _ _ _ _ _ _ _ _)
      | (with_reducible exact ih2 _ _ _ _ _ _ _ _ _ _ _)
      | (with_reducible exact ih3 _ _ _ _ _ _ _ _ _ _ _ _)
      | (with_reducible exact ih4 _ _ _ _ _ _ _ _ _ _ _)
      | (with_reducible exact ih5 _ _ _ _ _ _ _ _ _ _ _ _)
      | (with_reducible exact ih6 _ _ _ _ _ _ _ _ _ _)
      | (with_reducible exact ih7 _ _ _ _ _ _ _ _ _ _ _ _ _)
      | (with_reducible exact ih8 _ _ _ _ _ _ _ _ _ _ _ _)
      | (with_reducible exact dowserref01_Head.mono _ _)
      | (with_reducible exact dowserref01_Num.mono _ _)
      | (with_reducible exact LeO.refl _)
      | (with_reducible exact LeO.none _)
      | (with_reducible refine LeO.ite ?_ ?_)
      | (with_reducible refine LeO.bind ?_ (fun _ => ?_))
      | exact ih0 _ _ _ _ _ _
      | exact ih1 _ _ _ _ _ _ _ _ _ _ _ _
      | exact ih2 _ _ _ _ _ _ _ _ _ _ _
      | exact ih3 _ _ _ _ _ _ _ _ _ _ _ _
      | exact ih4 _ _ _ _ _ _ _ _ _ _ _
      | exact ih5 _ _ _ _ _ _ _ _ _ _ _ _
      | exact ih6 _ _ _ _ _ _ _ _ _ _
      | exact ih7 _ _ _ _ _ _ _ _ _ _ _ _ _
      | exact ih8 _ _ _ _ _ _ _ _ _ _ _ _
      | exact dowserref01_Head.mono _ _
      | exact dowserref01_Num.mono _ _
      | exact LeO.none _
      | refine LeO.ite ?_ ?_
      | refine LeO.bind ?_ (fun _ => ?_)
    · intro y0 y1 y2 y3 y4 y5 y6 y7 y8 y9 y10 y11
      unfold dowserref01_Take.j1
      repeat' first
      | (with_reducible exact ih0 _ _ _ _ _ _)
      | (with_reducible exact ih1 _ _ _ _ _ _ _ _ _ _ _ _)
      | (with_reducible exact ih2 _ _ _ _ _ _ _ _ _ _ _)
      | (with_reducible exact ih3 _ _ _ _ _ _ _ _ _ _ _ _)
      | (with_reducible exact ih4 _ _ _ _ _ _ _ _ _ _ _)
      | (with_reducible exact ih5 _ _ _ _ _ _ _ _ _ _ _ _)
      | (with_reducible exact ih6 _ _ _ _ _ _ _ _ _ _)
      | (with_reducible exact ih7 _ _ _ _ _ _ _ _ _ _ _ _ _)
      | (with_reducible exact ih8 _ _ _ _ _ _ _ _ _ _ _ _)
      | (with_reducible exact dowserref01_Head.mono _ _)
      | (with_reducible exact dowserref01_Num.mono _ _)
      | (with_reducible exact LeO.refl _)
      | (with_reducible exact LeO.none _)
      | (with_reducible refine LeO.ite ?_ ?_)
      | (with_reducible refine LeO.bind ?_ (fun _ => ?_))
      | exact ih0 _ _ _ _ _ _
      | exact ih1 _ _ _ _ _ _ _ _ _ _ _ _
      | exact ih2 _ _ _ _ _ _ _ _ _ _ _
      | exact ih3 _ _ _ _ _ _ _ _ _ _ _ _
      | exact ih4 _ _ _ _ _ _ _ _ _ _ _
      | exact ih5 _ _ _ _ _ _ _ _ _ _ _ _
      | exact ih6 _ _ _ _ _ _ _ _ _ _
      | exact ih7 _ _ _ _ _ _ _ _ _ _ _ _ _
      | exact ih8 _ _ _ _ _ _ _ _ _ _ _ _
      | exact dowserref01_Head.mono _ _
      | exact dowserref01_Num.mono _ _
      | exact LeO.none _
      | refine LeO.ite ?_ ?_
      | refine LeO.bind ?_ (fun _ => ?_)
    · intro y0 y1 y2 y3 y4 y5 y6 y7 y8 y9 y10
      unfold dowserref01_Take.j2
      repeat' first
      | (with_reducible exact ih0 _ _ _ _ _ _)
      | (with_reducible exact ih1 _ _ _ _ _ _ _ _ _ _ _ _)
      | (with_reducible exact ih2 _ _ _ _ _ _ _ _ _ _ _)
      | (with_reducible exact ih3 _ _ _ _ _ _ _ _ _ _ _ _)
      | (with_reducible exact ih4 _ _ _ _ _ _ _ _ _ _ _)
      | (with_reducible exact ih5 _ _ _ _ _ _ _ _ _ _ _ _)
      | (with_reducible exact ih6 _ _ _ _ _ _ _ _ _ _)
      | (with_reducible exact ih7 _ _ _ _ _ _ _ _ _ _ _ _ _)
      | (with_reducible exact ih8 _ _ _ _ _ _ _ _ _ _ _ _)
      | (with_reducible exact dowserref01_Head.mono _ _)
      | (with_reducible exact dowserref01_Num.mono _ _)
      | (with_reducible exact LeO.refl _)
      | (with_reducible exact LeO.none _)
      | (with_reducible refine LeO.ite ?_ ?_)
      | (with_reducible refine LeO.bind ?_ (fun _ => ?_))
      | exact ih0 _ _ _ _ _ _
      | exact ih1 _ _ _ _ _ _ _ _ _ _ _ _
      | exact ih2 _ _ _ _ _ _ _ _ _ _ _
      | exact ih3 _ _ _ _ _ _ _ _ _ _ _ _
      | exact ih4 _ _ _ _ _ _ _ _ _ _ _
      | exact ih5 _ _ _ _ _ _ _ _ _ _ _ _
      | exact ih6 _ _ _ _ _ _ _ _ _ _
      | exact ih7 _ _ _ _ _ _ _ _ _ _ _ _ _
      | exact ih8 _ _ _ _ _ _ _ _ _ _ _ _
      | exact dowserref01_Head.mono _ _
      | exact dowserref01_Num.mono _ _
      | exact LeO.none _
      | refine LeO.ite ?_ ?_
      | refine LeO.bind ?_ (fun _ => ?_)
    · intro y0 y1 y2 y3 y4 y5 y6 y7 y8 y9 y10 y11
      unfold dowserref01_Take.j3
      repeat' first
      | (with_reducible exact ih0 _ _ _ _ _ _)
      | (with_reducible exact ih1 _ _ _ _ _ _ _ _ _ _ _ _)
      | (with_reducible exact ih2 _ _ _ _ _ _ _ _ _ _ _)
      | (with_reducible exact ih3 _ _ _ _ _ _ _ _ _ _ _ _)
      | (with_reducible exact ih4 _ _ _ _ _ _ _ _ _ _ _)
      | (with_reducible exact ih5 _ _ _ _ _ _ _ _ _ _ _ _)
      | (with_reducible exact ih6 _ _ _ _ _ _ _ _ _ _)
      | (with_reducible exact ih7 _ _ _ _ _ _ _ _ _ _ _ _ _)
      | (with_reducible exact ih8 _ _ _ _ _ _ _ _ _ _ _ _)
      | (with_reducible exact dowserref01_Head.mono _ _)
      | (with_reducible exact dowserref01_Num.mono _ _)
      | (with_reducible exact LeO.refl _)
      | (with_reducible exact LeO.none _)
      | (with_reducible refine LeO.ite ?_ ?_)
      | (with_reducible refine LeO.bind ?_ (fun _ => ?_))
      | exact ih0 _ _ _ _ _ _
      | exact ih1 _ _ _ _ _ _ _ _ _ _ _ _
      | exact ih2 _ _ _ _ _ _ _ _ _ _ _
      | exact ih3 _ _ _ _ _ _ _ _ _ _ _ _
      | exact ih4 _ _ _ _ _ _ _ _ _ _ _
      | exact ih5 _ _ _ _ _ _ _ _ _ _ _ _
      | exact ih6 _ _ _ _ _ _ _ _ _ _
      | exact ih7 _ _ _ _ _ _ _ _ _ _ _ _ _
      | exact ih8 _ _ _ _ _ _ _ _ _ _ _ _
      | exact dowserref01_Head.mono _ _
      | exact dowserref01_Num.mono _ _
      | exact LeO.none _
      | refine LeO.ite ?_ ?_
      | refine LeO.bind ?_ (fun _ => ?_)
    · intro y0 y1 y2 y3 y4 y5 y6 y7 y8 y9 y10
      unfold dowserref01_Take.j6
      repeat' first
      | (with_reducible exact ih0 _ _ _ _ _ _)
      | (with_reducible exact ih1 _ _ _ _ _ _ _ _ _ _ _ _)
      | (with_reducible exact ih2 _ _ _ _ _ _ _ _ _ _ _)
      | (with_reducible exact ih3 _ _ _ _ _ _ _ _ _ _ _ _)
      | (with_reducible exact ih4 _ _ _ _ _ _ _ _ _ _ _)
      | (with_reducible exact ih5 _ _ _ _ _ _ _ _ _ _ _ _)
      | (with_reducible exact ih6 _ _ _ _ _ _ _ _ _ _)
      | (with_reducible exact ih7 _ _ _ _ _ _ _ _ _ _ _ _ _)
      | (with_reducible exact ih8 _ _ _ _ _ _ _ _ _ _ _ _)
      | (with_reducible exact dowserref01_Head.mono _ _)
      | (with_reducible exact dowserref01_Num.mono _ _)
      | (with_reducible exact LeO.refl _)
      | (with_reducible exact LeO.none _)
      | (with_reducible refine LeO.ite ?_ ?_)
      | (with_reducible refine LeO.bind ?_ (fun _ => ?_))
      | exact ih0 _ _ _ _ _ _
      | exact ih1 _ _ _ _ _ _ _ _ _ _ _ _
      | exact ih2 _ _ _ _ _ _ _ _ _ _ _
      | exact ih3 _ _ _ _ _ _ _ _ _ _ _ _
      | exact ih4 _ _ _ _ _ _ _ _ _ _ _
      | exact ih5 _ _ _ _ _ _ _ _ _ _ _ _
      | exact ih6 _ _ _ _ _ _ _ _ _ _
      | exact ih7 _ _ _ _ _ _ _ _ _ _ _ _ _
      | exact ih8 _ _ _ _ _ _ _ _ _ _ _ _
      | exact dowserref01_Head.mono _ _
      | exact dowserref01_Num.mono _ _
      | exact LeO.none _
      | refine LeO.ite ?_ ?_
      | refine LeO.bind ?_ (fun _ => ?_)
    · intro y0 y1 y2 y3 y4 y5 y6 y7 y8 y9 y10 y11
      unfold dowserref01_Take.j7
      repeat' first
      | (with_reducible exact ih0 _ _ _ _ _ _)
      | (with_reducible exact ih1 _ _ _ _ _ _ _ _ _ _ _ _)
      | (with_reducible exact ih2 _ _ _ _ _ _ _ _ _ _ _)
      | (with_reducible exact ih3 _ _ _ _ _ _ _ _ _ _ _ _)
      | (with_reducible exact ih4 _ _ _ _ _ _ _ _ _ _ _)
      | (with_reducible exact ih5 _ _ _ _ _ _ _ _ _ _ _ _)
      | (with_reducible exact ih6 _ _ _ _ _ _ _ _ _ _)
      | (with_reducible exact ih7 _ _ _ _ _ _ _ _ _ _ _ _ _)
      | (with_reducible exact ih8 _ _ _ _ _ _ _ _ _ _ _ _)
      | (with_reducible exact dowserref01_Head.mono _ _)
      | (with_reducible exact dowserref01_Num.mono _ _)
      | (with_reducible exact LeO.refl _)
      | (with_reducible exact LeO.none _)
      | (with_reducible refine LeO.ite ?_ ?_)
      | (with_reducible refine LeO.bind ?_ (fun _ => ?_))
      | exact ih0 _ _ _ _ _ _
      | exact ih1 _ _ _ _ _ _ _ _ _ _ _ _
      | exact ih2 _ _ _ _ _ _ _ _ _ _ _
      | exact ih3 _ _ _ _ _ _ _ _ _ _ _ _
      | exact ih4 _ _ _ _ _ _ _ _ _ _ _
      | exact ih5 _ _ _ _ _ _ _ _ _ _ _ _
      | exact ih6 _ _ _ _ _ _ _ _ _ _
      | exact ih7 _ _ _ _ _ _ _ _ _ _ _ _ _
      | exact ih8 _ _ _ _ _ _ _ _ _ _ _ _
      | exact dowserref01_Head.mono _ _
      | exact dowserref01_Num.mono _ _
      | exact LeO.none _
      | refine LeO.ite ?_ ?_
      | refine LeO.bind ?_ (fun _ => ?_)
    · intro y0 y1 y2 y3 y4 y5 y6 y7 y8 y9
      unfold dowserref01_Take.j8
      repeat' first
      | (with_reducible exact ih0 _ _ _ _ _ _)
      | (with_reducible exact ih1 _ _ _ _ _ _ _ _ _ _ _ _)
      | (with_reducible exact ih2 _ _ _ _ _ _ _ _ _ _ _)
      | (with_reducible exact ih3 _ _ _ _ _ _ _ _ _ _ _ _)
      | (with_reducible exact ih4 _ _ _ _ _ _ _ _ _ _ _)
      | (with_reducible exact ih5 _ _ _ _ _ _ _ _ _ _ _ _)
      | (with_reducible exact ih6 _ _ _ _ _ _ _ _ _ _)
      | (with_reducible exact ih7 _ _ _ _ _ _ _ _ _ _ _ _ _)
      | (with_reducible exact ih8 _ _ _ _ _ _ _ _ _ _ _ _)
      | (with_reducible exact dowserref01_Head.mono _ _)
      | (with_reducible exact dowserref01_Num.mono _ _)
      | (with_reducible exact LeO.refl _)
      | (with_reducible exact LeO.none _)
      | (with_reducible refine LeO.ite ?_ ?_)
      | (with_reducible refine LeO.bind ?_ (fun _ => ?_))
      | exact ih0 _ _ _ _ _ _
      | exact ih1 _ _ _ _ _ _ _ _ _ _ _ _
      | exact ih2 _ _ _ _ _ _ _ _ _ _ _
      | exact ih3 _ _ _ _ _ _ _ _ _ _ _ _
      | exact ih4 _ _ _ _ _ _ _ _ _ _ _
      | exact ih5 _ _ _ _ _ _ _ _ _ _ _ _
      | exact ih6 _ _ _ _ _ _ _ _ _ _
      | exact ih7 _ _ _ _ _ _ _ _ _ _ _ _ _
      | exact ih8 _ _ _ _ _ _ _ _ _ _ _ _
      | exact dowserref01_Head.mono _ _
      | exact dowserref01_Num.mono _ _
      | exact LeO.none _
      | refine LeO.ite ?_ ?_
      | refine LeO.bind ?_ (fun _ => ?_)
    · intro y0 y1 y2 y3 y4 y5 y6 y7 y8 y9 y10 y11 y12
      unfold dowserref01_Take.j4
      repeat' first
      | (with_reducible exact ih0 _ _ _ _ _ _)
      | (with_reducible exact ih1 _ _ _ _ _ _ _ _ _ _ _ _)
      | (with_reducible exact ih2 _ _ _ _ _ _ _ _ _ _ _)
      | (with_reducible exact ih3 _ _ _ _ _ _ _ _ _ _ _ _)
      | (with_reducible exact ih4 _ _ _ _ _ _ _ _ _ _ _)
      | (with_reducible exact ih5 _ _ _ _ _ _ _ _ _ _ _ _)
      | (with_reducible exact ih6 _ _ _ _ _ _ _ _ _ _)
      | (with_reducible exact ih7 _ _ _ _ _ _ _ _ _ _ _ _ _)
      | (with_reducible exact ih8 _ _ _ _ _ _ _ _ _ _ _ _)
      | (with_reducible exact dowserref01_Head.mono _ _)
      | (with_reducible exact dowserref01_Num.mono _ _)
      | (with_reducible exact LeO.refl _)
      | (with_reducible exact LeO.none _)
      | (with_reducible refine LeO.ite ?_ ?_)
      | (with_reducible refine LeO.bind ?_ (fun _ => ?_))
      | exact ih0 _ _ _ _ _ _
      | exact ih1 _ _ _ _ _ _ _ _ _ _ _ _
      | exact ih2 _ _ _ _ _ _ _ _ _ _ _
      | exact ih3 _ _ _ _ _ _ _ _ _ _ _ _
      | exact ih4 _ _ _ _ _ _ _ _ _ _ _
      | exact ih5 _ _ _ _ _ _ _ _ _ _ _ _
      | exact ih6 _ _ _ _ _ _ _ _ _ _
      | exact ih7 _ _ _ _ _ _ _ _ _ _ _ _ _
      | exact ih8 _ _ _ _ _ _ _ _ _ _ _ _
      | exact dowserref01_Head.mono _ _
      | exact dowserref01_Num.mono _ _
      | exact LeO.none _
      | refine LeO.ite ?_ ?_
      | refine LeO.bind ?_ (fun _ => ?_)
    · intro y0 y1 y2 y3 y4 y5 y6 y7 y8 y9 y10 y11
      unfold dowserref01_Take.j5
      repeat' first
      | (with_reducible exact ih0 _ _ _ _ _ _)
      | (with_reducible exact ih1 _ _ _ _ _ _ _ _ _ _ _ _)
      | (with_reducible exact ih2 _ _ _ _ _ _ _ _ _ _ _)
      | (with_reducible exact ih3 _ _ _ _ _ _ _ _ _ _ _ _)
      | (with_reducible exact ih4 _ _ _ _ _ _ _ _ _ _ _)
      | (with_reducible exact ih5 _ _ _ _ _ _ _ _ _ _ _ _)
      | (with_reducible exact ih6 _ _ _ _ _ _ _ _ _ _)
      | (with_reducible exact ih7 _ _ _ _ _ _ _ _ _ _ _ _ _)
      | (with_reducible exact ih8 _ _ _ _ _ _ _ _ _ _ _ _)
      | (with_reducible exact dowserref01_Head.mono _ _)
      | (with_reducible exact dowserref01_Num.mono _ _)
      | (with_reducible exact LeO.refl _)
      | (with_reducible exact LeO.none _)
      | (with_reducible refine LeO.ite ?_ ?_)
      | (with_reducible refine LeO.bind ?_ (fun _ => ?_))
      | exact ih0 _ _ _ _ _ _
      | exact ih1 _ _ _ _ _ _ _ _ _ _ _ _
      | exact ih2 _ _ _ _ _ _ _ _ _ _ _
      | exact ih3 _ _ _ _ _ _ _ _ _ _ _ _
      | exact ih4 _ _ _ _ _ _ _ _ _ _ _
      | exact ih5 _ _ _ _ _ _ _ _ _ _ _ _
      | exact ih6 _ _ _ _ _ _ _ _ _ _
      | exact ih7 _ _ _ _ _ _ _ _ _ _ _ _ _
      | exact ih8 _ _ _ _ _ _ _ _ _ _ _ _
      | exact dowserref01_Head.mono _ _
      | exact dowserref01_Num.mono _ _
      | exact LeO.none _
      | refine LeO.ite ?_ ?_
      | refine LeO.bind ?_ (fun _ => ?_)
theorem dowserref01_Take.mono : ∀ a0 a1 k, LeO (dowserref01_Take.f k a0 a1) (dowserref01_Take.f (k + 1) a0 a1) := by
  intro a0 a1 k
  obtain ⟨ih0, ih1, ih2, ih3, ih4, ih5, ih6, ih7, ih8⟩ := dowserref01_Take.mono_l k
  unfold dowserref01_Take.f
  repeat' first
      | (with_reducible exact ih0 _ _ _ _ _ _)
      | (with_reducible exact ih1 _ _ _ _ _ _ _ _ _ _ _ _)
      | (with_reducible exact ih2 _ _ _ _ _ _ _ _ _ _ _)
      | (with_reducible exact ih3 _ _ _ _ _ _ _ _ _ _ _ _)
      | (with_reducible exact ih4 _ _ _ _ _ _ _ _ _ _ _)
      | (with_reducible exact ih5 _ _ _ _ _ _ _ _ _ _ _ _)
      | (with_reducible exact ih6 _ _ _ _ _ _ _ _ _ _)
      | (with_reducible exact ih7 _ _ _ _ _ _ _ _ _ _ _ _ _)
      | (with_reducible exact ih8 _ _ _ _ _ _ _ _ _ _ _ _)
      | (with_reducible exact dowserref01_Head.mono _ _)
      | (with_reducible exact dowserref01_Num.mono _ _)
      | (with_reducible exact LeO.refl _)
      | (with_reducible exact LeO.none _)
      | (with_reducible refine LeO.ite ?_ ?_)
      | (with_reducible refine LeO.bind ?_ (fun _ => ?_))
      | exact ih0 _ _ _ _ _ _
      | exact ih1 _ _ _ _ _ _ _ _ _ _ _ _
      | exact ih2 _ _ _ _ _ _ _ _ _ _ _
      | exact ih3 _ _ _ _ _ _ _ _ _ _ _ _
      | exact ih4 _ _ _ _ _ _ _ _ _ _ _
      | exact ih5 _ _ _ _ _ _ _ _ _ _ _ _
      | exact ih6 _ _ _ _ _ _ _ _ _ _
      | exact ih7 _ _ _ _ _ _ _ _ _ _ _ _ _
      | exact ih8 _ _ _ _ _ _ _ _ _ _ _ _
      | exact dowserref01_Head.mono _ _
      | exact dowserref01_Num.mono _ _
      | exact LeO.none _
      | refine LeO.ite ?_ ?_
      | refine LeO.bind ?_ (fun _ => ?_)
set_option maxHeartbeats 8000000 in
set_option maxRecDepth 100000 in
theorem dowserref01_Take.calls (k : Nat) (a0 : ByteArray) (A1 : Option Addr) (c1 : Nat) (l1 : List (S67)) (r1 : List ByteArray) (r2 : ByteArray) (r3 : Int) (w : World) (hr1 : Kd.C k67 w A1 l1.length l1) (hc1 : l1.length ≤ c1) (h : dowserref01_Take.f k a0 l1 = some (r1, r2, r3)) :
    Calls Try.prog 47 #[.string a0, .slice A1 l1.length c1] w fun e w' => ∃ v0_ : Value, e = .returned (.tuple #[v0_, .string r2, .int .i64 r3]) ∧ Kd.R Kd.string 9 w' w.heap.size (fun _ => True) v0_ r1 ∧ Below w.heap.size w w' := by
  have hu67 := Try.underlying67
  have HR1 := Aside0.mk hr1
  have HC1 := Aside0.mk hc1
  clear hr1 hc1
  have HB := Aside0.mk (Below.refl w.heap.size w)
  have H : (dowserref01_Take.l0 k a0 (([] : List ByteArray)) 0 l1 (l1.length : Int) 0) = some (r1, r2, r3) := h
  clear h
  obtain ⟨y132, hy132⟩ : ∃ y_ : List ByteArray, y_ = (([] : List ByteArray)) := ⟨_, rfl⟩
  replace H : (dowserref01_Take.l0 k a0 y132 0 l1 (l1.length : Int) 0) = some (r1, r2, r3) := by first | (rw [hy132]; with_reducible exact H) | (have H2_ := (Option.bind_some _ _).symm.trans H; rw [hy132]; with_reducible exact H2_) | (have H2_ := (Option.bind_some _ _).symm.trans H; with_reducible exact H2_) | with_reducible exact H | (rw [hy132]; exact H) | exact H
  have Ny132 := Aside0.mk hy132
  clear hy132
  have H' := Aside0.mk H
  clear H
  go_enter Try.func47, Try.ntmps47
  go_wp2_with (first | ((with_reducible refine gate_dst (N := 16) rfl ?_); refine Kd.R_lit Kd.string _ 9 ?hg (N := 16) ?hd (xs := ([] : List ByteArray)) (inner := []) (ok := fun _ => True) (okp := fun _ => True) ?hr ?hp (fun _ hk => hk) trivial (Below.refl _ _) (Nat.le_refl _) (by simp) ?_; (case hd => rfl); (case hg => rfl); (case hr => first | (go_simp; done) | (go_simp; rfl)); (case hp => exact (Reps.none _ _)); intro v133 w3 ho4 hb hg_ hnew_; clear hg_ hnew_; (first | rw [← Ny132.out] at ho4 | (simp only [Int.reduceToNat] at ho4; rw [← Ny132.out] at ho4)); have n0_ := Aside0.mk (Kd.R_lower ho4 (below_size (by repeat (first | (with_reducible first | exact HB.out | apply below_alloc | apply pw_below_drewN | apply below_drew1) | exact HB.out)))); have n1_ := Aside0.mk (below_step (by repeat (first | (with_reducible first | exact HB.out | apply below_alloc | apply pw_below_drewN | apply below_drew1) | exact HB.out)) hb); clear HB; have HO134 := n0_; have HB := n1_; clear n0_ n1_; clear hb ho4))
  go_loopg [0, 7, 8, 19] k (fun kq v0 v7 v8 v19 w' => ∃ (x0_1 : ByteArray) (x7_1 : List ByteArray) (x8_1 : Int) (x19_1 : Int), v0 = .string x0_1 ∧ v8 = .int .i64 x8_1 ∧ v19 = .int .i64 x19_1 ∧ Aside0 (dowserref01_Take.l0 kq x0_1 x7_1 x8_1 l1 (l1.length : Int) x19_1 = some (r1, r2, r3)) ∧ Aside0 (kq ≤ k) ∧ Aside0 (Kd.R Kd.string 9 w' w.heap.size (fun _ => True) v7 x7_1) ∧ Aside0 (Below w.heap.size w w'))
  case atStart => exact ⟨(a0), (y132), (0), (0), (by first | rfl | (simp; done) | (simp [*]; done) | (simp; rw [Bool.eq_iff_iff]; simp; done)), (by first | rfl | (simp; done) | (simp [*]; done) | (simp; rw [Bool.eq_iff_iff]; simp; done)), (by first | rfl | (simp; done) | (simp [*]; done) | (simp; rw [Bool.eq_iff_iff]; simp; done)), H', ⟨Nat.le_refl _⟩, ⟨by (with_reducible repeat (first | apply Kd.R_alloc | apply Kd.R_drewN | apply Kd.R_drew)); exact HO134.out⟩, ⟨by repeat (first | (with_reducible first | exact HB.out | apply below_alloc | apply pw_below_drewN | apply below_drew1) | exact HB.out)⟩⟩
  case round =>
    clear H'
    try clear c1
    try clear p2
    try clear c4
    obtain ⟨x0_1, x7_1, x8_1, x19_1, rfl, rfl, rfl, HA, HK1, HO_7, HB⟩ := hrel
    cases gk with
    | zero => exact absurd HA.out (by simp [dowserref01_Take.l0])
    | succ k1 =>
      have H := HA.out
      clear HA
      simp only [dowserref01_Take.l0] at H
      by_cases c5 : x19_1 < (l1.length : Int)
      · rw [if_pos c5] at H
        have c5b0 : decide (x19_1 < (l1.length : Int)) = true := decide_eq_true c5
        clear c5
        by_cases c6 : 0 ≤ x19_1
        · rw [if_pos c6] at H
          have c6b0 : decide (0 ≤ x19_1) = true := decide_eq_true c6
          clear c6
          by_cases c7 : x19_1 < (l1.length : Int)
          · rw [if_pos c7] at H
            have c7b0 : decide (x19_1 < (l1.length : Int)) = true := decide_eq_true c7
            clear c7
            obtain ⟨ji8, hji8⟩ : ∃ j_ : Int, (mx ((rd_T67 l1 x19_1).f2) 0) = j_ := ⟨_, rfl⟩
            replace H : (if ((rd_T67 l1 x19_1).f0) = 3 then (dowserref01_Take.j1 k1 x0_1 x7_1 x8_1 (⟨#[]⟩ : ByteArray) ji8 l1 (l1.length : Int) x19_1 (x8_1 == 0) ((rd_T67 l1 x19_1).f0) ((rd_T67 l1 x19_1).f1) ((rd_T67 l1 x19_1).f2)) else (dowserref01_Take.j1 k1 x0_1 x7_1 x8_1 (⟨#[]⟩ : ByteArray) ji8 l1 (l1.length : Int) x19_1 false ((rd_T67 l1 x19_1).f0) ((rd_T67 l1 x19_1).f1) ((rd_T67 l1 x19_1).f2))) = some (r1, r2, r3) := by first | (rw [hji8] at H; exact H) | (simp only [hji8] at H ⊢; exact H)
            have hji8_ : (if ((rd_T67 l1 x19_1).f2) < 0 then 0 else ((rd_T67 l1 x19_1).f2)) = ji8 := hji8
            have HC9 := Aside0.mk H
            clear H
            have p135 : 0 ≤ (x19_1 : Int) := of_decide_eq_true (by first | (with_reducible assumption) | assumption)
            have q135 : x19_1 < (l1.length : Int) := of_decide_eq_true (by first | (with_reducible assumption) | assumption)
            obtain ⟨ad135, e135, hx135_0, hx135_1, hx135_2⟩ := at_T67 HR1.out x19_1 p135 q135
            cases e135
            replace hx135_0 := (HB.out.cell (World.block_lt_of_cell? w _ hx135_0)).trans hx135_0
            replace hx135_1 := (HB.out.cell (World.block_lt_of_cell? w _ hx135_1)).trans hx135_1
            replace hx135_2 := (HB.out.cell (World.block_lt_of_cell? w _ hx135_2)).trans hx135_2
            replace p135 := eq_true p135
            replace q135 := eq_true q135
            go_upto_region 8 with (first | ((with_reducible refine gate_dst (N := 10) rfl ?_); refine box_event ?hg (N := 10) ?hd (cs := #[.int .i64 0, .int .u64 0, .int .i64 0]) (t := 67) ?hr ?_; (case hd => rfl); (case hg => rfl); (case hr => first | (go_simp; done) | (go_simp; rfl)); intro gb136 hg w10 hbox hb; have n0_ := Aside0.mk (Kd.R_below (by (with_reducible repeat (first | apply Kd.R_alloc | apply Kd.R_drewN | apply Kd.R_drew)); exact HO_7.out) hb); have n1_ := Aside0.mk (below_step (by repeat (first | (with_reducible first | exact HB.out | apply below_alloc | apply pw_below_drewN | apply below_drew1) | exact HB.out)) hb); have n2_ := Aside0.mk (hbox); have n3_ := Aside0.mk ((by rw [hg]; exact (below_size (by repeat (first | (with_reducible first | exact HB.out | apply below_alloc | apply pw_below_drewN | apply below_drew1) | exact HB.out))) : w.heap.size ≤ gb136)); have n4_ := Aside0.mk ((by rw [hg]; exact (below_size (by repeat (first | (with_reducible first | exact HB.out | apply below_alloc | apply pw_below_drewN | apply below_drew1) | exact HB.out))) : w.heap.size ≤ gb136)); clear HO_7; clear HB; have HO_7 := n0_; have HB := n1_; have BK136 := n2_; have GW136 := n3_; have GE136 := n4_; clear n0_ n1_ n2_ n3_ n4_; clear hb hbox hg; have hcz11_0 : w10.cell? ⟨gb136, 0, none⟩ = some (.int .i64 0) := (blk_cell BK136.out 0).trans rfl; have hcz11_1 : w10.cell? ⟨gb136, 1, none⟩ = some (.int .u64 0) := (blk_cell BK136.out 1).trans rfl; have hcz11_2 : w10.cell? ⟨gb136, 2, none⟩ = some (.int .i64 0) := (blk_cell BK136.out 2).trans rfl; have hfz11_0 := blk_frozen BK136.out 0; have hfz11_1 := blk_frozen BK136.out 1; have hfz11_2 := blk_frozen BK136.out 2))
            (try simp only [Act.put, List.setIfInBounds_toArray, List.set_cons_zero, List.set_cons_succ])
            go_cut [32] (fun v32 wc => ∃ (kq : Nat) (x32_8 : Bool), v32 = .bool x32_8 ∧ Aside0 (dowserref01_Take.j1 kq x0_1 x7_1 x8_1 (⟨#[]⟩ : ByteArray) ji8 l1 (l1.length : Int) x19_1 x32_8 ((rd_T67 l1 x19_1).f0) ((rd_T67 l1 x19_1).f1) ((rd_T67 l1 x19_1).f2) = some (r1, r2, r3)) ∧ Aside0 (kq ≤ k1) ∧ Aside0 (Kd.R Kd.string 9 wc w.heap.size (fun _ => True) u7 x7_1) ∧ Aside0 (wc.heap[gb136]? = some (.cells #[.int .i64 ((rd_T67 l1 x19_1).f0), .int .u64 ((rd_T67 l1 x19_1).f1), .int .i64 ((rd_T67 l1 x19_1).f2)] 67 (0, 0))) ∧ Aside0 (Below w.heap.size w wc))
            case first =>
              have H := HC9.out
              clear HC9
              by_cases c12 : ((rd_T67 l1 x19_1).f0) = 3
              · rw [if_pos c12] at H
                have c12b0 : (((rd_T67 l1 x19_1).f0) == 3) = true := beq_iff_eq.mpr c12
                have c12b1 : (((rd_T67 l1 x19_1).f0) != 3) = false := bne_eq_false_iff_eq.mpr c12
                clear c12
                (first | rw [c12b0] | (simp only [i64_w, i32_w]; rw [c12b0]) | skip)
                have H' := Aside0.mk H
                clear H
                have hcz13_0 : w10.cell? ⟨gb136, 0, none⟩ = some (.int .i64 0) := (blk_cell BK136.out 0).trans rfl
                have hcz13_1 : w10.cell? ⟨gb136, 1, none⟩ = some (.int .u64 0) := (blk_cell BK136.out 1).trans rfl
                have hcz13_2 : w10.cell? ⟨gb136, 2, none⟩ = some (.int .i64 0) := (blk_cell BK136.out 2).trans rfl
                have hfz13_0 := blk_frozen BK136.out 0
                have hfz13_1 := blk_frozen BK136.out 1
                have hfz13_2 := blk_frozen BK136.out 2
                go_wp2
                go_meet
                case rel => exact ⟨_, ((x8_1 == 0)), (by first | rfl | (simp; done) | (simp [*]; done) | (simp; rw [Bool.eq_iff_iff]; simp; done)), H', ⟨by have := HK1.out; first | omega | exact Nat.le_refl _⟩, ⟨by (with_reducible repeat (first | apply Kd.R_alloc | apply Kd.R_drewN | apply Kd.R_drew)); exact Kd.R_mono (Kd.R_far (p := ⟨gb136, 2, none⟩) (Kd.R_far (p := ⟨gb136, 1, none⟩) (Kd.R_far (p := ⟨gb136, 0, none⟩) (Kd.R_types HO_7.out BK136.out (by decide)) (fun _ hk => hk.2) (.int .i64 ((rd_T67 l1 x19_1).f0))) (fun _ hk => hk.2) (.int .u64 ((rd_T67 l1 x19_1).f1))) (fun _ hk => hk.2) (.int .i64 ((rd_T67 l1 x19_1).f2))) (fun _ hk => trivial)⟩, ⟨by (with_reducible repeat (first | refine blk_drewN ?_ _ | refine blk_drew ?_ | refine blk_alloc ?_ _)); refine blk_put (cs := #[.int .i64 ((rd_T67 l1 x19_1).f0), .int .u64 ((rd_T67 l1 x19_1).f1), .int .i64 0]) ?_ 2 _ rfl; (with_reducible repeat (first | refine blk_drewN ?_ _ | refine blk_drew ?_ | refine blk_alloc ?_ _)); refine blk_put (cs := #[.int .i64 ((rd_T67 l1 x19_1).f0), .int .u64 0, .int .i64 0]) ?_ 1 _ rfl; (with_reducible repeat (first | refine blk_drewN ?_ _ | refine blk_drew ?_ | refine blk_alloc ?_ _)); refine blk_put (cs := #[.int .i64 0, .int .u64 0, .int .i64 0]) ?_ 0 _ rfl; (with_reducible repeat (first | refine blk_drewN ?_ _ | refine blk_drew ?_ | refine blk_alloc ?_ _)); exact BK136.out⟩, ⟨by repeat (first | (with_reducible first | exact HB.out | apply below_alloc | apply pw_below_drewN | apply below_drew1 | refine below_set ?_ GE136.out) | exact HB.out)⟩⟩
              · rw [if_neg c12] at H
                have c12b0 : (((rd_T67 l1 x19_1).f0) == 3) = false := beq_eq_false_iff_ne.mpr c12
                have c12b1 : (((rd_T67 l1 x19_1).f0) != 3) = true := bne_iff_ne.mpr c12
                (first | rw [c12b0] | (simp only [i64_w, i32_w]; rw [c12b0]) | skip)
                have H' := Aside0.mk H
                clear H
                have hcz14_0 : w10.cell? ⟨gb136, 0, none⟩ = some (.int .i64 0) := (blk_cell BK136.out 0).trans rfl
                have hcz14_1 : w10.cell? ⟨gb136, 1, none⟩ = some (.int .u64 0) := (blk_cell BK136.out 1).trans rfl
                have hcz14_2 : w10.cell? ⟨gb136, 2, none⟩ = some (.int .i64 0) := (blk_cell BK136.out 2).trans rfl
                have hfz14_0 := blk_frozen BK136.out 0
                have hfz14_1 := blk_frozen BK136.out 1
                have hfz14_2 := blk_frozen BK136.out 2
                go_wp2
                go_meet
                case rel => exact ⟨_, (false), (by first | rfl | (simp; done) | (simp [*]; done) | (simp; rw [Bool.eq_iff_iff]; simp; done)), H', ⟨by have := HK1.out; first | omega | exact Nat.le_refl _⟩, ⟨by (with_reducible repeat (first | apply Kd.R_alloc | apply Kd.R_drewN | apply Kd.R_drew)); exact Kd.R_mono (Kd.R_far (p := ⟨gb136, 2, none⟩) (Kd.R_far (p := ⟨gb136, 1, none⟩) (Kd.R_far (p := ⟨gb136, 0, none⟩) (Kd.R_types HO_7.out BK136.out (by decide)) (fun _ hk => hk.2) (.int .i64 ((rd_T67 l1 x19_1).f0))) (fun _ hk => hk.2) (.int .u64 ((rd_T67 l1 x19_1).f1))) (fun _ hk => hk.2) (.int .i64 ((rd_T67 l1 x19_1).f2))) (fun _ hk => trivial)⟩, ⟨by (with_reducible repeat (first | refine blk_drewN ?_ _ | refine blk_drew ?_ | refine blk_alloc ?_ _)); refine blk_put (cs := #[.int .i64 ((rd_T67 l1 x19_1).f0), .int .u64 ((rd_T67 l1 x19_1).f1), .int .i64 0]) ?_ 2 _ rfl; (with_reducible repeat (first | refine blk_drewN ?_ _ | refine blk_drew ?_ | refine blk_alloc ?_ _)); refine blk_put (cs := #[.int .i64 ((rd_T67 l1 x19_1).f0), .int .u64 0, .int .i64 0]) ?_ 1 _ rfl; (with_reducible repeat (first | refine blk_drewN ?_ _ | refine blk_drew ?_ | refine blk_alloc ?_ _)); refine blk_put (cs := #[.int .i64 0, .int .u64 0, .int .i64 0]) ?_ 0 _ rfl; (with_reducible repeat (first | refine blk_drewN ?_ _ | refine blk_drew ?_ | refine blk_alloc ?_ _)); exact BK136.out⟩, ⟨by repeat (first | (with_reducible first | exact HB.out | apply below_alloc | apply pw_below_drewN | apply below_drew1 | refine below_set ?_ GE136.out) | exact HB.out)⟩⟩
            case rest =>
              clear HC9
              try clear c1
              try clear p1
              try clear q1
              try clear hx1
              try clear p2
              try clear c4
              try clear c5
              try clear c5b0
              try clear c6
              try clear c6b0
              try clear c7
              try clear c7b0
              try clear c12
              try clear c12b0
              try clear c12b1
              try clear p13
              try clear q13
              try clear hx13
              try clear hcz11_0
              try clear hcz11_1
              try clear hcz11_2
              try clear hcz13_0
              try clear hcz13_1
              try clear hcz13_2
              try clear hcz14_0
              try clear hcz14_1
              try clear hcz14_2
              try clear hfz11_0
              try clear hfz11_1
              try clear hfz11_2
              try clear hfz13_0
              try clear hfz13_1
              try clear hfz13_2
              try clear hfz14_0
              try clear hfz14_1
              try clear hfz14_2
              try clear hx135_0
              try clear hx135_1
              try clear hx135_2
              try clear p135
              try clear p2
              try clear q135
              obtain ⟨kq, x32_8, rfl, HA, HJ8, HO_7, BK136, HB⟩ := hcut
              cases kq with
              | zero => exact absurd HA.out (by simp [dowserref01_Take.j1])
              | succ kj8 =>
                have H := HA.out
                clear HA
                simp only [dowserref01_Take.j1] at H
                have HC15 := Aside0.mk H
                clear H
                go_upto_if 32 with (fail)
                go_cut [0, 8] (fun v0 v8 wc => ∃ (kq : Nat) (x0_14 : ByteArray) (x8_14 : Int), v0 = .string x0_14 ∧ v8 = .int .i64 x8_14 ∧ Aside0 (dowserref01_Take.j2 kq x0_14 x7_1 x8_14 (⟨#[]⟩ : ByteArray) ji8 l1 (l1.length : Int) x19_1 ((rd_T67 l1 x19_1).f0) ((rd_T67 l1 x19_1).f1) ((rd_T67 l1 x19_1).f2) = some (r1, r2, r3)) ∧ Aside0 (kq ≤ kj8) ∧ Aside0 (Kd.R Kd.string 9 wc w.heap.size (fun _ => True) u7 x7_1) ∧ Aside0 (wc.heap[gb136]? = some (.cells #[.int .i64 ((rd_T67 l1 x19_1).f0), .int .u64 ((rd_T67 l1 x19_1).f1), .int .i64 ((rd_T67 l1 x19_1).f2)] 67 (0, 0))) ∧ Aside0 (Below w.heap.size w wc))
                case first =>
                  have H := HC15.out
                  clear HC15
                  by_cases c16 : x32_8 = true
                  · subst c16
                    have H1 : (dowserref01_Take.j2 kj8 (⟨#[]⟩ : ByteArray) x7_1 13 (⟨#[]⟩ : ByteArray) ji8 l1 (l1.length : Int) x19_1 ((rd_T67 l1 x19_1).f0) ((rd_T67 l1 x19_1).f1) ((rd_T67 l1 x19_1).f2)) = some (r1, r2, r3) := by rw [if_pos rfl] at H; exact H
                    clear H
                    have H := H1
                    clear H1
                    have H' := Aside0.mk H
                    clear H
                    go_wp2
                    go_meet
                    case rel => exact ⟨_, ((⟨#[]⟩ : ByteArray)), (13), (by first | rfl | (simp; done) | (simp [*]; done) | (simp; rw [Bool.eq_iff_iff]; simp; done)), (by first | rfl | (simp; done) | (simp [*]; done) | (simp; rw [Bool.eq_iff_iff]; simp; done)), H', ⟨by have := HK1.out; have := HJ8.out; first | omega | exact Nat.le_refl _⟩, ⟨by (with_reducible repeat (first | apply Kd.R_alloc | apply Kd.R_drewN | apply Kd.R_drew)); exact HO_7.out⟩, ⟨by (with_reducible repeat (first | refine blk_drewN ?_ _ | refine blk_drew ?_ | refine blk_alloc ?_ _)); exact BK136.out⟩, ⟨by repeat (first | (with_reducible first | exact HB.out | apply below_alloc | apply pw_below_drewN | apply below_drew1 | refine below_set ?_ GE136.out) | exact HB.out)⟩⟩
                  · replace c16 := Bool.eq_false_iff.mpr c16
                    subst c16
                    have H1 : (dowserref01_Take.j2 kj8 x0_1 x7_1 x8_1 (⟨#[]⟩ : ByteArray) ji8 l1 (l1.length : Int) x19_1 ((rd_T67 l1 x19_1).f0) ((rd_T67 l1 x19_1).f1) ((rd_T67 l1 x19_1).f2)) = some (r1, r2, r3) := by rw [if_neg (show ¬ (false = true) by decide)] at H; exact H
                    clear H
                    have H := H1
                    clear H1
                    have H' := Aside0.mk H
                    clear H
                    go_wp2
                    go_meet
                    case rel => exact ⟨_, (x0_1), (x8_1), (by first | rfl | (simp; done) | (simp [*]; done) | (simp; rw [Bool.eq_iff_iff]; simp; done)), (by first | rfl | (simp; done) | (simp [*]; done) | (simp; rw [Bool.eq_iff_iff]; simp; done)), H', ⟨by have := HK1.out; have := HJ8.out; first | omega | exact Nat.le_refl _⟩, ⟨by (with_reducible repeat (first | apply Kd.R_alloc | apply Kd.R_drewN | apply Kd.R_drew)); exact HO_7.out⟩, ⟨by (with_reducible repeat (first | refine blk_drewN ?_ _ | refine blk_drew ?_ | refine blk_alloc ?_ _)); exact BK136.out⟩, ⟨by repeat (first | (with_reducible first | exact HB.out | apply below_alloc | apply pw_below_drewN | apply below_drew1 | refine below_set ?_ GE136.out) | exact HB.out)⟩⟩
                case rest =>
                  clear HC15
                  try clear c1
                  try clear p1
                  try clear q1
                  try clear hx1
                  try clear p2
                  try clear c4
                  try clear c5
                  try clear c5b0
                  try clear c6
                  try clear c6b0
                  try clear c7
                  try clear c7b0
                  try clear c12
                  try clear c12b0
                  try clear c12b1
                  try clear p13
                  try clear q13
                  try clear hx13
                  try clear c16
                  try clear hcz11_0
                  try clear hcz11_1
                  try clear hcz11_2
                  try clear hcz13_0
                  try clear hcz13_1
                  try clear hcz13_2
                  try clear hcz14_0
                  try clear hcz14_1
                  try clear hcz14_2
                  try clear hfz11_0
                  try clear hfz11_1
                  try clear hfz11_2
                  try clear hfz13_0
                  try clear hfz13_1
                  try clear hfz13_2
                  try clear hfz14_0
                  try clear hfz14_1
                  try clear hfz14_2
                  try clear hx135_0
                  try clear hx135_1
                  try clear hx135_2
                  try clear p1
                  try clear p13
                  try clear p135
                  try clear p2
                  try clear q1
                  try clear q13
                  try clear q135
                  obtain ⟨kq, x0_14, x8_14, rfl, rfl, HA, HJ14, HO_7, BK136, HB⟩ := hcut
                  cases kq with
                  | zero => exact absurd HA.out (by simp [dowserref01_Take.j2])
                  | succ kj14 =>
                    have H := HA.out
                    clear HA
                    simp only [dowserref01_Take.j2] at H
                    have HC17 := Aside0.mk H
                    clear H
                    go_upto_region 11 with (fail)
                    go_cut [39] (fun v39 wc => ∃ (kq : Nat) (x39_16 : Bool), v39 = .bool x39_16 ∧ Aside0 (dowserref01_Take.j3 kq x0_14 x7_1 x8_14 (⟨#[]⟩ : ByteArray) ji8 l1 (l1.length : Int) x19_1 x39_16 ((rd_T67 l1 x19_1).f0) ((rd_T67 l1 x19_1).f1) ((rd_T67 l1 x19_1).f2) = some (r1, r2, r3)) ∧ Aside0 (kq ≤ kj14) ∧ Aside0 (Kd.R Kd.string 9 wc w.heap.size (fun _ => True) u7 x7_1) ∧ Aside0 (wc.heap[gb136]? = some (.cells #[.int .i64 ((rd_T67 l1 x19_1).f0), .int .u64 ((rd_T67 l1 x19_1).f1), .int .i64 ((rd_T67 l1 x19_1).f2)] 67 (0, 0))) ∧ Aside0 (Below w.heap.size w wc))
                    case first =>
                      have H := HC17.out
                      clear HC17
                      by_cases c18 : x8_14 = 0
                      · rw [if_pos c18] at H
                        have c18b0 : (x8_14 == 0) = true := beq_iff_eq.mpr c18
                        have c18b1 : (x8_14 != 0) = false := bne_eq_false_iff_eq.mpr c18
                        clear c18
                        (first | rw [c18b0] | (simp only [i64_w, i32_w]; rw [c18b0]) | skip)
                        have H' := Aside0.mk H
                        clear H
                        have hcz19_0 : wc.cell? ⟨gb136, 0, none⟩ = some (.int .i64 ((rd_T67 l1 x19_1).f0)) := (blk_cell BK136.out 0).trans rfl
                        have hcz19_1 : wc.cell? ⟨gb136, 1, none⟩ = some (.int .u64 ((rd_T67 l1 x19_1).f1)) := (blk_cell BK136.out 1).trans rfl
                        have hcz19_2 : wc.cell? ⟨gb136, 2, none⟩ = some (.int .i64 ((rd_T67 l1 x19_1).f2)) := (blk_cell BK136.out 2).trans rfl
                        have hfz19_0 := blk_frozen BK136.out 0
                        have hfz19_1 := blk_frozen BK136.out 1
                        have hfz19_2 := blk_frozen BK136.out 2
                        go_wp2
                        go_meet
                        case rel => exact ⟨_, (decide (((rd_T67 l1 x19_1).f0) < 2)), (by first | rfl | (simp; done) | (simp [*]; done) | (simp; rw [Bool.eq_iff_iff]; simp; done)), H', ⟨by have := HK1.out; have := HJ8.out; have := HJ14.out; first | omega | exact Nat.le_refl _⟩, ⟨by (with_reducible repeat (first | apply Kd.R_alloc | apply Kd.R_drewN | apply Kd.R_drew)); exact HO_7.out⟩, ⟨by (with_reducible repeat (first | refine blk_drewN ?_ _ | refine blk_drew ?_ | refine blk_alloc ?_ _)); exact BK136.out⟩, ⟨by repeat (first | (with_reducible first | exact HB.out | apply below_alloc | apply pw_below_drewN | apply below_drew1 | refine below_set ?_ GE136.out) | exact HB.out)⟩⟩
                      · rw [if_neg c18] at H
                        have c18b0 : (x8_14 == 0) = false := beq_eq_false_iff_ne.mpr c18
                        have c18b1 : (x8_14 != 0) = true := bne_iff_ne.mpr c18
                        (first | rw [c18b0] | (simp only [i64_w, i32_w]; rw [c18b0]) | skip)
                        have H' := Aside0.mk H
                        clear H
                        go_wp2
                        go_meet
                        case rel => exact ⟨_, (false), (by first | rfl | (simp; done) | (simp [*]; done) | (simp; rw [Bool.eq_iff_iff]; simp; done)), H', ⟨by have := HK1.out; have := HJ8.out; have := HJ14.out; first | omega | exact Nat.le_refl _⟩, ⟨by (with_reducible repeat (first | apply Kd.R_alloc | apply Kd.R_drewN | apply Kd.R_drew)); exact HO_7.out⟩, ⟨by (with_reducible repeat (first | refine blk_drewN ?_ _ | refine blk_drew ?_ | refine blk_alloc ?_ _)); exact BK136.out⟩, ⟨by repeat (first | (with_reducible first | exact HB.out | apply below_alloc | apply pw_below_drewN | apply below_drew1 | refine below_set ?_ GE136.out) | exact HB.out)⟩⟩
                    case rest =>
                      clear HC17
                      try clear c1
                      try clear p1
                      try clear q1
                      try clear hx1
                      try clear p2
                      try clear c4
                      try clear c5
                      try clear c5b0
                      try clear c6
                      try clear c6b0
                      try clear c7
                      try clear c7b0
                      try clear c12
                      try clear c12b0
                      try clear c12b1
                      try clear p13
                      try clear q13
                      try clear hx13
                      try clear c16
                      try clear c18
                      try clear c18b0
                      try clear c18b1
                      try clear hcz11_0
                      try clear hcz11_1
                      try clear hcz11_2
                      try clear hcz13_0
                      try clear hcz13_1
                      try clear hcz13_2
                      try clear hcz14_0
                      try clear hcz14_1
                      try clear hcz14_2
                      try clear hcz19_0
                      try clear hcz19_1
                      try clear hcz19_2
                      try clear hfz11_0
                      try clear hfz11_1
                      try clear hfz11_2
                      try clear hfz13_0
                      try clear hfz13_1
                      try clear hfz13_2
                      try clear hfz14_0
                      try clear hfz14_1
                      try clear hfz14_2
                      try clear hfz19_0
                      try clear hfz19_1
                      try clear hfz19_2
                      try clear hx135_0
                      try clear hx135_1
                      try clear hx135_2
                      try clear p1
                      try clear p13
                      try clear p135
                      try clear p2
                      try clear q1
                      try clear q13
                      try clear q135
                      obtain ⟨kq, x39_16, rfl, HA, HJ16, HO_7, BK136, HB⟩ := hcut
                      cases kq with
                      | zero => exact absurd HA.out (by simp [dowserref01_Take.j3])
                      | succ kj16 =>
                        have H := HA.out
                        clear HA
                        simp only [dowserref01_Take.j3] at H
                        have HC20 := Aside0.mk H
                        clear H
                        go_upto_if 39 with (fail)
                        go_cut [0, 8, 11, 12] (fun v0 v8 v11 v12 wc => ∃ (kq : Nat) (x0_19 : ByteArray) (x8_19 : Int) (x11_19 : ByteArray) (x12_19 : Int), v0 = .string x0_19 ∧ v8 = .int .i64 x8_19 ∧ v11 = .string x11_19 ∧ v12 = .int .i64 x12_19 ∧ Aside0 (dowserref01_Take.j6 kq x0_19 x7_1 x8_19 x11_19 x12_19 l1 (l1.length : Int) x19_1 ((rd_T67 l1 x19_1).f0) ((rd_T67 l1 x19_1).f1) ((rd_T67 l1 x19_1).f2) = some (r1, r2, r3)) ∧ Aside0 (kq ≤ kj16) ∧ Aside0 (Kd.R Kd.string 9 wc w.heap.size (fun _ => True) u7 x7_1) ∧ Aside0 (wc.heap[gb136]? = some (.cells #[.int .i64 ((rd_T67 l1 x19_1).f0), .int .u64 ((rd_T67 l1 x19_1).f1), .int .i64 ((rd_T67 l1 x19_1).f2)] 67 (0, 0))) ∧ Aside0 (Below w.heap.size w wc))
                        case first =>
                          have H := HC20.out
                          clear HC20
                          by_cases c21 : x39_16 = true
                          · subst c21
                            have H1 : ((dowserref01_Head.f kj16 x0_14).bind fun bt137 => (if bt137.2.2 = 0 then (dowserref01_Take.j4 kj16 x0_14 x7_1 (⟨#[]⟩ : ByteArray) bt137.1 bt137.2.1 bt137.2.2 l1 (l1.length : Int) x19_1 (decide (bt137.1 > ((rd_T67 l1 x19_1).f1))) ((rd_T67 l1 x19_1).f0) ((rd_T67 l1 x19_1).f1) ((rd_T67 l1 x19_1).f2)) else (dowserref01_Take.j4 kj16 x0_14 x7_1 (⟨#[]⟩ : ByteArray) bt137.1 bt137.2.1 bt137.2.2 l1 (l1.length : Int) x19_1 false ((rd_T67 l1 x19_1).f0) ((rd_T67 l1 x19_1).f1) ((rd_T67 l1 x19_1).f2)))) = some (r1, r2, r3) := by rw [if_pos rfl] at H; exact H
                            clear H
                            have H := H1
                            clear H1
                            replace H := Option.bind_eq_some_iff.mp H
                            obtain ⟨⟨t137, t138, t139⟩, A220, H⟩ := H
                            replace H : (if t139 = 0 then (dowserref01_Take.j4 kj16 x0_14 x7_1 (⟨#[]⟩ : ByteArray) t137 t138 t139 l1 (l1.length : Int) x19_1 (decide (t137 > ((rd_T67 l1 x19_1).f1))) ((rd_T67 l1 x19_1).f0) ((rd_T67 l1 x19_1).f1) ((rd_T67 l1 x19_1).f2)) else (dowserref01_Take.j4 kj16 x0_14 x7_1 (⟨#[]⟩ : ByteArray) t137 t138 t139 l1 (l1.length : Int) x19_1 false ((rd_T67 l1 x19_1).f0) ((rd_T67 l1 x19_1).f1) ((rd_T67 l1 x19_1).f2))) = some (r1, r2, r3) := H
                            have A22 := Aside0.mk A220
                            clear A220
                            have HC23 := Aside0.mk H
                            clear H
                            go_upto_region 13 with (first | ((with_reducible refine gate_callee (f := 55) rfl ?_); refine goesL_ (some 42) rfl rfl Try.func55 (by kernel_rfl) rfl #[.string x0_14] rfl (by (try simp only [List.map_toArray, List.map_cons, List.map_nil]); first | done | rfl | (simp only [List.length_drop, List.length_take]; rfl)) ?_; (with_reducible refine (dowserref01_Head.calls kj16 x0_14 t137 t138 t139 _ A22.out).mono ?_); rintro e w' ⟨rfl, ⟨nd, rfl⟩⟩; refine ⟨_, rfl, ?_⟩))
                            (try simp only [Act.put, List.setIfInBounds_toArray, List.set_cons_zero, List.set_cons_succ])
                            go_cut [53] (fun v53 wc => ∃ (kq : Nat) (x53_22 : Bool), v53 = .bool x53_22 ∧ Aside0 (dowserref01_Take.j4 kq x0_14 x7_1 (⟨#[]⟩ : ByteArray) t137 t138 t139 l1 (l1.length : Int) x19_1 x53_22 ((rd_T67 l1 x19_1).f0) ((rd_T67 l1 x19_1).f1) ((rd_T67 l1 x19_1).f2) = some (r1, r2, r3)) ∧ Aside0 (kq ≤ kj16) ∧ Aside0 (Kd.R Kd.string 9 wc w.heap.size (fun _ => True) u7 x7_1) ∧ Aside0 (wc.heap[gb136]? = some (.cells #[.int .i64 ((rd_T67 l1 x19_1).f0), .int .u64 ((rd_T67 l1 x19_1).f1), .int .i64 ((rd_T67 l1 x19_1).f2)] 67 (0, 0))) ∧ Aside0 (Below w.heap.size w wc))
                            case first =>
                              have H := HC23.out
                              clear HC23
                              by_cases c24 : t139 = 0
                              · rw [if_pos c24] at H
                                have c24b0 : (t139 == 0) = true := beq_iff_eq.mpr c24
                                have c24b1 : (t139 != 0) = false := bne_eq_false_iff_eq.mpr c24
                                clear c24
                                (first | rw [c24b0] | (simp only [i64_w, i32_w]; rw [c24b0]) | skip)
                                have H' := Aside0.mk H
                                clear H
                                have hcz25_0 : wc.cell? ⟨gb136, 0, none⟩ = some (.int .i64 ((rd_T67 l1 x19_1).f0)) := (blk_cell BK136.out 0).trans rfl
                                have hcz25_1 : wc.cell? ⟨gb136, 1, none⟩ = some (.int .u64 ((rd_T67 l1 x19_1).f1)) := (blk_cell BK136.out 1).trans rfl
                                have hcz25_2 : wc.cell? ⟨gb136, 2, none⟩ = some (.int .i64 ((rd_T67 l1 x19_1).f2)) := (blk_cell BK136.out 2).trans rfl
                                have hfz25_0 := blk_frozen BK136.out 0
                                have hfz25_1 := blk_frozen BK136.out 1
                                have hfz25_2 := blk_frozen BK136.out 2
                                go_wp2
                                go_meet
                                case rel => exact ⟨_, (decide (t137 > ((rd_T67 l1 x19_1).f1))), (by first | rfl | (simp; done) | (simp [*]; done) | (simp; rw [Bool.eq_iff_iff]; simp; done)), H', ⟨by have := HK1.out; have := HJ8.out; have := HJ14.out; have := HJ16.out; first | omega | exact Nat.le_refl _⟩, ⟨by (with_reducible repeat (first | apply Kd.R_alloc | apply Kd.R_drewN | apply Kd.R_drew)); exact HO_7.out⟩, ⟨by (with_reducible repeat (first | refine blk_drewN ?_ _ | refine blk_drew ?_ | refine blk_alloc ?_ _)); exact BK136.out⟩, ⟨by repeat (first | (with_reducible first | exact HB.out | apply below_alloc | apply pw_below_drewN | apply below_drew1 | refine below_set ?_ GE136.out) | exact HB.out)⟩⟩
                              · rw [if_neg c24] at H
                                have c24b0 : (t139 == 0) = false := beq_eq_false_iff_ne.mpr c24
                                have c24b1 : (t139 != 0) = true := bne_iff_ne.mpr c24
                                (first | rw [c24b0] | (simp only [i64_w, i32_w]; rw [c24b0]) | skip)
                                have H' := Aside0.mk H
                                clear H
                                go_wp2
                                go_meet
                                case rel => exact ⟨_, (false), (by first | rfl | (simp; done) | (simp [*]; done) | (simp; rw [Bool.eq_iff_iff]; simp; done)), H', ⟨by have := HK1.out; have := HJ8.out; have := HJ14.out; have := HJ16.out; first | omega | exact Nat.le_refl _⟩, ⟨by (with_reducible repeat (first | apply Kd.R_alloc | apply Kd.R_drewN | apply Kd.R_drew)); exact HO_7.out⟩, ⟨by (with_reducible repeat (first | refine blk_drewN ?_ _ | refine blk_drew ?_ | refine blk_alloc ?_ _)); exact BK136.out⟩, ⟨by repeat (first | (with_reducible first | exact HB.out | apply below_alloc | apply pw_below_drewN | apply below_drew1 | refine below_set ?_ GE136.out) | exact HB.out)⟩⟩
                            case rest =>
                              clear HC23
                              try clear c1
                              try clear p1
                              try clear q1
                              try clear hx1
                              try clear c2
                              try clear p2
                              try clear c4
                              try clear c5
                              try clear c5b0
                              try clear c6
                              try clear c6b0
                              try clear c7
                              try clear c7b0
                              try clear c12
                              try clear c12b0
                              try clear c12b1
                              try clear p13
                              try clear q13
                              try clear hx13
                              try clear c16
                              try clear c18
                              try clear c18b0
                              try clear c18b1
                              try clear c21
                              try clear c24
                              try clear c24b0
                              try clear c24b1
                              try clear hcz11_0
                              try clear hcz11_1
                              try clear hcz11_2
                              try clear hcz13_0
                              try clear hcz13_1
                              try clear hcz13_2
                              try clear hcz14_0
                              try clear hcz14_1
                              try clear hcz14_2
                              try clear hcz19_0
                              try clear hcz19_1
                              try clear hcz19_2
                              try clear hcz25_0
                              try clear hcz25_1
                              try clear hcz25_2
                              try clear hfz11_0
                              try clear hfz11_1
                              try clear hfz11_2
                              try clear hfz13_0
                              try clear hfz13_1
                              try clear hfz13_2
                              try clear hfz14_0
                              try clear hfz14_1
                              try clear hfz14_2
                              try clear hfz19_0
                              try clear hfz19_1
                              try clear hfz19_2
                              try clear hfz25_0
                              try clear hfz25_1
                              try clear hfz25_2
                              try clear hx135_0
                              try clear hx135_1
                              try clear hx135_2
                              try clear p1
                              try clear p13
                              try clear p135
                              try clear p2
                              try clear q1
                              try clear q13
                              try clear q135
                              obtain ⟨kq, x53_22, rfl, HA, HJ22, HO_7, BK136, HB⟩ := hcut
                              cases kq with
                              | zero => exact absurd HA.out (by simp [dowserref01_Take.j4])
                              | succ kj22 =>
                                have H := HA.out
                                clear HA
                                simp only [dowserref01_Take.j4] at H
                                have HC26 := Aside0.mk H
                                clear H
                                go_upto_if 53 with (fail)
                                go_cut [15] (fun v15 wc => ∃ (kq : Nat) (x15_25 : Int), v15 = .int .i64 x15_25 ∧ Aside0 (dowserref01_Take.j5 kq x0_14 x7_1 (⟨#[]⟩ : ByteArray) t137 t138 x15_25 l1 (l1.length : Int) x19_1 ((rd_T67 l1 x19_1).f0) ((rd_T67 l1 x19_1).f1) ((rd_T67 l1 x19_1).f2) = some (r1, r2, r3)) ∧ Aside0 (kq ≤ kj22) ∧ Aside0 (Kd.R Kd.string 9 wc w.heap.size (fun _ => True) u7 x7_1) ∧ Aside0 (wc.heap[gb136]? = some (.cells #[.int .i64 ((rd_T67 l1 x19_1).f0), .int .u64 ((rd_T67 l1 x19_1).f1), .int .i64 ((rd_T67 l1 x19_1).f2)] 67 (0, 0))) ∧ Aside0 (Below w.heap.size w wc))
                                case first =>
                                  have H := HC26.out
                                  clear HC26
                                  by_cases c27 : x53_22 = true
                                  · subst c27
                                    have H1 : (dowserref01_Take.j5 kj22 x0_14 x7_1 (⟨#[]⟩ : ByteArray) t137 t138 4 l1 (l1.length : Int) x19_1 ((rd_T67 l1 x19_1).f0) ((rd_T67 l1 x19_1).f1) ((rd_T67 l1 x19_1).f2)) = some (r1, r2, r3) := by rw [if_pos rfl] at H; exact H
                                    clear H
                                    have H := H1
                                    clear H1
                                    have H' := Aside0.mk H
                                    clear H
                                    go_wp2
                                    go_meet
                                    case rel => exact ⟨_, (4), (by first | rfl | (simp; done) | (simp [*]; done) | (simp; rw [Bool.eq_iff_iff]; simp; done)), H', ⟨by have := HK1.out; have := HJ8.out; have := HJ14.out; have := HJ16.out; have := HJ22.out; first | omega | exact Nat.le_refl _⟩, ⟨by (with_reducible repeat (first | apply Kd.R_alloc | apply Kd.R_drewN | apply Kd.R_drew)); exact HO_7.out⟩, ⟨by (with_reducible repeat (first | refine blk_drewN ?_ _ | refine blk_drew ?_ | refine blk_alloc ?_ _)); exact BK136.out⟩, ⟨by repeat (first | (with_reducible first | exact HB.out | apply below_alloc | apply pw_below_drewN | apply below_drew1 | refine below_set ?_ GE136.out) | exact HB.out)⟩⟩
                                  · replace c27 := Bool.eq_false_iff.mpr c27
                                    subst c27
                                    have H1 : (dowserref01_Take.j5 kj22 x0_14 x7_1 (⟨#[]⟩ : ByteArray) t137 t138 t139 l1 (l1.length : Int) x19_1 ((rd_T67 l1 x19_1).f0) ((rd_T67 l1 x19_1).f1) ((rd_T67 l1 x19_1).f2)) = some (r1, r2, r3) := by rw [if_neg (show ¬ (false = true) by decide)] at H; exact H
                                    clear H
                                    have H := H1
                                    clear H1
                                    have H' := Aside0.mk H
                                    clear H
                                    go_wp2
                                    go_meet
                                    case rel => exact ⟨_, (t139), (by first | rfl | (simp; done) | (simp [*]; done) | (simp; rw [Bool.eq_iff_iff]; simp; done)), H', ⟨by have := HK1.out; have := HJ8.out; have := HJ14.out; have := HJ16.out; have := HJ22.out; first | omega | exact Nat.le_refl _⟩, ⟨by (with_reducible repeat (first | apply Kd.R_alloc | apply Kd.R_drewN | apply Kd.R_drew)); exact HO_7.out⟩, ⟨by (with_reducible repeat (first | refine blk_drewN ?_ _ | refine blk_drew ?_ | refine blk_alloc ?_ _)); exact BK136.out⟩, ⟨by repeat (first | (with_reducible first | exact HB.out | apply below_alloc | apply pw_below_drewN | apply below_drew1 | refine below_set ?_ GE136.out) | exact HB.out)⟩⟩
                                case rest =>
                                  clear HC26
                                  try clear c1
                                  try clear p1
                                  try clear q1
                                  try clear hx1
                                  try clear c2
                                  try clear p2
                                  try clear c4
                                  try clear c5
                                  try clear c5b0
                                  try clear c6
                                  try clear c6b0
                                  try clear c7
                                  try clear c7b0
                                  try clear c12
                                  try clear c12b0
                                  try clear c12b1
                                  try clear p13
                                  try clear q13
                                  try clear hx13
                                  try clear c16
                                  try clear c18
                                  try clear c18b0
                                  try clear c18b1
                                  try clear c21
                                  try clear c24
                                  try clear c24b0
                                  try clear c24b1
                                  try clear c27
                                  try clear hcz11_0
                                  try clear hcz11_1
                                  try clear hcz11_2
                                  try clear hcz13_0
                                  try clear hcz13_1
                                  try clear hcz13_2
                                  try clear hcz14_0
                                  try clear hcz14_1
                                  try clear hcz14_2
                                  try clear hcz19_0
                                  try clear hcz19_1
                                  try clear hcz19_2
                                  try clear hcz25_0
                                  try clear hcz25_1
                                  try clear hcz25_2
                                  try clear hfz11_0
                                  try clear hfz11_1
                                  try clear hfz11_2
                                  try clear hfz13_0
                                  try clear hfz13_1
                                  try clear hfz13_2
                                  try clear hfz14_0
                                  try clear hfz14_1
                                  try clear hfz14_2
                                  try clear hfz19_0
                                  try clear hfz19_1
                                  try clear hfz19_2
                                  try clear hfz25_0
                                  try clear hfz25_1
                                  try clear hfz25_2
                                  try clear hx135_0
                                  try clear hx135_1
                                  try clear hx135_2
                                  try clear p1
                                  try clear p13
                                  try clear p135
                                  try clear p2
                                  try clear q1
                                  try clear q13
                                  try clear q135
                                  obtain ⟨kq, x15_25, rfl, HA, HJ25, HO_7, BK136, HB⟩ := hcut
                                  cases kq with
                                  | zero => exact absurd HA.out (by simp [dowserref01_Take.j5])
                                  | succ kj25 =>
                                    have H := HA.out
                                    clear HA
                                    simp only [dowserref01_Take.j5] at H
                                    by_cases c28 : x15_25 = 0
                                    · rw [if_pos c28] at H
                                      have c28b0 : (x15_25 == 0) = true := beq_iff_eq.mpr c28
                                      have c28b1 : (x15_25 != 0) = false := bne_eq_false_iff_eq.mpr c28
                                      clear c28
                                      by_cases c29 : 0 ≤ t138
                                      · rw [if_pos c29] at H
                                        have c29b0 := eq_true c29
                                        have c29b1 : decide (0 ≤ t138) = true := decide_eq_true c29
                                        clear c29
                                        by_cases c30 : t138 ≤ (x0_14.size : Int)
                                        · rw [if_pos c30] at H
                                          have c30b0 := eq_true c30
                                          have c30b1 : decide (t138 ≤ (x0_14.size : Int)) = true := decide_eq_true c30
                                          clear c30
                                          replace H := Option.bind_eq_some_iff.mp H
                                          obtain ⟨t140, A310, H⟩ := H
                                          replace H : (if ((rd_T67 l1 x19_1).f0) = 1 then (dowserref01_Take.j6 kj25 (x0_14.extract (t138 : Int).toNat x0_14.size) x7_1 x15_25 t140 (wrap64 (t137)) l1 (l1.length : Int) x19_1 ((rd_T67 l1 x19_1).f0) ((rd_T67 l1 x19_1).f1) ((rd_T67 l1 x19_1).f2)) else (dowserref01_Take.j6 kj25 (x0_14.extract (t138 : Int).toNat x0_14.size) x7_1 x15_25 t140 0 l1 (l1.length : Int) x19_1 ((rd_T67 l1 x19_1).f0) ((rd_T67 l1 x19_1).f1) ((rd_T67 l1 x19_1).f2))) = some (r1, r2, r3) := H
                                          have A31 := Aside0.mk A310
                                          clear A310
                                          by_cases c32 : ((rd_T67 l1 x19_1).f0) = 1
                                          · rw [if_pos c32] at H
                                            have c32b0 : (((rd_T67 l1 x19_1).f0) == 1) = true := beq_iff_eq.mpr c32
                                            have c32b1 : (((rd_T67 l1 x19_1).f0) != 1) = false := bne_eq_false_iff_eq.mpr c32
                                            clear c32
                                            have H' := Aside0.mk H
                                            clear H
                                            go_wp2_with (first | ((with_reducible refine gate_callee (f := 31) rfl ?_); refine goesL_ (some 61) rfl rfl Try.func31 (by kernel_rfl) rfl #[.int .u64 t137] rfl (by (try simp only [List.map_toArray, List.map_cons, List.map_nil]); first | done | rfl | (simp only [List.length_drop, List.length_take]; rfl)) ?_; (with_reducible refine (dowserref01_Num.calls kj25 t137 t140 _ A31.out).mono ?_); rintro e w33 ⟨rfl, hb⟩; refine ⟨_, rfl, ?_⟩; have n0_ := Aside0.mk (Kd.R_below (by (with_reducible repeat (first | apply Kd.R_alloc | apply Kd.R_drewN | apply Kd.R_drew)); exact HO_7.out) hb); have n1_ := Aside0.mk (blk_below (g := gb136) (o := .cells #[.int .i64 ((rd_T67 l1 x19_1).f0), .int .u64 ((rd_T67 l1 x19_1).f1), .int .i64 ((rd_T67 l1 x19_1).f2)] 67 (0, 0)) (by (with_reducible repeat (first | refine blk_drewN ?_ _ | refine blk_drew ?_ | refine blk_alloc ?_ _)); exact BK136.out) hb); have n2_ := Aside0.mk (below_step (by repeat (first | (with_reducible first | exact HB.out | apply below_alloc | apply pw_below_drewN | apply below_drew1 | refine below_set ?_ GE136.out) | exact HB.out)) hb); clear HO_7; clear BK136; clear HB; have HO_7 := n0_; have BK136 := n1_; have HB := n2_; clear n0_ n1_ n2_; (try clear hb); (try clear hb2); (try clear hk); (try clear hi); have hcz34_0 : w33.cell? ⟨gb136, 0, none⟩ = some (.int .i64 ((rd_T67 l1 x19_1).f0)) := (blk_cell BK136.out 0).trans rfl; have hcz34_1 : w33.cell? ⟨gb136, 1, none⟩ = some (.int .u64 ((rd_T67 l1 x19_1).f1)) := (blk_cell BK136.out 1).trans rfl; have hcz34_2 : w33.cell? ⟨gb136, 2, none⟩ = some (.int .i64 ((rd_T67 l1 x19_1).f2)) := (blk_cell BK136.out 2).trans rfl; have hfz34_0 := blk_frozen BK136.out 0; have hfz34_1 := blk_frozen BK136.out 1; have hfz34_2 := blk_frozen BK136.out 2))
                                            go_meet
                                            case rel => exact ⟨_, (x0_14.extract (t138 : Int).toNat x0_14.size), (x15_25), (t140), (wrap64 (t137)), (by first | rfl | (simp; done) | (simp [*]; done) | (simp; rw [Bool.eq_iff_iff]; simp; done)), (by first | rfl | (simp; done) | (simp [*]; done) | (simp; rw [Bool.eq_iff_iff]; simp; done)), (by first | rfl | (simp; done) | (simp [*]; done) | (simp; rw [Bool.eq_iff_iff]; simp; done)), (by first | rfl | (simp; done) | (simp [*]; done) | (simp; rw [Bool.eq_iff_iff]; simp; done)), H', ⟨by have := HK1.out; have := HJ8.out; have := HJ14.out; have := HJ16.out; have := HJ22.out; have := HJ25.out; first | omega | exact Nat.le_refl _⟩, ⟨by (with_reducible repeat (first | apply Kd.R_alloc | apply Kd.R_drewN | apply Kd.R_drew)); exact HO_7.out⟩, ⟨by (with_reducible repeat (first | refine blk_drewN ?_ _ | refine blk_drew ?_ | refine blk_alloc ?_ _)); exact BK136.out⟩, ⟨by repeat (first | (with_reducible first | exact HB.out | apply below_alloc | apply pw_below_drewN | apply below_drew1 | refine below_set ?_ GE136.out) | exact HB.out)⟩⟩
                                          · rw [if_neg c32] at H
                                            have c32b0 : (((rd_T67 l1 x19_1).f0) == 1) = false := beq_eq_false_iff_ne.mpr c32
                                            have c32b1 : (((rd_T67 l1 x19_1).f0) != 1) = true := bne_iff_ne.mpr c32
                                            have H' := Aside0.mk H
                                            clear H
                                            go_wp2_with (first | ((with_reducible refine gate_callee (f := 31) rfl ?_); refine goesL_ (some 61) rfl rfl Try.func31 (by kernel_rfl) rfl #[.int .u64 t137] rfl (by (try simp only [List.map_toArray, List.map_cons, List.map_nil]); first | done | rfl | (simp only [List.length_drop, List.length_take]; rfl)) ?_; (with_reducible refine (dowserref01_Num.calls kj25 t137 t140 _ A31.out).mono ?_); rintro e w35 ⟨rfl, hb⟩; refine ⟨_, rfl, ?_⟩; have n0_ := Aside0.mk (Kd.R_below (by (with_reducible repeat (first | apply Kd.R_alloc | apply Kd.R_drewN | apply Kd.R_drew)); exact HO_7.out) hb); have n1_ := Aside0.mk (blk_below (g := gb136) (o := .cells #[.int .i64 ((rd_T67 l1 x19_1).f0), .int .u64 ((rd_T67 l1 x19_1).f1), .int .i64 ((rd_T67 l1 x19_1).f2)] 67 (0, 0)) (by (with_reducible repeat (first | refine blk_drewN ?_ _ | refine blk_drew ?_ | refine blk_alloc ?_ _)); exact BK136.out) hb); have n2_ := Aside0.mk (below_step (by repeat (first | (with_reducible first | exact HB.out | apply below_alloc | apply pw_below_drewN | apply below_drew1 | refine below_set ?_ GE136.out) | exact HB.out)) hb); clear HO_7; clear BK136; clear HB; have HO_7 := n0_; have BK136 := n1_; have HB := n2_; clear n0_ n1_ n2_; (try clear hb); (try clear hb2); (try clear hk); (try clear hi); have hcz36_0 : w35.cell? ⟨gb136, 0, none⟩ = some (.int .i64 ((rd_T67 l1 x19_1).f0)) := (blk_cell BK136.out 0).trans rfl; have hcz36_1 : w35.cell? ⟨gb136, 1, none⟩ = some (.int .u64 ((rd_T67 l1 x19_1).f1)) := (blk_cell BK136.out 1).trans rfl; have hcz36_2 : w35.cell? ⟨gb136, 2, none⟩ = some (.int .i64 ((rd_T67 l1 x19_1).f2)) := (blk_cell BK136.out 2).trans rfl; have hfz36_0 := blk_frozen BK136.out 0; have hfz36_1 := blk_frozen BK136.out 1; have hfz36_2 := blk_frozen BK136.out 2))
                                            go_meet
                                            case rel => exact ⟨_, (x0_14.extract (t138 : Int).toNat x0_14.size), (x15_25), (t140), (0), (by first | rfl | (simp; done) | (simp [*]; done) | (simp; rw [Bool.eq_iff_iff]; simp; done)), (by first | rfl | (simp; done) | (simp [*]; done) | (simp; rw [Bool.eq_iff_iff]; simp; done)), (by first | rfl | (simp; done) | (simp [*]; done) | (simp; rw [Bool.eq_iff_iff]; simp; done)), (by first | rfl | (simp; done) | (simp [*]; done) | (simp; rw [Bool.eq_iff_iff]; simp; done)), H', ⟨by have := HK1.out; have := HJ8.out; have := HJ14.out; have := HJ16.out; have := HJ22.out; have := HJ25.out; first | omega | exact Nat.le_refl _⟩, ⟨by (with_reducible repeat (first | apply Kd.R_alloc | apply Kd.R_drewN | apply Kd.R_drew)); exact HO_7.out⟩, ⟨by (with_reducible repeat (first | refine blk_drewN ?_ _ | refine blk_drew ?_ | refine blk_alloc ?_ _)); exact BK136.out⟩, ⟨by repeat (first | (with_reducible first | exact HB.out | apply below_alloc | apply pw_below_drewN | apply below_drew1 | refine below_set ?_ GE136.out) | exact HB.out)⟩⟩
                                        · rw [if_neg c30] at H
                                          exact absurd H (by simp)
                                      · rw [if_neg c29] at H
                                        exact absurd H (by simp)
                                    · rw [if_neg c28] at H
                                      have c28b0 : (x15_25 == 0) = false := beq_eq_false_iff_ne.mpr c28
                                      have c28b1 : (x15_25 != 0) = true := bne_iff_ne.mpr c28
                                      by_cases c37 : ((rd_T67 l1 x19_1).f0) = 1
                                      · rw [if_pos c37] at H
                                        have c37b0 : (((rd_T67 l1 x19_1).f0) == 1) = true := beq_iff_eq.mpr c37
                                        have c37b1 : (((rd_T67 l1 x19_1).f0) != 1) = false := bne_eq_false_iff_eq.mpr c37
                                        clear c37
                                        have H' := Aside0.mk H
                                        clear H
                                        have hcz38_0 : wc.cell? ⟨gb136, 0, none⟩ = some (.int .i64 ((rd_T67 l1 x19_1).f0)) := (blk_cell BK136.out 0).trans rfl
                                        have hcz38_1 : wc.cell? ⟨gb136, 1, none⟩ = some (.int .u64 ((rd_T67 l1 x19_1).f1)) := (blk_cell BK136.out 1).trans rfl
                                        have hcz38_2 : wc.cell? ⟨gb136, 2, none⟩ = some (.int .i64 ((rd_T67 l1 x19_1).f2)) := (blk_cell BK136.out 2).trans rfl
                                        have hfz38_0 := blk_frozen BK136.out 0
                                        have hfz38_1 := blk_frozen BK136.out 1
                                        have hfz38_2 := blk_frozen BK136.out 2
                                        go_wp2
                                        go_meet
                                        case rel => exact ⟨_, (x0_14), (x15_25), ((⟨#[]⟩ : ByteArray)), (0), (by first | rfl | (simp; done) | (simp [*]; done) | (simp; rw [Bool.eq_iff_iff]; simp; done)), (by first | rfl | (simp; done) | (simp [*]; done) | (simp; rw [Bool.eq_iff_iff]; simp; done)), (by first | rfl | (simp; done) | (simp [*]; done) | (simp; rw [Bool.eq_iff_iff]; simp; done)), (by first | rfl | (simp; done) | (simp [*]; done) | (simp; rw [Bool.eq_iff_iff]; simp; done)), H', ⟨by have := HK1.out; have := HJ8.out; have := HJ14.out; have := HJ16.out; have := HJ22.out; have := HJ25.out; first | omega | exact Nat.le_refl _⟩, ⟨by (with_reducible repeat (first | apply Kd.R_alloc | apply Kd.R_drewN | apply Kd.R_drew)); exact HO_7.out⟩, ⟨by (with_reducible repeat (first | refine blk_drewN ?_ _ | refine blk_drew ?_ | refine blk_alloc ?_ _)); exact BK136.out⟩, ⟨by repeat (first | (with_reducible first | exact HB.out | apply below_alloc | apply pw_below_drewN | apply below_drew1 | refine below_set ?_ GE136.out) | exact HB.out)⟩⟩
                                      · rw [if_neg c37] at H
                                        have c37b0 : (((rd_T67 l1 x19_1).f0) == 1) = false := beq_eq_false_iff_ne.mpr c37
                                        have c37b1 : (((rd_T67 l1 x19_1).f0) != 1) = true := bne_iff_ne.mpr c37
                                        have H' := Aside0.mk H
                                        clear H
                                        have hcz39_0 : wc.cell? ⟨gb136, 0, none⟩ = some (.int .i64 ((rd_T67 l1 x19_1).f0)) := (blk_cell BK136.out 0).trans rfl
                                        have hcz39_1 : wc.cell? ⟨gb136, 1, none⟩ = some (.int .u64 ((rd_T67 l1 x19_1).f1)) := (blk_cell BK136.out 1).trans rfl
                                        have hcz39_2 : wc.cell? ⟨gb136, 2, none⟩ = some (.int .i64 ((rd_T67 l1 x19_1).f2)) := (blk_cell BK136.out 2).trans rfl
                                        have hfz39_0 := blk_frozen BK136.out 0
                                        have hfz39_1 := blk_frozen BK136.out 1
                                        have hfz39_2 := blk_frozen BK136.out 2
                                        go_wp2
                                        go_meet
                                        case rel => exact ⟨_, (x0_14), (x15_25), ((⟨#[]⟩ : ByteArray)), (0), (by first | rfl | (simp; done) | (simp [*]; done) | (simp; rw [Bool.eq_iff_iff]; simp; done)), (by first | rfl | (simp; done) | (simp [*]; done) | (simp; rw [Bool.eq_iff_iff]; simp; done)), (by first | rfl | (simp; done) | (simp [*]; done) | (simp; rw [Bool.eq_iff_iff]; simp; done)), (by first | rfl | (simp; done) | (simp [*]; done) | (simp; rw [Bool.eq_iff_iff]; simp; done)), H', ⟨by have := HK1.out; have := HJ8.out; have := HJ14.out; have := HJ16.out; have := HJ22.out; have := HJ25.out; first | omega | exact Nat.le_refl _⟩, ⟨by (with_reducible repeat (first | apply Kd.R_alloc | apply Kd.R_drewN | apply Kd.R_drew)); exact HO_7.out⟩, ⟨by (with_reducible repeat (first | refine blk_drewN ?_ _ | refine blk_drew ?_ | refine blk_alloc ?_ _)); exact BK136.out⟩, ⟨by repeat (first | (with_reducible first | exact HB.out | apply below_alloc | apply pw_below_drewN | apply below_drew1 | refine below_set ?_ GE136.out) | exact HB.out)⟩⟩
                          · replace c21 := Bool.eq_false_iff.mpr c21
                            subst c21
                            have H1 : (dowserref01_Take.j6 kj16 x0_14 x7_1 x8_14 (⟨#[]⟩ : ByteArray) ji8 l1 (l1.length : Int) x19_1 ((rd_T67 l1 x19_1).f0) ((rd_T67 l1 x19_1).f1) ((rd_T67 l1 x19_1).f2)) = some (r1, r2, r3) := by rw [if_neg (show ¬ (false = true) by decide)] at H; exact H
                            clear H
                            have H := H1
                            clear H1
                            have H' := Aside0.mk H
                            clear H
                            go_wp2
                            go_meet
                            case rel => exact ⟨_, (x0_14), (x8_14), ((⟨#[]⟩ : ByteArray)), (ji8), (by first | rfl | (simp; done) | (simp [*]; done) | (simp; rw [Bool.eq_iff_iff]; simp; done)), (by first | rfl | (simp; done) | (simp [*]; done) | (simp; rw [Bool.eq_iff_iff]; simp; done)), (by first | rfl | (simp; done) | (simp [*]; done) | (simp; rw [Bool.eq_iff_iff]; simp; done)), (by first | rfl | (simp; done) | (simp only [← hji8] <;> (first | rfl | simp)) | (simp [*]; done)), H', ⟨by have := HK1.out; have := HJ8.out; have := HJ14.out; have := HJ16.out; first | omega | exact Nat.le_refl _⟩, ⟨by (with_reducible repeat (first | apply Kd.R_alloc | apply Kd.R_drewN | apply Kd.R_drew)); exact HO_7.out⟩, ⟨by (with_reducible repeat (first | refine blk_drewN ?_ _ | refine blk_drew ?_ | refine blk_alloc ?_ _)); exact BK136.out⟩, ⟨by repeat (first | (with_reducible first | exact HB.out | apply below_alloc | apply pw_below_drewN | apply below_drew1 | refine below_set ?_ GE136.out) | exact HB.out)⟩⟩
                        case rest =>
                          clear HC20
                          try clear c1
                          try clear p1
                          try clear q1
                          try clear hx1
                          try clear c2
                          try clear p2
                          try clear c3
                          try clear c4
                          try clear c5
                          try clear c5b0
                          try clear c6
                          try clear c6b0
                          try clear p6
                          try clear c7
                          try clear c7b0
                          try clear c12
                          try clear c12b0
                          try clear c12b1
                          try clear p13
                          try clear q13
                          try clear hx13
                          try clear c16
                          try clear c18
                          try clear c18b0
                          try clear c18b1
                          try clear c21
                          try clear c24
                          try clear c24b0
                          try clear c24b1
                          try clear c27
                          try clear c28
                          try clear c28b0
                          try clear c28b1
                          try clear c29
                          try clear c29b0
                          try clear c29b1
                          try clear c30
                          try clear c30b0
                          try clear c30b1
                          try clear c31
                          try clear c32
                          try clear c32b0
                          try clear c32b1
                          try clear c37
                          try clear c37b0
                          try clear c37b1
                          try clear hcz11_0
                          try clear hcz11_1
                          try clear hcz11_2
                          try clear hcz13_0
                          try clear hcz13_1
                          try clear hcz13_2
                          try clear hcz14_0
                          try clear hcz14_1
                          try clear hcz14_2
                          try clear hcz19_0
                          try clear hcz19_1
                          try clear hcz19_2
                          try clear hcz25_0
                          try clear hcz25_1
                          try clear hcz25_2
                          try clear hcz34_0
                          try clear hcz34_1
                          try clear hcz34_2
                          try clear hcz36_0
                          try clear hcz36_1
                          try clear hcz36_2
                          try clear hcz38_0
                          try clear hcz38_1
                          try clear hcz38_2
                          try clear hcz39_0
                          try clear hcz39_1
                          try clear hcz39_2
                          try clear hfz11_0
                          try clear hfz11_1
                          try clear hfz11_2
                          try clear hfz13_0
                          try clear hfz13_1
                          try clear hfz13_2
                          try clear hfz14_0
                          try clear hfz14_1
                          try clear hfz14_2
                          try clear hfz19_0
                          try clear hfz19_1
                          try clear hfz19_2
                          try clear hfz25_0
                          try clear hfz25_1
                          try clear hfz25_2
                          try clear hfz34_0
                          try clear hfz34_1
                          try clear hfz34_2
                          try clear hfz36_0
                          try clear hfz36_1
                          try clear hfz36_2
                          try clear hfz38_0
                          try clear hfz38_1
                          try clear hfz38_2
                          try clear hfz39_0
                          try clear hfz39_1
                          try clear hfz39_2
                          try clear hx135_0
                          try clear hx135_1
                          try clear hx135_2
                          try clear p1
                          try clear p13
                          try clear p135
                          try clear p2
                          try clear q1
                          try clear q13
                          try clear q135
                          obtain ⟨kq, x0_19, x8_19, x11_19, x12_19, rfl, rfl, rfl, rfl, HA, HJ19, HO_7, BK136, HB⟩ := hcut
                          cases kq with
                          | zero => exact absurd HA.out (by simp [dowserref01_Take.j6])
                          | succ kj19 =>
                            have H := HA.out
                            clear HA
                            simp only [dowserref01_Take.j6] at H
                            have HC40 := Aside0.mk H
                            clear H
                            go_upto_region 22 with (fail)
                            go_cut [82] (fun v82 wc => ∃ (kq : Nat) (x82_39 : Bool), v82 = .bool x82_39 ∧ Aside0 (dowserref01_Take.j7 kq x0_19 x7_1 x8_19 x11_19 x12_19 l1 (l1.length : Int) x19_1 x82_39 ((rd_T67 l1 x19_1).f0) ((rd_T67 l1 x19_1).f1) ((rd_T67 l1 x19_1).f2) = some (r1, r2, r3)) ∧ Aside0 (kq ≤ kj19) ∧ Aside0 (Kd.R Kd.string 9 wc w.heap.size (fun _ => True) u7 x7_1) ∧ Aside0 (wc.heap[gb136]? = some (.cells #[.int .i64 ((rd_T67 l1 x19_1).f0), .int .u64 ((rd_T67 l1 x19_1).f1), .int .i64 ((rd_T67 l1 x19_1).f2)] 67 (0, 0))) ∧ Aside0 (Below w.heap.size w wc))
                            case first =>
                              have H := HC40.out
                              clear HC40
                              by_cases c41 : x8_19 = 0
                              · rw [if_pos c41] at H
                                have c41b0 : (x8_19 == 0) = true := beq_iff_eq.mpr c41
                                have c41b1 : (x8_19 != 0) = false := bne_eq_false_iff_eq.mpr c41
                                clear c41
                                (first | rw [c41b0] | (simp only [i64_w, i32_w]; rw [c41b0]) | skip)
                                by_cases c42 : ((rd_T67 l1 x19_1).f0) = 0
                                · rw [if_pos c42] at H
                                  have c42b0 : (((rd_T67 l1 x19_1).f0) == 0) = true := beq_iff_eq.mpr c42
                                  have c42b1 : (((rd_T67 l1 x19_1).f0) != 0) = false := bne_eq_false_iff_eq.mpr c42
                                  clear c42
                                  have H' := Aside0.mk H
                                  clear H
                                  have hcz43_0 : wc.cell? ⟨gb136, 0, none⟩ = some (.int .i64 ((rd_T67 l1 x19_1).f0)) := (blk_cell BK136.out 0).trans rfl
                                  have hcz43_1 : wc.cell? ⟨gb136, 1, none⟩ = some (.int .u64 ((rd_T67 l1 x19_1).f1)) := (blk_cell BK136.out 1).trans rfl
                                  have hcz43_2 : wc.cell? ⟨gb136, 2, none⟩ = some (.int .i64 ((rd_T67 l1 x19_1).f2)) := (blk_cell BK136.out 2).trans rfl
                                  have hfz43_0 := blk_frozen BK136.out 0
                                  have hfz43_1 := blk_frozen BK136.out 1
                                  have hfz43_2 := blk_frozen BK136.out 2
                                  go_wp2
                                  go_meet
                                  case rel => exact ⟨_, (false), (by first | rfl | (simp; done) | (simp [*]; done) | (simp; rw [Bool.eq_iff_iff]; simp; done)), H', ⟨by have := HK1.out; have := HJ8.out; have := HJ14.out; have := HJ16.out; have := HJ19.out; first | omega | exact Nat.le_refl _⟩, ⟨by (with_reducible repeat (first | apply Kd.R_alloc | apply Kd.R_drewN | apply Kd.R_drew)); exact HO_7.out⟩, ⟨by (with_reducible repeat (first | refine blk_drewN ?_ _ | refine blk_drew ?_ | refine blk_alloc ?_ _)); exact BK136.out⟩, ⟨by repeat (first | (with_reducible first | exact HB.out | apply below_alloc | apply pw_below_drewN | apply below_drew1 | refine below_set ?_ GE136.out) | exact HB.out)⟩⟩
                                · rw [if_neg c42] at H
                                  have c42b0 : (((rd_T67 l1 x19_1).f0) == 0) = false := beq_eq_false_iff_ne.mpr c42
                                  have c42b1 : (((rd_T67 l1 x19_1).f0) != 0) = true := bne_iff_ne.mpr c42
                                  have H' := Aside0.mk H
                                  clear H
                                  have hcz44_0 : wc.cell? ⟨gb136, 0, none⟩ = some (.int .i64 ((rd_T67 l1 x19_1).f0)) := (blk_cell BK136.out 0).trans rfl
                                  have hcz44_1 : wc.cell? ⟨gb136, 1, none⟩ = some (.int .u64 ((rd_T67 l1 x19_1).f1)) := (blk_cell BK136.out 1).trans rfl
                                  have hcz44_2 : wc.cell? ⟨gb136, 2, none⟩ = some (.int .i64 ((rd_T67 l1 x19_1).f2)) := (blk_cell BK136.out 2).trans rfl
                                  have hfz44_0 := blk_frozen BK136.out 0
                                  have hfz44_1 := blk_frozen BK136.out 1
                                  have hfz44_2 := blk_frozen BK136.out 2
                                  go_wp2
                                  go_meet
                                  case rel => exact ⟨_, ((((rd_T67 l1 x19_1).f0) != 3)), (by first | rfl | (simp; done) | (simp [*]; done) | (simp; rw [Bool.eq_iff_iff]; simp; done)), H', ⟨by have := HK1.out; have := HJ8.out; have := HJ14.out; have := HJ16.out; have := HJ19.out; first | omega | exact Nat.le_refl _⟩, ⟨by (with_reducible repeat (first | apply Kd.R_alloc | apply Kd.R_drewN | apply Kd.R_drew)); exact HO_7.out⟩, ⟨by (with_reducible repeat (first | refine blk_drewN ?_ _ | refine blk_drew ?_ | refine blk_alloc ?_ _)); exact BK136.out⟩, ⟨by repeat (first | (with_reducible first | exact HB.out | apply below_alloc | apply pw_below_drewN | apply below_drew1 | refine below_set ?_ GE136.out) | exact HB.out)⟩⟩
                              · rw [if_neg c41] at H
                                have c41b0 : (x8_19 == 0) = false := beq_eq_false_iff_ne.mpr c41
                                have c41b1 : (x8_19 != 0) = true := bne_iff_ne.mpr c41
                                (first | rw [c41b0] | (simp only [i64_w, i32_w]; rw [c41b0]) | skip)
                                have H' := Aside0.mk H
                                clear H
                                go_wp2
                                go_meet
                                case rel => exact ⟨_, (false), (by first | rfl | (simp; done) | (simp [*]; done) | (simp; rw [Bool.eq_iff_iff]; simp; done)), H', ⟨by have := HK1.out; have := HJ8.out; have := HJ14.out; have := HJ16.out; have := HJ19.out; first | omega | exact Nat.le_refl _⟩, ⟨by (with_reducible repeat (first | apply Kd.R_alloc | apply Kd.R_drewN | apply Kd.R_drew)); exact HO_7.out⟩, ⟨by (with_reducible repeat (first | refine blk_drewN ?_ _ | refine blk_drew ?_ | refine blk_alloc ?_ _)); exact BK136.out⟩, ⟨by repeat (first | (with_reducible first | exact HB.out | apply below_alloc | apply pw_below_drewN | apply below_drew1 | refine below_set ?_ GE136.out) | exact HB.out)⟩⟩
                            case rest =>
                              clear HC40
                              try clear c1
                              try clear p1
                              try clear q1
                              try clear hx1
                              try clear c2
                              try clear p2
                              try clear c3
                              try clear c4
                              try clear c5
                              try clear c5b0
                              try clear c6
                              try clear c6b0
                              try clear p6
                              try clear c7
                              try clear c7b0
                              try clear c12
                              try clear c12b0
                              try clear c12b1
                              try clear p13
                              try clear q13
                              try clear hx13
                              try clear c16
                              try clear c18
                              try clear c18b0
                              try clear c18b1
                              try clear c21
                              try clear c24
                              try clear c24b0
                              try clear c24b1
                              try clear c27
                              try clear c28
                              try clear c28b0
                              try clear c28b1
                              try clear c29
                              try clear c29b0
                              try clear c29b1
                              try clear c30
                              try clear c30b0
                              try clear c30b1
                              try clear c31
                              try clear c32
                              try clear c32b0
                              try clear c32b1
                              try clear c37
                              try clear c37b0
                              try clear c37b1
                              try clear c41
                              try clear c41b0
                              try clear c41b1
                              try clear c42
                              try clear c42b0
                              try clear c42b1
                              try clear hcz11_0
                              try clear hcz11_1
                              try clear hcz11_2
                              try clear hcz13_0
                              try clear hcz13_1
                              try clear hcz13_2
                              try clear hcz14_0
                              try clear hcz14_1
                              try clear hcz14_2
                              try clear hcz19_0
                              try clear hcz19_1
                              try clear hcz19_2
                              try clear hcz25_0
                              try clear hcz25_1
                              try clear hcz25_2
                              try clear hcz34_0
                              try clear hcz34_1
                              try clear hcz34_2
                              try clear hcz36_0
                              try clear hcz36_1
                              try clear hcz36_2
                              try clear hcz38_0
                              try clear hcz38_1
                              try clear hcz38_2
                              try clear hcz39_0
                              try clear hcz39_1
                              try clear hcz39_2
                              try clear hcz43_0
                              try clear hcz43_1
                              try clear hcz43_2
                              try clear hcz44_0
                              try clear hcz44_1
                              try clear hcz44_2
                              try clear hfz11_0
                              try clear hfz11_1
                              try clear hfz11_2
                              try clear hfz13_0
                              try clear hfz13_1
                              try clear hfz13_2
                              try clear hfz14_0
                              try clear hfz14_1
                              try clear hfz14_2
                              try clear hfz19_0
                              try clear hfz19_1
                              try clear hfz19_2
                              try clear hfz25_0
                              try clear hfz25_1
                              try clear hfz25_2
                              try clear hfz34_0
                              try clear hfz34_1
                              try clear hfz34_2
                              try clear hfz36_0
                              try clear hfz36_1
                              try clear hfz36_2
                              try clear hfz38_0
                              try clear hfz38_1
                              try clear hfz38_2
                              try clear hfz39_0
                              try clear hfz39_1
                              try clear hfz39_2
                              try clear hfz43_0
                              try clear hfz43_1
                              try clear hfz43_2
                              try clear hfz44_0
                              try clear hfz44_1
                              try clear hfz44_2
                              try clear hx135_0
                              try clear hx135_1
                              try clear hx135_2
                              try clear p1
                              try clear p13
                              try clear p135
                              try clear p2
                              try clear p6
                              try clear q1
                              try clear q13
                              try clear q135
                              obtain ⟨kq, x82_39, rfl, HA, HJ39, HO_7, BK136, HB⟩ := hcut
                              cases kq with
                              | zero => exact absurd HA.out (by simp [dowserref01_Take.j7])
                              | succ kj39 =>
                                have H := HA.out
                                clear HA
                                simp only [dowserref01_Take.j7] at H
                                have HC45 := Aside0.mk H
                                clear H
                                go_upto_if 82 with (fail)
                                go_cut [0, 8, 11] (fun v0 v8 v11 wc => ∃ (kq : Nat) (x0_44 : ByteArray) (x8_44 : Int) (x11_44 : ByteArray), v0 = .string x0_44 ∧ v8 = .int .i64 x8_44 ∧ v11 = .string x11_44 ∧ Aside0 (dowserref01_Take.j8 kq x0_44 x7_1 x8_44 x11_44 l1 (l1.length : Int) x19_1 ((rd_T67 l1 x19_1).f0) ((rd_T67 l1 x19_1).f1) ((rd_T67 l1 x19_1).f2) = some (r1, r2, r3)) ∧ Aside0 (kq ≤ kj39) ∧ Aside0 (Kd.R Kd.string 9 wc w.heap.size (fun _ => True) u7 x7_1) ∧ Aside0 (wc.heap[gb136]? = some (.cells #[.int .i64 ((rd_T67 l1 x19_1).f0), .int .u64 ((rd_T67 l1 x19_1).f1), .int .i64 ((rd_T67 l1 x19_1).f2)] 67 (0, 0))) ∧ Aside0 (Below w.heap.size w wc))
                                case first =>
                                  have H := HC45.out
                                  clear HC45
                                  by_cases c46 : x82_39 = true
                                  · subst c46
                                    have H1 : (if x12_19 > (x0_19.size : Int) then (dowserref01_Take.j8 kj39 x0_19 x7_1 2 x11_19 l1 (l1.length : Int) x19_1 ((rd_T67 l1 x19_1).f0) ((rd_T67 l1 x19_1).f1) ((rd_T67 l1 x19_1).f2)) else (if 0 ≤ x12_19 then (if x12_19 ≤ (x0_19.size : Int) then (dowserref01_Take.j8 kj39 (x0_19.extract (x12_19 : Int).toNat x0_19.size) x7_1 x8_19 (x0_19.extract 0 (x12_19 : Int).toNat) l1 (l1.length : Int) x19_1 ((rd_T67 l1 x19_1).f0) ((rd_T67 l1 x19_1).f1) ((rd_T67 l1 x19_1).f2)) else (none)) else (none))) = some (r1, r2, r3) := by rw [if_pos rfl] at H; exact H
                                    clear H
                                    have H := H1
                                    clear H1
                                    by_cases c47 : x12_19 > (x0_19.size : Int)
                                    · rw [if_pos c47] at H
                                      have c47b0 : decide ((x0_19.size : Int) < x12_19) = true := decide_eq_true c47
                                      clear c47
                                      (first | rw [c47b0] | (simp only [i64_w, i32_w]; rw [c47b0]) | skip)
                                      have H' := Aside0.mk H
                                      clear H
                                      go_wp2
                                      go_meet
                                      case rel => exact ⟨_, (x0_19), (2), (x11_19), (by first | rfl | (simp; done) | (simp [*]; done) | (simp; rw [Bool.eq_iff_iff]; simp; done)), (by first | rfl | (simp; done) | (simp [*]; done) | (simp; rw [Bool.eq_iff_iff]; simp; done)), (by first | rfl | (simp; done) | (simp [*]; done) | (simp; rw [Bool.eq_iff_iff]; simp; done)), H', ⟨by have := HK1.out; have := HJ8.out; have := HJ14.out; have := HJ16.out; have := HJ19.out; have := HJ39.out; first | omega | exact Nat.le_refl _⟩, ⟨by (with_reducible repeat (first | apply Kd.R_alloc | apply Kd.R_drewN | apply Kd.R_drew)); exact HO_7.out⟩, ⟨by (with_reducible repeat (first | refine blk_drewN ?_ _ | refine blk_drew ?_ | refine blk_alloc ?_ _)); exact BK136.out⟩, ⟨by repeat (first | (with_reducible first | exact HB.out | apply below_alloc | apply pw_below_drewN | apply below_drew1 | refine below_set ?_ GE136.out) | exact HB.out)⟩⟩
                                    · rw [if_neg c47] at H
                                      have c47b0 : decide ((x0_19.size : Int) < x12_19) = false := decide_eq_false c47
                                      clear c47
                                      (first | rw [c47b0] | (simp only [i64_w, i32_w]; rw [c47b0]) | skip)
                                      by_cases c48 : 0 ≤ x12_19
                                      · rw [if_pos c48] at H
                                        have c48b0 := eq_true c48
                                        have c48b1 : decide (0 ≤ x12_19) = true := decide_eq_true c48
                                        clear c48
                                        by_cases c49 : x12_19 ≤ (x0_19.size : Int)
                                        · rw [if_pos c49] at H
                                          have c49b0 := eq_true c49
                                          have c49b1 : decide (x12_19 ≤ (x0_19.size : Int)) = true := decide_eq_true c49
                                          clear c49
                                          have c50b0 := eq_true (of_decide_eq_true (by first | (with_reducible assumption) | assumption) : 0 ≤ x12_19)
                                          have c51b0 := eq_true (of_decide_eq_true (by first | (with_reducible assumption) | assumption) : x12_19 ≤ (x0_19.size : Int))
                                          have H' := Aside0.mk H
                                          clear H
                                          go_wp2
                                          go_meet
                                          case rel => exact ⟨_, (x0_19.extract (x12_19 : Int).toNat x0_19.size), (x8_19), (x0_19.extract 0 (x12_19 : Int).toNat), (by first | rfl | (simp; done) | (simp [*]; done) | (simp; rw [Bool.eq_iff_iff]; simp; done)), (by first | rfl | (simp; done) | (simp [*]; done) | (simp; rw [Bool.eq_iff_iff]; simp; done)), (by first | rfl | (simp; done) | (simp [*]; done) | (simp; rw [Bool.eq_iff_iff]; simp; done)), H', ⟨by have := HK1.out; have := HJ8.out; have := HJ14.out; have := HJ16.out; have := HJ19.out; have := HJ39.out; first | omega | exact Nat.le_refl _⟩, ⟨by (with_reducible repeat (first | apply Kd.R_alloc | apply Kd.R_drewN | apply Kd.R_drew)); exact HO_7.out⟩, ⟨by (with_reducible repeat (first | refine blk_drewN ?_ _ | refine blk_drew ?_ | refine blk_alloc ?_ _)); exact BK136.out⟩, ⟨by repeat (first | (with_reducible first | exact HB.out | apply below_alloc | apply pw_below_drewN | apply below_drew1 | refine below_set ?_ GE136.out) | exact HB.out)⟩⟩
                                        · rw [if_neg c49] at H
                                          exact absurd H (by simp)
                                      · rw [if_neg c48] at H
                                        exact absurd H (by simp)
                                  · replace c46 := Bool.eq_false_iff.mpr c46
                                    subst c46
                                    have H1 : (dowserref01_Take.j8 kj39 x0_19 x7_1 x8_19 x11_19 l1 (l1.length : Int) x19_1 ((rd_T67 l1 x19_1).f0) ((rd_T67 l1 x19_1).f1) ((rd_T67 l1 x19_1).f2)) = some (r1, r2, r3) := by rw [if_neg (show ¬ (false = true) by decide)] at H; exact H
                                    clear H
                                    have H := H1
                                    clear H1
                                    have H' := Aside0.mk H
                                    clear H
                                    go_wp2
                                    go_meet
                                    case rel => exact ⟨_, (x0_19), (x8_19), (x11_19), (by first | rfl | (simp; done) | (simp [*]; done) | (simp; rw [Bool.eq_iff_iff]; simp; done)), (by first | rfl | (simp; done) | (simp [*]; done) | (simp; rw [Bool.eq_iff_iff]; simp; done)), (by first | rfl | (simp; done) | (simp [*]; done) | (simp; rw [Bool.eq_iff_iff]; simp; done)), H', ⟨by have := HK1.out; have := HJ8.out; have := HJ14.out; have := HJ16.out; have := HJ19.out; have := HJ39.out; first | omega | exact Nat.le_refl _⟩, ⟨by (with_reducible repeat (first | apply Kd.R_alloc | apply Kd.R_drewN | apply Kd.R_drew)); exact HO_7.out⟩, ⟨by (with_reducible repeat (first | refine blk_drewN ?_ _ | refine blk_drew ?_ | refine blk_alloc ?_ _)); exact BK136.out⟩, ⟨by repeat (first | (with_reducible first | exact HB.out | apply below_alloc | apply pw_below_drewN | apply below_drew1 | refine below_set ?_ GE136.out) | exact HB.out)⟩⟩
                                case rest =>
                                  clear HC45
                                  try clear c1
                                  try clear p1
                                  try clear q1
                                  try clear hx1
                                  try clear c2
                                  try clear p2
                                  try clear c3
                                  try clear c4
                                  try clear c5
                                  try clear c5b0
                                  try clear c6
                                  try clear c6b0
                                  try clear p6
                                  try clear c7
                                  try clear c7b0
                                  try clear c12
                                  try clear c12b0
                                  try clear c12b1
                                  try clear p13
                                  try clear q13
                                  try clear hx13
                                  try clear c16
                                  try clear c18
                                  try clear c18b0
                                  try clear c18b1
                                  try clear c21
                                  try clear c24
                                  try clear c24b0
                                  try clear c24b1
                                  try clear c27
                                  try clear c28
                                  try clear c28b0
                                  try clear c28b1
                                  try clear c29
                                  try clear c29b0
                                  try clear c29b1
                                  try clear c30
                                  try clear c30b0
                                  try clear c30b1
                                  try clear c31
                                  try clear c32
                                  try clear c32b0
                                  try clear c32b1
                                  try clear c37
                                  try clear c37b0
                                  try clear c37b1
                                  try clear c41
                                  try clear c41b0
                                  try clear c41b1
                                  try clear c42
                                  try clear c42b0
                                  try clear c42b1
                                  try clear c46
                                  try clear c47
                                  try clear c47b0
                                  try clear c48
                                  try clear c48b0
                                  try clear c48b1
                                  try clear c49
                                  try clear c49b0
                                  try clear c49b1
                                  try clear c50
                                  try clear c50b0
                                  try clear c51
                                  try clear c51b0
                                  try clear hcz11_0
                                  try clear hcz11_1
                                  try clear hcz11_2
                                  try clear hcz13_0
                                  try clear hcz13_1
                                  try clear hcz13_2
                                  try clear hcz14_0
                                  try clear hcz14_1
                                  try clear hcz14_2
                                  try clear hcz19_0
                                  try clear hcz19_1
                                  try clear hcz19_2
                                  try clear hcz25_0
                                  try clear hcz25_1
                                  try clear hcz25_2
                                  try clear hcz34_0
                                  try clear hcz34_1
                                  try clear hcz34_2
                                  try clear hcz36_0
                                  try clear hcz36_1
                                  try clear hcz36_2
                                  try clear hcz38_0
                                  try clear hcz38_1
                                  try clear hcz38_2
                                  try clear hcz39_0
                                  try clear hcz39_1
                                  try clear hcz39_2
                                  try clear hcz43_0
                                  try clear hcz43_1
                                  try clear hcz43_2
                                  try clear hcz44_0
                                  try clear hcz44_1
                                  try clear hcz44_2
                                  try clear hfz11_0
                                  try clear hfz11_1
                                  try clear hfz11_2
                                  try clear hfz13_0
                                  try clear hfz13_1
                                  try clear hfz13_2
                                  try clear hfz14_0
                                  try clear hfz14_1
                                  try clear hfz14_2
                                  try clear hfz19_0
                                  try clear hfz19_1
                                  try clear hfz19_2
                                  try clear hfz25_0
                                  try clear hfz25_1
                                  try clear hfz25_2
                                  try clear hfz34_0
                                  try clear hfz34_1
                                  try clear hfz34_2
                                  try clear hfz36_0
                                  try clear hfz36_1
                                  try clear hfz36_2
                                  try clear hfz38_0
                                  try clear hfz38_1
                                  try clear hfz38_2
                                  try clear hfz39_0
                                  try clear hfz39_1
                                  try clear hfz39_2
                                  try clear hfz43_0
                                  try clear hfz43_1
                                  try clear hfz43_2
                                  try clear hfz44_0
                                  try clear hfz44_1
                                  try clear hfz44_2
                                  try clear hx135_0
                                  try clear hx135_1
                                  try clear hx135_2
                                  try clear p1
                                  try clear p13
                                  try clear p135
                                  try clear p2
                                  try clear p6
                                  try clear q1
                                  try clear q13
                                  try clear q135
                                  obtain ⟨kq, x0_44, x8_44, x11_44, rfl, rfl, rfl, HA, HJ44, HO_7, BK136, HB⟩ := hcut
                                  cases kq with
                                  | zero => exact absurd HA.out (by simp [dowserref01_Take.j8])
                                  | succ kj44 =>
                                    have H := HA.out
                                    clear HA
                                    simp only [dowserref01_Take.j8] at H
                                    by_cases c52 : x8_44 = 0
                                    · rw [if_pos c52] at H
                                      have c52b0 : (x8_44 == 0) = true := beq_iff_eq.mpr c52
                                      have c52b1 : (x8_44 != 0) = false := bne_eq_false_iff_eq.mpr c52
                                      clear c52
                                      by_cases c53 : x7_1.length < 8796093022208
                                      · rw [if_pos c53] at H
                                        have LMc53 := Aside0.mk c53
                                        clear c53
                                        obtain ⟨y141, hy141⟩ : ∃ y_ : List ByteArray, y_ = (x7_1 ++ [x11_44]) := ⟨_, rfl⟩
                                        replace H : (dowserref01_Take.l0 kj44 x0_44 y141 x8_44 l1 (l1.length : Int) (wrap64 (x19_1 + 1))) = some (r1, r2, r3) := by first | (rw [hy141]; with_reducible exact H) | (have H2_ := (Option.bind_some _ _).symm.trans H; rw [hy141]; with_reducible exact H2_) | (have H2_ := (Option.bind_some _ _).symm.trans H; with_reducible exact H2_) | with_reducible exact H | (rw [hy141]; exact H) | exact H
                                        have Ny141 := Aside0.mk hy141
                                        clear hy141
                                        have H' := Aside0.mk H
                                        clear H
                                        go_wp2_with (first | ((with_reducible refine gate_builtin (b := .append) (xs := #[.tmp 99, .tmp 101]) rfl ?_); at_builtin; refine Kd.R_append Kd.string (w0 := w) w.heap.size rfl (.tmp 99) (.tmp 101) 68 9 (.string ⟨#[]⟩) 16 rfl Try.underlying68 info9 rfl (by decide) (by omega) u7 x7_1 x11_44 [.string x11_44] (fun _ => True) (fun _ => False) rfl rfl ?aP (fun _ hk => hk.elim) ?aF ?aO ?aB ?aS ?aL ?_; (case aP => exact rfl); (case aB => exact (by repeat (first | (with_reducible first | exact HB.out | apply below_alloc | apply pw_below_drewN | apply below_drew1 | refine below_set ?_ GE136.out) | exact HB.out))); (case aF => exact (fun _ _ => trivial)); (case aO => exact (by (with_reducible repeat (first | apply Kd.R_alloc | apply Kd.R_drewN | apply Kd.R_drew)); exact HO_7.out)); (case aS => exact (below_size (by repeat (first | (with_reducible first | exact HB.out | apply below_alloc | apply pw_below_drewN | apply below_drew1 | refine below_set ?_ GE136.out) | exact HB.out)))); (case aL => have := LMc53.out; omega); intro v142 w54 ho hb hg hat; rw [← Ny141.out] at ho; have n0_ := Aside0.mk (blk_grown (g := gb136) (o := .cells #[.int .i64 ((rd_T67 l1 x19_1).f0), .int .u64 ((rd_T67 l1 x19_1).f1), .int .i64 ((rd_T67 l1 x19_1).f2)] 67 (0, 0)) (by (with_reducible repeat (first | refine blk_drewN ?_ _ | refine blk_drew ?_ | refine blk_alloc ?_ _)); exact BK136.out) hg (Kd.R_ne HO_7.out BK136.out (by decide))); have n1_ := Aside0.mk (hb); have n2_ := Aside0.mk (ho); clear BK136; clear HB; clear HO_7; have BK136 := n0_; have HB := n1_; have HO143 := n2_; clear n0_ n1_ n2_; clear ho hb hg hat))
                                        go_roundg kj44
                                        case measure => have := HK1.out; have := HJ8.out; have := HJ14.out; have := HJ16.out; have := HJ19.out; have := HJ39.out; have := HJ44.out; omega
                                        case rel => exact ⟨(x0_44), (y141), (x8_44), (wrap64 (x19_1 + 1)), (by first | rfl | (simp; done) | (simp [*]; done) | (simp; rw [Bool.eq_iff_iff]; simp; done)), (by first | rfl | (simp; done) | (simp [*]; done) | (simp; rw [Bool.eq_iff_iff]; simp; done)), (by first | rfl | (simp; done) | (simp [*]; done) | (simp; rw [Bool.eq_iff_iff]; simp; done)), H', ⟨by have := HK1.out; have := HJ8.out; have := HJ14.out; have := HJ16.out; have := HJ19.out; have := HJ39.out; have := HJ44.out; omega⟩, ⟨by (with_reducible repeat (first | apply Kd.R_alloc | apply Kd.R_drewN | apply Kd.R_drew)); exact HO143.out⟩, ⟨by repeat (first | (with_reducible first | exact HB.out | apply below_alloc | apply pw_below_drewN | apply below_drew1 | refine below_set ?_ GE136.out) | exact HB.out)⟩⟩
                                      · rw [if_neg c53] at H
                                        exact absurd H (by simp)
                                    · rw [if_neg c52] at H
                                      have c52b0 : (x8_44 == 0) = false := beq_eq_false_iff_ne.mpr c52
                                      have c52b1 : (x8_44 != 0) = true := bne_iff_ne.mpr c52
                                      by_cases c55 : ((rd_T67 l1 x19_1).f0) = 0
                                      · rw [if_pos c55] at H
                                        have c55b0 : (((rd_T67 l1 x19_1).f0) == 0) = true := beq_iff_eq.mpr c55
                                        have c55b1 : (((rd_T67 l1 x19_1).f0) != 0) = false := bne_eq_false_iff_eq.mpr c55
                                        clear c55
                                        replace H := Option.bind_eq_some_iff.mp H
                                        obtain ⟨t144, A560, H⟩ := H
                                        replace H : (if x7_1.length < 8796093022208 then (dowserref01_Take.l0 kj44 (⟨#[]⟩ : ByteArray) (x7_1 ++ [t144]) x8_44 l1 (l1.length : Int) (wrap64 (x19_1 + 1))) else (none)) = some (r1, r2, r3) := H
                                        have A56 := Aside0.mk A560
                                        clear A560
                                        by_cases c57 : x7_1.length < 8796093022208
                                        · rw [if_pos c57] at H
                                          have LMc57 := Aside0.mk c57
                                          clear c57
                                          obtain ⟨y145, hy145⟩ : ∃ y_ : List ByteArray, y_ = (x7_1 ++ [t144]) := ⟨_, rfl⟩
                                          replace H : (dowserref01_Take.l0 kj44 (⟨#[]⟩ : ByteArray) y145 x8_44 l1 (l1.length : Int) (wrap64 (x19_1 + 1))) = some (r1, r2, r3) := by first | (rw [hy145]; with_reducible exact H) | (have H2_ := (Option.bind_some _ _).symm.trans H; rw [hy145]; with_reducible exact H2_) | (have H2_ := (Option.bind_some _ _).symm.trans H; with_reducible exact H2_) | with_reducible exact H | (rw [hy145]; exact H) | exact H
                                          have Ny145 := Aside0.mk hy145
                                          clear hy145
                                          have H' := Aside0.mk H
                                          clear H
                                          have hcz58_0 : wc.cell? ⟨gb136, 0, none⟩ = some (.int .i64 ((rd_T67 l1 x19_1).f0)) := (blk_cell BK136.out 0).trans rfl
                                          have hcz58_1 : wc.cell? ⟨gb136, 1, none⟩ = some (.int .u64 ((rd_T67 l1 x19_1).f1)) := (blk_cell BK136.out 1).trans rfl
                                          have hcz58_2 : wc.cell? ⟨gb136, 2, none⟩ = some (.int .i64 ((rd_T67 l1 x19_1).f2)) := (blk_cell BK136.out 2).trans rfl
                                          have hfz58_0 := blk_frozen BK136.out 0
                                          have hfz58_1 := blk_frozen BK136.out 1
                                          have hfz58_2 := blk_frozen BK136.out 2
                                          go_wp2_with (first | ((with_reducible refine gate_callee (f := 31) rfl ?_); refine goesL_ (some 98) rfl rfl Try.func31 (by kernel_rfl) rfl #[.int .u64 0] rfl (by (try simp only [List.map_toArray, List.map_cons, List.map_nil]); first | done | rfl | (simp only [List.length_drop, List.length_take]; rfl)) ?_; (with_reducible refine (dowserref01_Num.calls kj44 0 t144 _ A56.out).mono ?_); rintro e w59 ⟨rfl, hb⟩; refine ⟨_, rfl, ?_⟩; have n0_ := Aside0.mk (Kd.R_below (by (with_reducible repeat (first | apply Kd.R_alloc | apply Kd.R_drewN | apply Kd.R_drew)); exact HO_7.out) hb); have n1_ := Aside0.mk (blk_below (g := gb136) (o := .cells #[.int .i64 ((rd_T67 l1 x19_1).f0), .int .u64 ((rd_T67 l1 x19_1).f1), .int .i64 ((rd_T67 l1 x19_1).f2)] 67 (0, 0)) (by (with_reducible repeat (first | refine blk_drewN ?_ _ | refine blk_drew ?_ | refine blk_alloc ?_ _)); exact BK136.out) hb); have n2_ := Aside0.mk (below_step (by repeat (first | (with_reducible first | exact HB.out | apply below_alloc | apply pw_below_drewN | apply below_drew1 | refine below_set ?_ GE136.out) | exact HB.out)) hb); clear HO_7; clear BK136; clear HB; have HO_7 := n0_; have BK136 := n1_; have HB := n2_; clear n0_ n1_ n2_; (try clear hb); (try clear hb2); (try clear hk); (try clear hi)) | ((with_reducible refine gate_builtin (b := .append) (xs := #[.tmp 99, .tmp 101]) rfl ?_); at_builtin; refine Kd.R_append Kd.string (w0 := w) w.heap.size rfl (.tmp 99) (.tmp 101) 68 9 (.string ⟨#[]⟩) 16 rfl Try.underlying68 info9 rfl (by decide) (by omega) u7 x7_1 t144 [.string t144] (fun _ => True) (fun _ => False) rfl rfl ?aP (fun _ hk => hk.elim) ?aF ?aO ?aB ?aS ?aL ?_; (case aP => exact rfl); (case aB => exact (by repeat (first | (with_reducible first | exact HB.out | apply below_alloc | apply pw_below_drewN | apply below_drew1 | refine below_set ?_ GE136.out) | exact HB.out))); (case aF => exact (fun _ _ => trivial)); (case aO => exact (by (with_reducible repeat (first | apply Kd.R_alloc | apply Kd.R_drewN | apply Kd.R_drew)); exact HO_7.out)); (case aS => exact (below_size (by repeat (first | (with_reducible first | exact HB.out | apply below_alloc | apply pw_below_drewN | apply below_drew1 | refine below_set ?_ GE136.out) | exact HB.out)))); (case aL => have := LMc57.out; omega); intro v146 w60 ho hb hg hat; rw [← Ny145.out] at ho; have n0_ := Aside0.mk (blk_grown (g := gb136) (o := .cells #[.int .i64 ((rd_T67 l1 x19_1).f0), .int .u64 ((rd_T67 l1 x19_1).f1), .int .i64 ((rd_T67 l1 x19_1).f2)] 67 (0, 0)) (by (with_reducible repeat (first | refine blk_drewN ?_ _ | refine blk_drew ?_ | refine blk_alloc ?_ _)); exact BK136.out) hg (Kd.R_ne HO_7.out BK136.out (by decide))); have n1_ := Aside0.mk (hb); have n2_ := Aside0.mk (ho); clear BK136; clear HB; clear HO_7; have BK136 := n0_; have HB := n1_; have HO147 := n2_; clear n0_ n1_ n2_; clear ho hb hg hat))
                                          go_roundg kj44
                                          case measure => have := HK1.out; have := HJ8.out; have := HJ14.out; have := HJ16.out; have := HJ19.out; have := HJ39.out; have := HJ44.out; omega
                                          case rel => exact ⟨((⟨#[]⟩ : ByteArray)), (y145), (x8_44), (wrap64 (x19_1 + 1)), (by first | rfl | (simp; done) | (simp [*]; done) | (simp; rw [Bool.eq_iff_iff]; simp; done)), (by first | rfl | (simp; done) | (simp [*]; done) | (simp; rw [Bool.eq_iff_iff]; simp; done)), (by first | rfl | (simp; done) | (simp [*]; done) | (simp; rw [Bool.eq_iff_iff]; simp; done)), H', ⟨by have := HK1.out; have := HJ8.out; have := HJ14.out; have := HJ16.out; have := HJ19.out; have := HJ39.out; have := HJ44.out; omega⟩, ⟨by (with_reducible repeat (first | apply Kd.R_alloc | apply Kd.R_drewN | apply Kd.R_drew)); exact HO147.out⟩, ⟨by repeat (first | (with_reducible first | exact HB.out | apply below_alloc | apply pw_below_drewN | apply below_drew1 | refine below_set ?_ GE136.out) | exact HB.out)⟩⟩
                                        · rw [if_neg c57] at H
                                          exact absurd H (by simp)
                                      · rw [if_neg c55] at H
                                        have c55b0 : (((rd_T67 l1 x19_1).f0) == 0) = false := beq_eq_false_iff_ne.mpr c55
                                        have c55b1 : (((rd_T67 l1 x19_1).f0) != 0) = true := bne_iff_ne.mpr c55
                                        by_cases c61 : x7_1.length < 8796093022208
                                        · rw [if_pos c61] at H
                                          have LMc61 := Aside0.mk c61
                                          clear c61
                                          obtain ⟨y148, hy148⟩ : ∃ y_ : List ByteArray, y_ = (x7_1 ++ [(⟨#[]⟩ : ByteArray)]) := ⟨_, rfl⟩
                                          replace H : (dowserref01_Take.l0 kj44 (⟨#[]⟩ : ByteArray) y148 x8_44 l1 (l1.length : Int) (wrap64 (x19_1 + 1))) = some (r1, r2, r3) := by first | (rw [hy148]; with_reducible exact H) | (have H2_ := (Option.bind_some _ _).symm.trans H; rw [hy148]; with_reducible exact H2_) | (have H2_ := (Option.bind_some _ _).symm.trans H; with_reducible exact H2_) | with_reducible exact H | (rw [hy148]; exact H) | exact H
                                          have Ny148 := Aside0.mk hy148
                                          clear hy148
                                          have H' := Aside0.mk H
                                          clear H
                                          have hcz62_0 : wc.cell? ⟨gb136, 0, none⟩ = some (.int .i64 ((rd_T67 l1 x19_1).f0)) := (blk_cell BK136.out 0).trans rfl
                                          have hcz62_1 : wc.cell? ⟨gb136, 1, none⟩ = some (.int .u64 ((rd_T67 l1 x19_1).f1)) := (blk_cell BK136.out 1).trans rfl
                                          have hcz62_2 : wc.cell? ⟨gb136, 2, none⟩ = some (.int .i64 ((rd_T67 l1 x19_1).f2)) := (blk_cell BK136.out 2).trans rfl
                                          have hfz62_0 := blk_frozen BK136.out 0
                                          have hfz62_1 := blk_frozen BK136.out 1
                                          have hfz62_2 := blk_frozen BK136.out 2
                                          go_wp2_with (first | ((with_reducible refine gate_builtin (b := .append) (xs := #[.tmp 99, .tmp 101]) rfl ?_); at_builtin; refine Kd.R_append Kd.string (w0 := w) w.heap.size rfl (.tmp 99) (.tmp 101) 68 9 (.string ⟨#[]⟩) 16 rfl Try.underlying68 info9 rfl (by decide) (by omega) u7 x7_1 (⟨#[]⟩ : ByteArray) [.string (⟨#[]⟩ : ByteArray)] (fun _ => True) (fun _ => False) rfl rfl ?aP (fun _ hk => hk.elim) ?aF ?aO ?aB ?aS ?aL ?_; (case aP => exact rfl); (case aB => exact (by repeat (first | (with_reducible first | exact HB.out | apply below_alloc | apply pw_below_drewN | apply below_drew1 | refine below_set ?_ GE136.out) | exact HB.out))); (case aF => exact (fun _ _ => trivial)); (case aO => exact (by (with_reducible repeat (first | apply Kd.R_alloc | apply Kd.R_drewN | apply Kd.R_drew)); exact HO_7.out)); (case aS => exact (below_size (by repeat (first | (with_reducible first | exact HB.out | apply below_alloc | apply pw_below_drewN | apply below_drew1 | refine below_set ?_ GE136.out) | exact HB.out)))); (case aL => have := LMc61.out; omega); intro v149 w63 ho hb hg hat; rw [← Ny148.out] at ho; have n0_ := Aside0.mk (blk_grown (g := gb136) (o := .cells #[.int .i64 ((rd_T67 l1 x19_1).f0), .int .u64 ((rd_T67 l1 x19_1).f1), .int .i64 ((rd_T67 l1 x19_1).f2)] 67 (0, 0)) (by (with_reducible repeat (first | refine blk_drewN ?_ _ | refine blk_drew ?_ | refine blk_alloc ?_ _)); exact BK136.out) hg (Kd.R_ne HO_7.out BK136.out (by decide))); have n1_ := Aside0.mk (hb); have n2_ := Aside0.mk (ho); clear BK136; clear HB; clear HO_7; have BK136 := n0_; have HB := n1_; have HO150 := n2_; clear n0_ n1_ n2_; clear ho hb hg hat))
                                          go_roundg kj44
                                          case measure => have := HK1.out; have := HJ8.out; have := HJ14.out; have := HJ16.out; have := HJ19.out; have := HJ39.out; have := HJ44.out; omega
                                          case rel => exact ⟨((⟨#[]⟩ : ByteArray)), (y148), (x8_44), (wrap64 (x19_1 + 1)), (by first | rfl | (simp; done) | (simp [*]; done) | (simp; rw [Bool.eq_iff_iff]; simp; done)), (by first | rfl | (simp; done) | (simp [*]; done) | (simp; rw [Bool.eq_iff_iff]; simp; done)), (by first | rfl | (simp; done) | (simp [*]; done) | (simp; rw [Bool.eq_iff_iff]; simp; done)), H', ⟨by have := HK1.out; have := HJ8.out; have := HJ14.out; have := HJ16.out; have := HJ19.out; have := HJ39.out; have := HJ44.out; omega⟩, ⟨by (with_reducible repeat (first | apply Kd.R_alloc | apply Kd.R_drewN | apply Kd.R_drew)); exact HO150.out⟩, ⟨by repeat (first | (with_reducible first | exact HB.out | apply below_alloc | apply pw_below_drewN | apply below_drew1 | refine below_set ?_ GE136.out) | exact HB.out)⟩⟩
                                        · rw [if_neg c61] at H
                                          exact absurd H (by simp)
          · rw [if_neg c7] at H
            exact absurd H (by simp)
        · rw [if_neg c6] at H
          exact absurd H (by simp)
      · rw [if_neg c5] at H
        have c5b0 : decide (x19_1 < (l1.length : Int)) = false := decide_eq_false c5
        clear c5
        simp only [Option.some.injEq, Prod.mk.injEq] at H
        obtain ⟨rfl, rfl, rfl⟩ := H
        go_wp2
        go_ret3
        exact ⟨_, by first | rfl | (simp [errW_none, errW_some] <;> rfl) | (simp [*, errW_none, errW_some] <;> rfl), by (with_reducible repeat (first | apply Kd.R_alloc | apply Kd.R_drewN | apply Kd.R_drew)); exact HO_7.out, by repeat (first | (with_reducible first | exact HB.out | apply below_alloc | apply pw_below_drewN | apply below_drew1) | exact HB.out)⟩

end Go.Proofs.Ytfkgidiedpkbdaa.PT
